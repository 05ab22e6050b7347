/- The type Val, and slices of it: shape; the laws' own functions. -/
import Derived.Test.YtghljnfbbaklnaaGreatPutModuleO
namespace Go.Proofs.YtghljnfbbaklnaaGreat
open Go.RowKit
theorem by2 {p:Prop}(h:p:=by repeat (first|(with_reducible assumption)|(with_reducible refine E.In.drew ?_)|(with_reducible refine E.In.drewN ?_ _)|(with_reducible refine E.In.alloc ?_ _)|(refine E.In.below ?_ (by with_reducible assumption) ?_)|omega|(·simp)|(·(simp;omega)))):p:=h
theorem zi6 {e:E}(h:e.Ty Tryz.prog 143):∃(x0:Int) (x1:Int) (x2:ByteArray),e=(E.agg [.int .i64 x0,.int .i64 x1,.str x2])∧((Lit.int .i64 x0).wf=true)∧((Lit.int .i64 x1).wf=true)∧(x2.size≤9223372036854775807)∧True:=by
 obtain⟨fs,rfl,q0⟩:=h.agg_ Tryz.underlying143
 change E.TyF _ _ [3,3,9] at q0
 obtain⟨e0,r0,rfl,h0,q1⟩:=q0.cons_
 obtain⟨e1,r1,rfl,h1,q2⟩:=q1.cons_
 obtain⟨e2,r2,rfl,h2,q3⟩:=q2.cons_
 obtain rfl:=q3.nil_
 obtain⟨x0,rfl,gx0⟩:=h0.int_ Tryz.underlying3
 obtain⟨x1,rfl,gx1⟩:=h1.int_ Tryz.underlying3
 obtain⟨x2,rfl,gx2⟩:=h2.str_ Tryz.underlying9
 exact⟨x0,x1,x2,rfl,gx0,gx1,gx2,trivial⟩
theorem zu3 {e:E}(h:e.Ty Tryz.prog 75):∃(x0:Int) (x1:Int) (x2:ByteArray),e=(E.agg [.int .i64 x0,.int .i64 x1,.str x2])∧((Lit.int .i64 x0).wf=true)∧((Lit.int .i64 x1).wf=true)∧(x2.size≤9223372036854775807)∧True:=by
 obtain⟨fs,rfl,q0⟩:=h.agg_ Tryz.underlying75
 change E.TyF _ _ [3,3,9] at q0
 obtain⟨e0,r0,rfl,h0,q1⟩:=q0.cons_
 obtain⟨e1,r1,rfl,h1,q2⟩:=q1.cons_
 obtain⟨e2,r2,rfl,h2,q3⟩:=q2.cons_
 obtain rfl:=q3.nil_
 obtain⟨x0,rfl,gx0⟩:=h0.int_ Tryz.underlying3
 obtain⟨x1,rfl,gx1⟩:=h1.int_ Tryz.underlying3
 obtain⟨x2,rfl,gx2⟩:=h2.str_ Tryz.underlying9
 exact⟨x0,x1,x2,rfl,gx0,gx1,gx2,trivial⟩
set_option maxRecDepth 100000 in
set_option maxHeartbeats 1000000 in
theorem szVal_all {e:E}(ht:e.Ty Tryz.prog 143):Sz 92 e:=by
 obtain⟨x0,x1,x2,rfl,gx0,gx1,gx2,-⟩:=zi6 ht
 intro left w hr h0 h1
 have HSZ:Hid ((E.agg [.int .i64 x0,.int .i64 x1,.str x2]).sz=(0+(0+(x2.size+0)))):=rfl
 change Calls _ _ #[.agg #[.int .i64 x0,.int .i64 x1,.string x2],.int .i64 left] w _
 go_enter Tryz.func92,Tryz.ntmps92
 by_cases hn1:left-x2.size<0
 ·go_wp2
  go_ret
  exact⟨-1,rfl,.inl (by omega),by omega,by exact by0⟩
 go_wp2
 go_ret
 refine⟨_,rfl,.inr ?_,by omega,by exact by0⟩
 show _=_
 rw [HSZ.out]
 push_cast
 omega
set_option maxRecDepth 100000 in
set_option maxHeartbeats 1000000 in
theorem szValS_all' (A:Option Addr)(c:Nat)(l:List E)(ht:∀y∈l,y.Ty Tryz.prog 143):Sz 26 (.lst 3 143 A c l):=by
 intro left w hr h0 h1
 have hs:=hr.sl
 have hlen:=hs.len_le
 have HSZ:Hid ((E.lst 3 143 A c l).sz=l.length+E.szL l):=rfl
 change Calls _ _ #[.slice A l.length c,.int .i64 left] w _
 by_cases hneg:left-l.length<0
 ·go_enter Tryz.func26,Tryz.ntmps26
  go_wp2
  go_ret
  exact⟨-1,rfl,.inl (by omega),by omega,by exact by0⟩
 go_enter Tryz.func26,Tryz.ntmps26
 go_wp2
 go_loopw [1,5] (fun v i wr=>∃(k:Nat) (cur:Int),k≤l.length∧i=.int .i64 k∧v=.int .i64 cur∧0≤cur∧cur≤left∧Hid (cur+E.szL (l.take k)+l.length=left)∧Below w.heap.size w wr) (fun _ i _=>l.length-(intOf i).toNat)
 case atStart=>exact⟨0,_,Nat.zero_le _,rfl,rfl,by omega,by omega,(by show _=_;simp [E.szL]),Below.refl _ _⟩
 case round =>
  obtain⟨k,cur,hk,rfl,rfl,hc0,hc1,HQ,hb⟩:=hrel
  have hzb:=hb.size
  by_cases hlt:k<l.length
  ·have hs':=hs.below hb (Nat.le_refl _)
   have HT:=Lib.hid (E.szL_take l k hlt)
   obtain⟨b,o,rfl,_,hc⟩:=hs'.at_ hlt
   have hin:=(hr.el (List.getElem_mem hlt)).below hb (Nat.le_refl _)
   have H:=szVal_all (ht _ (List.getElem_mem hlt))
   obtain⟨y0,y1,y2,ex,gy0,gy1,gy2,-⟩:=zi6 (ht _ (List.getElem_mem hlt))
   have HEX:=Lib.hid ex
   rw [ex] at hc hin H
   clear ex
   have c0:=hc 0 _ rfl;have c1:=hc 1 _ rfl;have c2:=hc 2 _ rfl
   rw [Nat.add_zero] at c0
   clear hc
   go_wp2_with fail
   go_at_call 92
   refine (H _ _ hin hc0 (by omega)).mono ?_;rintro e w1 ⟨r,rfl,hrs,hrl,hb1⟩
   by_cases hn:r<0
   ·go_wp2
    go_ret
    exact⟨-1,rfl,.inl (by omega),by omega,by exact by0⟩
   ·have HR:=hrs.resolve_left hn
    clear hrs
    go_wp2
    go_roundw
    case rel=>exact⟨k+1,r,by omega,by go_num,rfl,by omega,by omega,(by show _=_;have e1:=HQ.out;have e2:=HT.out;have e3:=HR.out;rw [HEX.out] at e2;omega),by exact by0⟩
    case measure=>simp [intOf];omega
  ·have hk':k=l.length:=by omega
   subst hk'
   go_wp2
   go_ret
   refine⟨_,rfl,.inr ?_,by omega,hb⟩
   show _=_
   have e1:=HQ.out
   rw [List.take_length] at e1
   rw [HSZ.out]
   push_cast
   omega
theorem zy20 {e:E}(ht:e.Ty Tryz.prog 22):Sz 26 e:=by
 obtain⟨A,c,l,rfl,h1,_⟩:=ht.lst_ Tryz.underlying22 (k:=3) (by kernel_rfl)
 exact szValS_all' A c l h1
set_option maxRecDepth 100000 in
set_option maxHeartbeats 1000000 in
theorem toVal_all {e:E}(ht:e.Ty Tryz.prog 143):To 100 75 e:=by
 have HT0:=Lib.hid ht
 obtain⟨x0,x1,x2,rfl,gx0,gx1,gx2,-⟩:=zi6 ht
 intro w hr hsz
 have hsz':(0+(0+(x2.size+0)))≤1048576:=hsz
 clear hsz hsz'
 change Calls _ _ #[.agg #[.int .i64 x0,.int .i64 x1,.string x2]] w _
 go_enter Tryz.func100,Tryz.ntmps100
 go_wp2
 refine bodyPost_ret (v:=.agg #[.int .i64 x0,.int .i64 x1,.string x2]) (by simp [results,Tryz.results100,go_sem]) rfl ⟨(E.agg [.int .i64 x0,.int .i64 x1,.str x2]),rfl,rfl,E.Ty.mk_agg Tryz.underlying75 (E.TyF.mk_cons (show E.Ty _ _ _ from ⟨Tryz.underlying3,gx0⟩) (E.TyF.mk_cons (show E.Ty _ _ _ from ⟨Tryz.underlying3,gx1⟩) (E.TyF.mk_cons (show E.Ty _ _ _ from ⟨Tryz.underlying9,by unfold maxLen;exact gx2⟩) (E.TyF.mk_nil)))),?_,?_,by exact by0⟩
 ·simp [E.Ho,E.HoL]
 ·simp [E.fp,E.fpL]
theorem einfoVal:(Tryz.prog.info? 75).map (fun i=>(i.zero,i.size,i.bytes))=some (some (.agg #[.int .i64 0,.int .i64 0,.string ByteArray.empty]),3,32):=by kernel_rfl
set_option maxRecDepth 100000 in
set_option maxHeartbeats 1000000 in
theorem toValS_all' (A:Option Addr)(c:Nat)(l:List E)(h1:∀y∈l,y.Ty Tryz.prog 143):To 34 30 (.lst 3 143 A c l):=by
 intro w hr hsz
 have hs:=hr.sl
 have eS:(E.lst 3 143 A c l).sz=l.length+E.szL l:=rfl
 have hn:l.length≤1048576:=by omega
 have HS:=Lib.hid (show l.length+E.szL l≤1048576 by omega)
 clear eS hsz
 have hmk:=mk_eq Tryz.underlying30 einfoVal l.length (by omega) (by omega)
 have hF:=Fill.new w 75 #[.int .i64 0,.int .i64 0,.string ByteArray.empty] (l.length*3) ([]:List Value)
 change Calls _ _ #[.slice A l.length c] w _
 go_enter Tryz.func34,Tryz.ntmps34
 go_wp2
 go_loopw [4] (fun i wr=>∃(k:Nat) (us:List E),k≤l.length∧i=.int .i64 k∧Hid (us.length=k)∧Hid (us.map E.d=(l.take k).map E.d)∧Hid (∀u∈us,u.Ty Tryz.prog 75∧u.enc.length=3)∧Fill wr w.heap.size 75 (l.length*3) (k*3) (E.encL us)∧w.heap.size+1≤wr.heap.size∧Hid (∀u∈us,u.Ho wr (w.heap.size+1) wr.heap.size)∧Hid ((E.fpL us).Nodup)∧Below w.heap.size w wr) (fun i _=>l.length-(intOf i).toNat)
 case atStart=>exact⟨0,[],Nat.zero_le _,rfl,rfl,rfl,(fun u hu=>absurd hu List.not_mem_nil),by exact hF,by simp,(fun u hu=>absurd hu List.not_mem_nil),(by show List.Nodup _;simp [E.fpL]),by exact by0⟩
 case round =>
  obtain⟨k,us,hk,rfl,HL,HD,HT,hf,hge,HO,HN,hb⟩:=hrel
  by_cases hlt:k<l.length
  ·have hs':=hs.below hb (Nat.le_refl _)
   have hzb:=hb.size
   have hmem:=List.getElem_mem hlt
   have hin:=(hr.el hmem).below hb (Nat.le_refl _)
   have H:=toVal_all (h1 _ hmem)
   have hsk:l[k].sz≤1048576:=by have:=E.szL_mem hmem;have:=HS.out;omega
   obtain⟨b,o,rfl,_,hc⟩:=hs'.at_ hlt
   obtain⟨y0,y1,y2,ex,gy0,gy1,gy2,-⟩:=zi6 (h1 _ hmem)
   have HEX:=Lib.hid ex
   rw [ex] at hc hin H hsk
   clear ex
   have c0:=hc 0 _ rfl;have c1:=hc 1 _ rfl;have c2:=hc 2 _ rfl
   rw [Nat.add_zero] at c0
   clear hc
   have HF:=Lib.hid hf
   clear hf
   go_wp2_with fail
   go_at_call 100
   refine (H _ hin hsk).mono ?_;rintro e w1 ⟨x,he,HDX,htx,hox,hnx,hb1⟩
   have HTX:=Lib.hid htx
   obtain⟨z0,z1,z2,rfl,gz0,gz1,gz2,-⟩:=zu3 htx
   obtain rfl:e=.returned (.agg #[.int .i64 z0,.int .i64 z1,.string z2]):=he
   have hf1:=HF.out.below hb1 HF.out.lt
   obtain⟨u0,c0'⟩:=hf1.cell (j:=k*3) (by omega);obtain⟨u1,c1'⟩:=hf1.cell (j:=k*3+1) (by omega);obtain⟨u2,c2'⟩:=hf1.cell (j:=k*3+2) (by omega)
   have zfr:=hf1.frozen
   have hz1:=hb1.size
   have HOX:=Lib.hid hox
   have HNX:=Lib.hid hnx
   have HF1:=Lib.hid hf1
   clear hox hnx hf1 htx
   go_wp2
   go_roundw
   case rel =>
    have hl:=HL.out
    have hf1:=HF1.out
    have hT:∀u∈us++[(E.agg [.int .i64 z0,.int .i64 z1,.str z2])],u.Ty Tryz.prog 75∧u.enc.length=3:=fun u hu=>by
     rcases List.mem_append.1 hu with hu|hu
     ·exact HT.out u hu
     ·obtain rfl:=List.mem_singleton.1 hu
      exact⟨HTX.out,rfl⟩
    have hlen:=E.encL_len fun u hu=>(HT.out u hu).2
    have hk2:k<(us++[(E.agg [.int .i64 z0,.int .i64 z1,.str z2])]).length:=by simp;omega
    have ev:=fun j hj=>E.encL_at (fun u hu=>(hT u hu).2) k hk2 j hj
    have eT:(us++[(E.agg [.int .i64 z0,.int .i64 z1,.str z2])])[k]=(E.agg [.int .i64 z0,.int .i64 z1,.str z2]):=by rw [List.getElem_append_right (by omega)];simp [hl]
    simp only [eT] at ev
    have hf2:Fill w1 w.heap.size 75 (l.length*3) (k*3) (E.encL (us++[(E.agg [.int .i64 z0,.int .i64 z1,.str z2])])):=hf1.swap' fun j hj=>E.encL_app_lt us _ j (by rw [hlen,hl];exact hj)
    have K:=fun (W:World) (h:Kp w.heap.size (w.heap.size+1) w1 W) (u:E) (hu:u∈us)=>((HO.out u hu).below hb1 (Nat.le_refl _)).kp h (.inr (by omega))
    refine⟨k+1,us++[(E.agg [.int .i64 z0,.int .i64 z1,.str z2])],by omega,by go_num,by show _=_;simp [hl],zy21 hlt HD.out (HDX.out.trans (by rw [←HEX.out])),hT,by rw [Nat.add_mul];exact (((hf2.set (by omega) (ev 0 (by omega))).set (by omega) (ev 1 (by omega))).set (by omega) (ev 2 (by omega))),by simp;omega,?_,?_,by exact by0⟩
    ·intro u hu
     rcases List.mem_append.1 hu with hu|hu
     ·exact (K _ (by repeat (first|(with_reducible exact Kp.refl _ _ _)|(refine Kp.set ?_ (by first|omega|(dsimp only;omega)|(simp;omega)) (by first|omega|(dsimp only;omega)|(simp;omega)) _))) u hu).wider (Nat.le_refl _) (by simp;omega)
     ·obtain rfl:=List.mem_singleton.1 hu
      exact (HOX.out.kp (lo':=w.heap.size) (hi':=w.heap.size+1) (by repeat (first|(with_reducible exact Kp.refl _ _ _)|(refine Kp.set ?_ (by first|omega|(dsimp only;omega)|(simp;omega)) (by first|omega|(dsimp only;omega)|(simp;omega)) _))) (.inr (by omega))).wider (by omega) (by simp)
    ·refine zu9 HN.out HNX.out fun g hg hg2=>?_
     obtain⟨u,hu,hg⟩:=E.mem_fpL.1 hg
     have:=(HO.out u hu).lt g hg
     have:=HOX.out.lt g hg2
     omega
   case measure=>simp [intOf];omega
  ·have hk':k=l.length:=by omega
   subst hk'
   go_wp2
   go_ret
   have hl:=HL.out
   have hTy:=HT.out
   have own:wr.ownsRow w.heap.size 75 3 (.slice (some ⟨w.heap.size,0,none⟩) l.length l.length) l.length (E.encL us):=hf.owns (Nat.le_refl _) rfl (by rw [E.encL_len fun u hu=>(hTy u hu).2,hl]) (by unfold maxLen;omega)
   rw [←hl] at own
   refine⟨.lst 3 75 (some ⟨w.heap.size,0,none⟩) us.length us,by rw [←hl];rfl,?_,E.Ty.mk_lst Tryz.underlying30 (by kernel_rfl) (fun u hu=>(hTy u hu).1) (fun u hu=>(hTy u hu).2),E.Ho.mk (Ow.of_owns own (Nat.le_refl _)) (fun u hu=>(hTy u hu).2) (fun u hu=>(HO.out u hu).wider (by omega) (Nat.le_refl _)),?_,hb⟩
   ·show E.d _=E.d _
    rw [zy13]
    have h:=HD.out
    rwa [List.take_length] at h
   ·simp only [E.fp,List.singleton_append,List.nodup_cons]
    refine⟨fun hm=>?_,HN.out⟩
    obtain⟨u,hu,hg⟩:=E.mem_fpL.1 hm
    have:=(HO.out u hu).lt _ hg
    omega
theorem zz20 {e:E}(ht:e.Ty Tryz.prog 22):To 34 30 e:=by
 obtain⟨A,c,l,rfl,h1,_⟩:=ht.lst_ Tryz.underlying22 (k:=3) (by kernel_rfl)
 exact toValS_all' A c l h1
set_option maxRecDepth 100000 in
set_option maxHeartbeats 1000000 in
theorem eqVal_all {e e':E}(ht:e.Ty Tryz.prog 75)(ht':e'.Ty Tryz.prog 75):Eq 115 e e':=by
 obtain⟨x0,x1,x2,rfl,gx0,gx1,gx2,-⟩:=zu3 ht
 obtain⟨y0,y1,y2,rfl,gy0,gy1,gy2,-⟩:=zu3 ht'
 intro hd w hr hr'
 simp only [E.d,E.dL,E.agg.injEq,List.cons.injEq,E.int.injEq,E.str.injEq,E.bool.injEq,E.lst.injEq,true_and,and_true] at hd
 obtain⟨rfl,rfl,rfl⟩:=hd
 change Calls _ _ #[.agg #[.int .i64 x0,.int .i64 x1,.string x2],.agg #[.int .i64 x0,.int .i64 x1,.string x2]] w _
 go_enter Tryz.func115,Tryz.ntmps115
 go_wp2
 go_ret
 exact⟨rfl,by0⟩
set_option maxRecDepth 100000 in
set_option maxHeartbeats 1000000 in
theorem eqValS_all' (A B:Option Addr)(c c':Nat)(l m:List E)(h1:∀y∈l,y.Ty Tryz.prog 75)(h2:∀y∈m,y.Ty Tryz.prog 75):Eq 42 (.lst 3 75 A c l) (.lst 3 75 B c' m):=by
 intro hd w hr hr'
 rw [zy13] at hd
 have hs:=hr.sl
 have hs':=hr'.sl
 have hml:=zx21 hd
 have HD:=Lib.hid hd
 clear hd
 have hlen:=hs.len_le
 change Calls _ _ #[.slice A l.length c,.slice B m.length c'] w _
 obtain⟨N,HN⟩:∃N,Hid (m.length=N):=⟨_,rfl⟩
 have hN:N=l.length:=by have:=HN.out;omega
 subst hN
 rw [HN.out]
 clear hml
 go_enter Tryz.func42,Tryz.ntmps42
 go_wp2
 go_loopw [5] (fun i wr=>∃(k:Nat),k≤l.length∧i=.int .i64 k∧Below w.heap.size w wr) (fun i _=>l.length-(intOf i).toNat)
 case atStart=>exact⟨0,Nat.zero_le _,rfl,Below.refl _ _⟩
 case round =>
  obtain⟨k,hk,rfl,hb⟩:=hrel
  by_cases hlt:k<l.length
  ·have hltm:k<m.length:=by have:=HN.out;omega
   have hsb:=hs.below hb (Nat.le_refl _)
   have hsb':=hs'.below hb (Nat.le_refl _)
   have hdk:=d_at HD.out hlt hltm
   obtain⟨b,o,rfl,_,hc⟩:=hsb.at_ hlt
   obtain⟨b',o',rfl,_,hd⟩:=hsb'.at_ hltm
   have hin:=(hr.el (List.getElem_mem hlt)).below hb (Nat.le_refl _)
   have hin':=(hr'.el (List.getElem_mem hltm)).below hb (Nat.le_refl _)
   have H:=eqVal_all (h1 _ (List.getElem_mem hlt)) (h2 _ (List.getElem_mem hltm)) hdk
   obtain⟨x0,x1,x2,ex,gx0,gx1,gx2,-⟩:=zu3 (h1 _ (List.getElem_mem hlt))
   obtain⟨y0,y1,y2,ey,gy0,gy1,gy2,-⟩:=zu3 (h2 _ (List.getElem_mem hltm))
   rw [ex] at hc hin
   rw [ey] at hd hin'
   rw [ex,ey] at H
   clear ex ey hdk
   have c0:=hc 0 _ rfl;have c1:=hc 1 _ rfl;have c2:=hc 2 _ rfl
   have d0:=hd 0 _ rfl;have d1:=hd 1 _ rfl;have d2:=hd 2 _ rfl
   rw [Nat.add_zero] at c0 d0
   clear hc hd
   have hzb:=hb.size
   have HH:=Lib.hid H
   clear H
   go_wp2
   go_region_held3 (fun w'=>w'.cell? ⟨b,o+k*3,none⟩=some (.int .i64 x0)∧w'.cell? ⟨b,o+k*3+1,none⟩=some (.int .i64 x1)∧w'.cell? ⟨b,o+k*3+2,none⟩=some (.string x2)∧w'.cell? ⟨b',o'+k*3,none⟩=some (.int .i64 y0)∧w'.cell? ⟨b',o'+k*3+1,none⟩=some (.int .i64 y1)∧w'.cell? ⟨b',o'+k*3+2,none⟩=some (.string y2))
    (first|exact⟨c0,c1,c2,d0,d1,d2⟩|skip)
    ((go_at_call 115;refine (HH.out _ by2 by2).mono ?_;rintro e w1 ⟨rfl,hb1⟩;have c0:=zp2 hb1 c0 by1;have c1:=zp2 hb1 c1 by1;have c2:=zp2 hb1 c2 by1;have d0:=zp2 hb1 d0 by1;have d1:=zp2 hb1 d1 by1;have d2:=zp2 hb1 d2 by1))
   go_wp2
   go_roundw
   case rel=>exact⟨k+1,by omega,by go_num,by exact by0⟩
   case measure=>simp [intOf];omega
  ·go_wp2
   go_ret
   exact⟨rfl,hb⟩
theorem za21 {e e':E}(ht:e.Ty Tryz.prog 30)(ht':e'.Ty Tryz.prog 30):Eq 42 e e':=by
 obtain⟨A,c,l,rfl,h1,_⟩:=ht.lst_ Tryz.underlying30 (k:=3) (by kernel_rfl)
 obtain⟨B,c',m,rfl,h2,_⟩:=ht'.lst_ Tryz.underlying30 (k:=3) (by kernel_rfl)
 exact eqValS_all' A B c c' l m h1 h2
set_option maxRecDepth 100000 in
set_option maxHeartbeats 1000000 in
theorem markValS_all' (A:Option Addr)(c:Nat)(l:List E)(h1:∀y∈l,y.Ty Tryz.prog 75)(h2:∀y∈l,y.enc.length=3):Mar 45 (.lst 3 75 A c l):=by
 intro lo hi k0 w ho hnd hhi hk0 hk1
 have HCN:Hid ((E.lst 3 75 A c l).cnt=E.cntcL l):=rfl
 rw [HCN.out] at hk1
 have HND:=Lib.hid hnd
 clear hnd
 have hlen:=ho.re.sl.len_le
 have how0:=ho
 rw [←zn7 l k0] at how0
 clear ho
 change Calls _ _ #[.slice A l.length c,.int .i64 k0] w _
 rw [HCN.out]
 change Calls _ _ _ w fun r w'=>r=.returned (.int .i64 (k0+(E.cntcL l:Nat)))∧(E.lst 3 75 A c (E.mkcL l k0)).Ho w' lo hi∧Fr (E.lst 3 75 A c l).fp w w'
 go_enter Tryz.func45,Tryz.ntmps45
 go_wp2
 go_loopw [1,5] (fun v i wr=>∃(k:Nat) (q:Int),k≤l.length∧i=.int .i64 k∧v=.int .i64 q∧Hid (q=k0+(E.cntcL (l.take k):Nat))∧Fr (E.lst 3 75 A c l).fp w wr∧Hid ((E.lst 3 75 A c (mixM l k0 k)).Ho wr lo hi)) (fun _ i _=>l.length-(intOf i).toNat)
 case atStart=>exact⟨0,k0,Nat.zero_le _,rfl,rfl,(by show _=_;simp [E.cntcL]),Fr.refl _ _,how0⟩
 case round =>
  obtain⟨k,q,hk,rfl,rfl,HQ,hF0,HOW⟩:=hrel
  have hzk:=hF0.size
  by_cases hlt:k<l.length
  ·have HT:=Lib.hid (E.cntcL_take l k hlt)
   have hq0:0≤q:=by have:=HQ.out;omega
   have hml:k<(mixM l k0 k).length:=by rw [zy7];exact hlt
   have how:=HOW.out
   obtain⟨g,rfl,hg1,hg2,hg3⟩:=how.head (by omega)
   obtain⟨y0,y1,y2,ex,gy0,gy1,gy2,-⟩:=zu3 (h1 _ (List.getElem_mem hlt))
   have HCX:Hid ((E.agg [.int .i64 y0,.int .i64 y1,.str y2]).cntc=(1+(1+(1+0)))):=rfl
   have hq1:q+(((1+(1+(1+0))):Nat):Int)≤1152921504606846976:=by have e1:=HQ.out;have e2:=HT.out;have e3:=E.cntcL_le l (k+1);rw [ex,HCX.out] at e2;omega
   have e0:mixM l k0 k=(mixM l k0 k).set k (E.agg [.int .i64 y0,.int .i64 y1,.str y2]):=by rw [←ex,←zc7 l k0 k hlt];exact (List.set_getElem_self _).symm
   have HN2:=Lib.hid (fun (z:E) (hz:z.fp=(E.agg [.int .i64 y0,.int .i64 y1,.str y2]).fp)=>(show (E.lst 3 75 (some ⟨g,0,none⟩) c ((mixM l k0 k).set k z)).fp.Nodup by have hh:=HND.out;have h3:E.fpL ((mixM l k0 k).set k z)=E.fpL l:=(E.fpL_set hml (by rw [hz,←ex,zc7 l k0 k hlt])).trans (zj11 l k0 k);simp only [E.fp] at hh ⊢;rw [h3];exact hh))
   have HSB:=Lib.hid (fun (b:Nat) (hb:b∈(E.agg [.int .i64 y0,.int .i64 y1,.str y2]).fp)=>(show b∈(E.lst 3 75 (some ⟨g,0,none⟩) c l).fp by simp only [E.fp];exact List.mem_append_right _ (E.mem_fpL.2 ⟨l[k],List.getElem_mem hlt,by rw [ex];exact hb⟩)))
   have hgm:g∈(E.lst 3 75 (some ⟨g,0,none⟩) c l).fp:=by simp [E.fp]
   have HGM:=Lib.hid hgm
   clear hgm
   rw [e0] at how
   clear e0
   obtain⟨ms,HMS⟩:∃ms,Hid (mixM l k0 k=ms):=⟨_,rfl⟩
   rw [HMS.out] at how hml HN2
   have HEX:=Lib.hid ex
   clear ex
   have HML:=Lib.hid hml
   clear hml
   have H0:=Lib.hid how
   clear how
   have c0_0:wr.cell? ⟨g,k*3,none⟩=some (.int .i64 y0):=H0.out.cellx (j:=0) (u:=.int .i64 y0) (by simpa using HML.out) (zp6 HML.out _) rfl
   have c0_1:wr.cell? ⟨g,k*3+1,none⟩=some (.int .i64 y1):=H0.out.cellx (j:=1) (u:=.int .i64 y1) (by simpa using HML.out) (zp6 HML.out _) rfl
   have c0_2:wr.cell? ⟨g,k*3+2,none⟩=some (.string y2):=H0.out.cellx (j:=2) (u:=.string y2) (by simpa using HML.out) (zp6 HML.out _) rfl
   have fz0:=H0.out.frzx
   go_wp2_with fail
   have H1:Hid ((E.lst 3 75 (some ⟨g,0,none⟩) c (ms.set k (E.agg [(E.int .i64 (q)),(E.int .i64 y1),(E.str y2)]))).Ho (wr.setCell ⟨g,k*3,none⟩ (.int .i64 (q))) lo hi):=H0.out.store (HN2.out _ rfl) HML.out (E.agg [(E.int .i64 (q)),(E.int .i64 y1),(E.str y2)]) 0 (.int .i64 (q)) (by omega) rfl (fun _ h=>h)
   clear H0
   have H2:Hid ((E.lst 3 75 (some ⟨g,0,none⟩) c (ms.set k (E.agg [(E.int .i64 (q)),(E.int .i64 (q+1)),(E.str y2)]))).Ho ((wr.setCell ⟨g,k*3,none⟩ (.int .i64 (q))).setCell ⟨g,k*3+1,none⟩ (.int .i64 (q+1))) lo hi):=H1.out.store (HN2.out _ rfl) HML.out (E.agg [(E.int .i64 (q)),(E.int .i64 (q+1)),(E.str y2)]) 1 (.int .i64 (q+1)) (by omega) rfl (fun _ h=>h)
   clear H1
   clear c0_0 c0_1 c0_2 fz0
   go_at_call 117
   refine (zk10 _ _ (by omega)).mono ?_;rintro e w1 ⟨rfl,hb1⟩
   have hz1:=hb1.size;(try simp only [World.size_setCell] at hz1)
   have H3:=Lib.hid (H2.out.below hb1 (by first|omega|(simp;omega)))
   clear H2
   have hF1:Fr (E.lst 3 75 (some ⟨g,0,none⟩) c l).fp w w1:=((hF0.set HGM.out (.int .i64 (q))).set HGM.out (.int .i64 (q+1))).trans (Fr.of_below hb1)
   have c1_0:w1.cell? ⟨g,k*3,none⟩=some (.int .i64 (q)):=H3.out.cellx (j:=0) (u:=.int .i64 (q)) (by simpa using HML.out) (zp6 HML.out _) rfl
   have c1_1:w1.cell? ⟨g,k*3+1,none⟩=some (.int .i64 (q+1)):=H3.out.cellx (j:=1) (u:=.int .i64 (q+1)) (by simpa using HML.out) (zp6 HML.out _) rfl
   have c1_2:w1.cell? ⟨g,k*3+2,none⟩=some (.string y2):=H3.out.cellx (j:=2) (u:=.string y2) (by simpa using HML.out) (zp6 HML.out _) rfl
   have fz1:=H3.out.frzx
   go_wp2
   go_roundw
   case rel =>
    have H4:Hid ((E.lst 3 75 (some ⟨g,0,none⟩) c (ms.set k (E.agg [(E.int .i64 (q)),(E.int .i64 (q+1)),(E.str (markT (q+1+1)))]))).Ho (w1.setCell ⟨g,k*3+2,none⟩ (.string (markT (q+1+1)))) lo hi):=H3.out.store (HN2.out _ (by simp only [E.fp,E.fpL,E.mkcL_fp])) HML.out (E.agg [(E.int .i64 (q)),(E.int .i64 (q+1)),(E.str (markT (q+1+1)))]) 2 (.string (markT (q+1+1))) (by omega) rfl (fun _ h=>h)
    have FF:∀t0 t1 t2:Int,(q)=t0→(q+1)=t1→(q+1+1)=t2→(E.agg [(E.int .i64 (q)),(E.int .i64 (q+1)),(E.str (markT (q+1+1)))])=(E.agg [(E.int .i64 t0),(E.int .i64 t1),(E.str (markT t2))]):=by
     intro t0 t1 t2 ht0 ht1 ht2
     subst ht0
     subst ht1
     subst ht2
     rfl
    have EX:(E.agg [(E.int .i64 (q)),(E.int .i64 (q+1)),(E.str (markT (q+1+1)))])=(E.agg [.int .i64 y0,.int .i64 y1,.str y2]).mkc q:=FF _ _ _ (by first|rfl|omega|(show _=_;simp only [E.cnt,E.cntL,E.cntc,E.cntcL,reduceCtorEq,if_false,if_true,ite_false];omega)) (by first|rfl|omega|(show _=_;simp only [E.cnt,E.cntL,E.cntc,E.cntcL,reduceCtorEq,if_false,if_true,ite_false];omega)) (by first|rfl|omega|(show _=_;simp only [E.cnt,E.cntL,E.cntc,E.cntcL,reduceCtorEq,if_false,if_true,ite_false];omega))
    exact⟨k+1,_,by omega,by go_num,rfl,(by show _=_;have e1:=HQ.out;have e2:=HT.out;rw [HEX.out,HCX.out] at e2;omega),(hF1.set HGM.out (.string (markT (q+1+1)))),(by show E.Ho _ _ _ _;rw [←zo7 l k0 k hlt,HEX.out,←HQ.out,←EX,HMS.out];exact H4.out)⟩
   case measure=>simp [intOf];omega
  ·have hk':k=l.length:=by omega
   subst hk'
   go_wp2
   go_ret
   have e1:=HQ.out
   rw [List.take_length] at e1
   have h:=HOW.out
   rw [zs8] at h
   exact⟨ri e1,h,hF0⟩
theorem zl16 {e:E}(ht:e.Ty Tryz.prog 30):Mar 45 e:=by
 obtain⟨A,c,l,rfl,h1,h2⟩:=ht.lst_ Tryz.underlying30 (k:=3) (by kernel_rfl)
 exact markValS_all' A c l h1 h2
set_option maxRecDepth 100000
def valE (e:E):Bool:=match e with | .agg [.int _ a,.int _ b,.str s]=>valOk a b s|_=>false
theorem valE_in {a b:Int}{s:ByteArray}(w:World)(St:Nat→Prop)(φ:Nat→Lc)(K:Nat→Prop)(us':List Value)(h:VRL w St φ K [.ag (acE (.agg [.int .i64 a,.int .i64 b,.str s]))] us'):us'=[.agg #[.int .i64 a,.int .i64 b,.string s]]:=by
 simp only [acE,acL,List.append_nil,List.cons_append,List.nil_append,VRL,VR,CRL,CR] at h
 obtain⟨u,us1,rfl,⟨vs,rfl,u1,r1,f1,f1',rfl,e1,⟨rfl,-,rfl⟩,u2,r2,f2,f2',rfl,rfl,⟨rfl,-,rfl⟩,u3,r3,f3,f3',rfl,rfl,⟨rfl,-,rfl⟩,rfl,rfl⟩,rfl⟩:=h
 rfl
theorem zd18 {e:E}(he:e.Ty Tryz.prog 75):Ctr Tryz.prog 105 [.ag (acE e)] [] (.c (.v (.bool (valE e)))) []:=by
 obtain⟨a,b,s,rfl,ga,gb,gs,-⟩:=zu3 he
 exact zx6 (by kernel_rfl) rfl valE_in fun w=>zo14 a b s w (zz7 gb)
theorem ze18 {e:E}(he:e.Ty Tryz.prog 75):Ctr Tryz.prog 94 [.ag (acE e)] [] (.c (.v (.bool (valE e)))) []:=by
 obtain⟨a,b,s,rfl,ga,gb,gs,-⟩:=zu3 he
 exact zx6 (by kernel_rfl) rfl valE_in fun w=>zp14 a b s w (zz7 gb)
end Go.Proofs.YtghljnfbbaklnaaGreat
