/- The type Ins, and slices of it: shape; the laws' own functions. -/
import Derived.Test.YtghljnfbbaklnaaGreatPutModuleAJ
namespace Go.Proofs.YtghljnfbbaklnaaGreat
open Go.RowKit
theorem zd7 {e:E}(h:e.Ty Tryz.prog 241):∃(x0:Int) (x1:Int),e=(E.agg [.int .i64 x0,.int .i64 x1])∧((Lit.int .i64 x0).wf=true)∧((Lit.int .i64 x1).wf=true)∧True:=by
 obtain⟨fs,rfl,q0⟩:=h.agg_ Tryz.underlying241
 change E.TyF _ _ [3,3] at q0
 obtain⟨e0,r0,rfl,h0,q1⟩:=q0.cons_
 obtain⟨e1,r1,rfl,h1,q2⟩:=q1.cons_
 obtain rfl:=q2.nil_
 obtain⟨x0,rfl,gx0⟩:=h0.int_ Tryz.underlying3
 obtain⟨x1,rfl,gx1⟩:=h1.int_ Tryz.underlying3
 exact⟨x0,x1,rfl,gx0,gx1,trivial⟩
theorem zh4 {e:E}(h:e.Ty Tryz.prog 82):∃(x0:Int) (x1:Int),e=(E.agg [.int .i64 x0,.int .i64 x1])∧((Lit.int .i64 x0).wf=true)∧((Lit.int .i64 x1).wf=true)∧True:=by
 obtain⟨fs,rfl,q0⟩:=h.agg_ Tryz.underlying82
 change E.TyF _ _ [3,3] at q0
 obtain⟨e0,r0,rfl,h0,q1⟩:=q0.cons_
 obtain⟨e1,r1,rfl,h1,q2⟩:=q1.cons_
 obtain rfl:=q2.nil_
 obtain⟨x0,rfl,gx0⟩:=h0.int_ Tryz.underlying3
 obtain⟨x1,rfl,gx1⟩:=h1.int_ Tryz.underlying3
 exact⟨x0,x1,rfl,gx0,gx1,trivial⟩
set_option maxRecDepth 100000 in
set_option maxHeartbeats 1000000 in
theorem szInsS_all' (A:Option Addr)(c:Nat)(l:List E)(ht:∀y∈l,y.Ty Tryz.prog 241):Sz 157 (.lst 2 241 A c l):=by
 intro left w hr h0 h1
 have hs:=hr.sl
 have hlen:=hs.len_le
 have HSZ:Hid ((E.lst 2 241 A c l).sz=l.length+E.szL l):=rfl
 change Calls _ _ #[.slice A l.length c,.int .i64 left] w _
 have hz0:E.szL l=0:=E.szL_zero fun y hy=>by
  obtain⟨y0,y1,rfl,gy0,gy1,-⟩:=zd7 (ht y hy)
  rfl
 have HZ0:=Lib.hid hz0
 clear hz0
 go_enter Tryz.func157,Tryz.ntmps157
 by_cases hn:left-l.length<0
 ·go_wp2
  go_ret
  exact⟨-1,rfl,.inl (by omega),by omega,by exact by0⟩
 go_wp2
 go_ret
 refine⟨_,rfl,.inr ?_,by omega,by exact by0⟩
 show _=_
 rw [HSZ.out,HZ0.out]
 push_cast
 omega
theorem zm21 {e:E}(ht:e.Ty Tryz.prog 145):Sz 157 e:=by
 obtain⟨A,c,l,rfl,h1,_⟩:=ht.lst_ Tryz.underlying145 (k:=2) (by kernel_rfl)
 exact szInsS_all' A c l h1
set_option maxRecDepth 100000 in
set_option maxHeartbeats 1000000 in
theorem toIns_all {e:E}(ht:e.Ty Tryz.prog 241):To 187 82 e:=by
 have HT0:=Lib.hid ht
 obtain⟨x0,x1,rfl,gx0,gx1,-⟩:=zd7 ht
 intro w hr hsz
 have hsz':(0+(0+0))≤1048576:=hsz
 clear hsz hsz'
 change Calls _ _ #[.agg #[.int .i64 x0,.int .i64 x1]] w _
 go_enter Tryz.func187,Tryz.ntmps187
 go_wp2
 refine bodyPost_ret (v:=.agg #[.int .i64 x0,.int .i64 x1]) (by simp [results,Tryz.results187,go_sem]) rfl ⟨(E.agg [.int .i64 x0,.int .i64 x1]),rfl,rfl,E.Ty.mk_agg Tryz.underlying82 (E.TyF.mk_cons (show E.Ty _ _ _ from ⟨Tryz.underlying3,gx0⟩) (E.TyF.mk_cons (show E.Ty _ _ _ from ⟨Tryz.underlying3,gx1⟩) (E.TyF.mk_nil))),?_,?_,by exact by0⟩
 ·simp [E.Ho,E.HoL]
 ·simp [E.fp,E.fpL]
theorem einfoIns:(Tryz.prog.info? 82).map (fun i=>(i.zero,i.size,i.bytes))=some (some (.agg #[.int .i64 0,.int .i64 0]),2,16):=by kernel_rfl
set_option maxRecDepth 100000 in
set_option maxHeartbeats 1000000 in
theorem toInsS_all' (A:Option Addr)(c:Nat)(l:List E)(h1:∀y∈l,y.Ty Tryz.prog 241):To 161 77 (.lst 2 241 A c l):=by
 intro w hr hsz
 have hs:=hr.sl
 have eS:(E.lst 2 241 A c l).sz=l.length+E.szL l:=rfl
 have hn:l.length≤1048576:=by omega
 have HS:=Lib.hid (show l.length+E.szL l≤1048576 by omega)
 clear eS hsz
 have hmk:=mk_eq Tryz.underlying77 einfoIns l.length (by omega) (by omega)
 have hF:=Fill.new w 82 #[.int .i64 0,.int .i64 0] (l.length*2) ([]:List Value)
 change Calls _ _ #[.slice A l.length c] w _
 go_enter Tryz.func161,Tryz.ntmps161
 go_wp2
 go_loopw [4] (fun i wr=>∃(k:Nat) (us:List E),k≤l.length∧i=.int .i64 k∧Hid (us.length=k)∧Hid (us.map E.d=(l.take k).map E.d)∧Hid (∀u∈us,u.Ty Tryz.prog 82∧u.enc.length=2)∧Fill wr w.heap.size 82 (l.length*2) (k*2) (E.encL us)∧w.heap.size+1≤wr.heap.size∧Hid (∀u∈us,u.Ho wr (w.heap.size+1) wr.heap.size)∧Hid ((E.fpL us).Nodup)∧Below w.heap.size w wr) (fun i _=>l.length-(intOf i).toNat)
 case atStart=>exact⟨0,[],Nat.zero_le _,rfl,rfl,rfl,(fun u hu=>absurd hu List.not_mem_nil),by exact hF,by simp,(fun u hu=>absurd hu List.not_mem_nil),(by show List.Nodup _;simp [E.fpL]),by exact by0⟩
 case round =>
  obtain⟨k,us,hk,rfl,HL,HD,HT,hf,hge,HO,HN,hb⟩:=hrel
  by_cases hlt:k<l.length
  ·have hs':=hs.below hb (Nat.le_refl _)
   have hzb:=hb.size
   have hmem:=List.getElem_mem hlt
   have hin:=(hr.el hmem).below hb (Nat.le_refl _)
   have H:=toIns_all (h1 _ hmem)
   have hsk:l[k].sz≤1048576:=by have:=E.szL_mem hmem;have:=HS.out;omega
   obtain⟨b,o,rfl,_,hc⟩:=hs'.at_ hlt
   obtain⟨y0,y1,ex,gy0,gy1,-⟩:=zd7 (h1 _ hmem)
   have HEX:=Lib.hid ex
   rw [ex] at hc hin H hsk
   clear ex
   have c0:=hc 0 _ rfl;have c1:=hc 1 _ rfl
   rw [Nat.add_zero] at c0
   clear hc
   have HF:=Lib.hid hf
   clear hf
   go_wp2_with fail
   go_at_call 187
   refine (H _ hin hsk).mono ?_;rintro e w1 ⟨x,he,HDX,htx,hox,hnx,hb1⟩
   have HTX:=Lib.hid htx
   obtain⟨z0,z1,rfl,gz0,gz1,-⟩:=zh4 htx
   obtain rfl:e=.returned (.agg #[.int .i64 z0,.int .i64 z1]):=he
   have hf1:=HF.out.below hb1 HF.out.lt
   obtain⟨u0,c0'⟩:=hf1.cell (j:=k*2) (by omega);obtain⟨u1,c1'⟩:=hf1.cell (j:=k*2+1) (by omega)
   have zfr:=hf1.frozen
   have hz1:=hb1.size
   have HOX:=Lib.hid hox
   have HNX:=Lib.hid hnx
   have HF1:=Lib.hid hf1
   clear hox hnx hf1 htx
   go_wp2
   go_roundw
   case rel =>
    have hl:=HL.out
    have hf1:=HF1.out
    have hT:∀u∈us++[(E.agg [.int .i64 z0,.int .i64 z1])],u.Ty Tryz.prog 82∧u.enc.length=2:=fun u hu=>by
     rcases List.mem_append.1 hu with hu|hu
     ·exact HT.out u hu
     ·obtain rfl:=List.mem_singleton.1 hu
      exact⟨HTX.out,rfl⟩
    have hlen:=E.encL_len fun u hu=>(HT.out u hu).2
    have hk2:k<(us++[(E.agg [.int .i64 z0,.int .i64 z1])]).length:=by simp;omega
    have ev:=fun j hj=>E.encL_at (fun u hu=>(hT u hu).2) k hk2 j hj
    have eT:(us++[(E.agg [.int .i64 z0,.int .i64 z1])])[k]=(E.agg [.int .i64 z0,.int .i64 z1]):=by rw [List.getElem_append_right (by omega)];simp [hl]
    simp only [eT] at ev
    have hf2:Fill w1 w.heap.size 82 (l.length*2) (k*2) (E.encL (us++[(E.agg [.int .i64 z0,.int .i64 z1])])):=hf1.swap' fun j hj=>E.encL_app_lt us _ j (by rw [hlen,hl];exact hj)
    have K:=fun (W:World) (h:Kp w.heap.size (w.heap.size+1) w1 W) (u:E) (hu:u∈us)=>((HO.out u hu).below hb1 (Nat.le_refl _)).kp h (.inr (by omega))
    refine⟨k+1,us++[(E.agg [.int .i64 z0,.int .i64 z1])],by omega,by go_num,by show _=_;simp [hl],zy21 hlt HD.out (HDX.out.trans (by rw [←HEX.out])),hT,by rw [Nat.add_mul];exact ((hf2.set (by omega) (ev 0 (by omega))).set (by omega) (ev 1 (by omega))),by simp;omega,?_,?_,by exact by0⟩
    ·intro u hu
     rcases List.mem_append.1 hu with hu|hu
     ·exact (K _ (by repeat (first|(with_reducible exact Kp.refl _ _ _)|(refine Kp.set ?_ (by first|omega|(dsimp only;omega)|(simp;omega)) (by first|omega|(dsimp only;omega)|(simp;omega)) _))) u hu).wider (Nat.le_refl _) (by simp;omega)
     ·obtain rfl:=List.mem_singleton.1 hu
      exact (HOX.out.kp (lo':=w.heap.size) (hi':=w.heap.size+1) (by repeat (first|(with_reducible exact Kp.refl _ _ _)|(refine Kp.set ?_ (by first|omega|(dsimp only;omega)|(simp;omega)) (by first|omega|(dsimp only;omega)|(simp;omega)) _))) (.inr (by omega))).wider (by omega) (by simp)
    ·refine zu9 HN.out HNX.out fun g hg hg2=>?_
     obtain⟨u,hu,hg⟩:=E.mem_fpL.1 hg
     have:=(HO.out u hu).lt g hg
     have:=HOX.out.lt g hg2
     omega
   case measure=>simp [intOf];omega
  ·have hk':k=l.length:=by omega
   subst hk'
   go_wp2
   go_ret
   have hl:=HL.out
   have hTy:=HT.out
   have own:wr.ownsRow w.heap.size 82 2 (.slice (some ⟨w.heap.size,0,none⟩) l.length l.length) l.length (E.encL us):=hf.owns (Nat.le_refl _) rfl (by rw [E.encL_len fun u hu=>(hTy u hu).2,hl]) (by unfold maxLen;omega)
   rw [←hl] at own
   refine⟨.lst 2 82 (some ⟨w.heap.size,0,none⟩) us.length us,by rw [←hl];rfl,?_,E.Ty.mk_lst Tryz.underlying77 (by kernel_rfl) (fun u hu=>(hTy u hu).1) (fun u hu=>(hTy u hu).2),E.Ho.mk (Ow.of_owns own (Nat.le_refl _)) (fun u hu=>(hTy u hu).2) (fun u hu=>(HO.out u hu).wider (by omega) (Nat.le_refl _)),?_,hb⟩
   ·show E.d _=E.d _
    rw [zy13]
    have h:=HD.out
    rwa [List.take_length] at h
   ·simp only [E.fp,List.singleton_append,List.nodup_cons]
    refine⟨fun hm=>?_,HN.out⟩
    obtain⟨u,hu,hg⟩:=E.mem_fpL.1 hm
    have:=(HO.out u hu).lt _ hg
    omega
theorem zn21 {e:E}(ht:e.Ty Tryz.prog 145):To 161 77 e:=by
 obtain⟨A,c,l,rfl,h1,_⟩:=ht.lst_ Tryz.underlying145 (k:=2) (by kernel_rfl)
 exact toInsS_all' A c l h1
set_option maxRecDepth 100000 in
set_option maxHeartbeats 1000000 in
theorem eqIns_all {e e':E}(ht:e.Ty Tryz.prog 82)(ht':e'.Ty Tryz.prog 82):Eq 191 e e':=by
 obtain⟨x0,x1,rfl,gx0,gx1,-⟩:=zh4 ht
 obtain⟨y0,y1,rfl,gy0,gy1,-⟩:=zh4 ht'
 intro hd w hr hr'
 simp only [E.d,E.dL,E.agg.injEq,List.cons.injEq,E.int.injEq,E.str.injEq,E.bool.injEq,E.lst.injEq,true_and,and_true] at hd
 obtain⟨rfl,rfl⟩:=hd
 change Calls _ _ #[.agg #[.int .i64 x0,.int .i64 x1],.agg #[.int .i64 x0,.int .i64 x1]] w _
 go_enter Tryz.func191,Tryz.ntmps191
 go_wp2
 go_ret
 exact⟨rfl,by0⟩
set_option maxRecDepth 100000 in
set_option maxHeartbeats 1000000 in
theorem eqInsS_all' (A B:Option Addr)(c c':Nat)(l m:List E)(h1:∀y∈l,y.Ty Tryz.prog 82)(h2:∀y∈m,y.Ty Tryz.prog 82):Eq 167 (.lst 2 82 A c l) (.lst 2 82 B c' m):=by
 intro hd w hr hr'
 rw [zy13] at hd
 have hs:=hr.sl
 have hs':=hr'.sl
 have hml:=zx21 hd
 have HD:=Lib.hid hd
 clear hd
 have hlen:=hs.len_le
 change Calls _ _ #[.slice A l.length c,.slice B m.length c'] w _
 obtain⟨N,HN⟩:∃N,Hid (m.length=N):=⟨_,rfl⟩
 have hN:N=l.length:=by have:=HN.out;omega
 subst hN
 rw [HN.out]
 clear hml
 go_enter Tryz.func167,Tryz.ntmps167
 go_wp2
 go_loopw [5] (fun i wr=>∃(k:Nat),k≤l.length∧i=.int .i64 k∧Below w.heap.size w wr) (fun i _=>l.length-(intOf i).toNat)
 case atStart=>exact⟨0,Nat.zero_le _,rfl,Below.refl _ _⟩
 case round =>
  obtain⟨k,hk,rfl,hb⟩:=hrel
  by_cases hlt:k<l.length
  ·have hltm:k<m.length:=by have:=HN.out;omega
   have hsb:=hs.below hb (Nat.le_refl _)
   have hsb':=hs'.below hb (Nat.le_refl _)
   have hdk:=d_at HD.out hlt hltm
   obtain⟨b,o,rfl,_,hc⟩:=hsb.at_ hlt
   obtain⟨b',o',rfl,_,hd⟩:=hsb'.at_ hltm
   have hin:=(hr.el (List.getElem_mem hlt)).below hb (Nat.le_refl _)
   have hin':=(hr'.el (List.getElem_mem hltm)).below hb (Nat.le_refl _)
   have H:=eqIns_all (h1 _ (List.getElem_mem hlt)) (h2 _ (List.getElem_mem hltm)) hdk
   obtain⟨x0,x1,ex,gx0,gx1,-⟩:=zh4 (h1 _ (List.getElem_mem hlt))
   obtain⟨y0,y1,ey,gy0,gy1,-⟩:=zh4 (h2 _ (List.getElem_mem hltm))
   rw [ex] at hc hin
   rw [ey] at hd hin'
   rw [ex,ey] at H
   clear ex ey hdk
   have c0:=hc 0 _ rfl;have c1:=hc 1 _ rfl
   have d0:=hd 0 _ rfl;have d1:=hd 1 _ rfl
   rw [Nat.add_zero] at c0 d0
   clear hc hd
   have hzb:=hb.size
   have HH:=Lib.hid H
   clear H
   go_wp2
   go_region_held3 (fun w'=>w'.cell? ⟨b,o+k*2,none⟩=some (.int .i64 x0)∧w'.cell? ⟨b,o+k*2+1,none⟩=some (.int .i64 x1)∧w'.cell? ⟨b',o'+k*2,none⟩=some (.int .i64 y0)∧w'.cell? ⟨b',o'+k*2+1,none⟩=some (.int .i64 y1))
    (first|exact⟨c0,c1,d0,d1⟩|skip)
    ((go_at_call 191;refine (HH.out _ by2 by2).mono ?_;rintro e w1 ⟨rfl,hb1⟩;have c0:=zp2 hb1 c0 by1;have c1:=zp2 hb1 c1 by1;have d0:=zp2 hb1 d0 by1;have d1:=zp2 hb1 d1 by1))
   go_wp2
   go_roundw
   case rel=>exact⟨k+1,by omega,by go_num,by exact by0⟩
   case measure=>simp [intOf];omega
  ·go_wp2
   go_ret
   exact⟨rfl,hb⟩
theorem zo21 {e e':E}(ht:e.Ty Tryz.prog 77)(ht':e'.Ty Tryz.prog 77):Eq 167 e e':=by
 obtain⟨A,c,l,rfl,h1,_⟩:=ht.lst_ Tryz.underlying77 (k:=2) (by kernel_rfl)
 obtain⟨B,c',m,rfl,h2,_⟩:=ht'.lst_ Tryz.underlying77 (k:=2) (by kernel_rfl)
 exact eqInsS_all' A B c c' l m h1 h2
set_option maxRecDepth 100000 in
set_option maxHeartbeats 1000000 in
theorem markInsS_all' (A:Option Addr)(c:Nat)(l:List E)(h1:∀y∈l,y.Ty Tryz.prog 82)(h2:∀y∈l,y.enc.length=2):Mar 118 (.lst 2 82 A c l):=by
 intro lo hi k0 w ho hnd hhi hk0 hk1
 have HCN:Hid ((E.lst 2 82 A c l).cnt=E.cntcL l):=rfl
 rw [HCN.out] at hk1
 have HND:=Lib.hid hnd
 clear hnd
 have hlen:=ho.re.sl.len_le
 have how0:=ho
 rw [←zn7 l k0] at how0
 clear ho
 change Calls _ _ #[.slice A l.length c,.int .i64 k0] w _
 rw [HCN.out]
 change Calls _ _ _ w fun r w'=>r=.returned (.int .i64 (k0+(E.cntcL l:Nat)))∧(E.lst 2 82 A c (E.mkcL l k0)).Ho w' lo hi∧Fr (E.lst 2 82 A c l).fp w w'
 go_enter Tryz.func118,Tryz.ntmps118
 go_wp2
 go_loopw [1,5] (fun v i wr=>∃(k:Nat) (q:Int),k≤l.length∧i=.int .i64 k∧v=.int .i64 q∧Hid (q=k0+(E.cntcL (l.take k):Nat))∧Fr (E.lst 2 82 A c l).fp w wr∧Hid ((E.lst 2 82 A c (mixM l k0 k)).Ho wr lo hi)) (fun _ i _=>l.length-(intOf i).toNat)
 case atStart=>exact⟨0,k0,Nat.zero_le _,rfl,rfl,(by show _=_;simp [E.cntcL]),Fr.refl _ _,how0⟩
 case round =>
  obtain⟨k,q,hk,rfl,rfl,HQ,hF0,HOW⟩:=hrel
  have hzk:=hF0.size
  by_cases hlt:k<l.length
  ·have HT:=Lib.hid (E.cntcL_take l k hlt)
   have hq0:0≤q:=by have:=HQ.out;omega
   have hml:k<(mixM l k0 k).length:=by rw [zy7];exact hlt
   have how:=HOW.out
   obtain⟨g,rfl,hg1,hg2,hg3⟩:=how.head (by omega)
   obtain⟨y0,y1,ex,gy0,gy1,-⟩:=zh4 (h1 _ (List.getElem_mem hlt))
   have HCX:Hid ((E.agg [.int .i64 y0,.int .i64 y1]).cntc=(1+(1+0))):=rfl
   have hq1:q+(((1+(1+0)):Nat):Int)≤1152921504606846976:=by have e1:=HQ.out;have e2:=HT.out;have e3:=E.cntcL_le l (k+1);rw [ex,HCX.out] at e2;omega
   have e0:mixM l k0 k=(mixM l k0 k).set k (E.agg [.int .i64 y0,.int .i64 y1]):=by rw [←ex,←zc7 l k0 k hlt];exact (List.set_getElem_self _).symm
   have HN2:=Lib.hid (fun (z:E) (hz:z.fp=(E.agg [.int .i64 y0,.int .i64 y1]).fp)=>(show (E.lst 2 82 (some ⟨g,0,none⟩) c ((mixM l k0 k).set k z)).fp.Nodup by have hh:=HND.out;have h3:E.fpL ((mixM l k0 k).set k z)=E.fpL l:=(E.fpL_set hml (by rw [hz,←ex,zc7 l k0 k hlt])).trans (zj11 l k0 k);simp only [E.fp] at hh ⊢;rw [h3];exact hh))
   have HSB:=Lib.hid (fun (b:Nat) (hb:b∈(E.agg [.int .i64 y0,.int .i64 y1]).fp)=>(show b∈(E.lst 2 82 (some ⟨g,0,none⟩) c l).fp by simp only [E.fp];exact List.mem_append_right _ (E.mem_fpL.2 ⟨l[k],List.getElem_mem hlt,by rw [ex];exact hb⟩)))
   have hgm:g∈(E.lst 2 82 (some ⟨g,0,none⟩) c l).fp:=by simp [E.fp]
   have HGM:=Lib.hid hgm
   clear hgm
   rw [e0] at how
   clear e0
   obtain⟨ms,HMS⟩:∃ms,Hid (mixM l k0 k=ms):=⟨_,rfl⟩
   rw [HMS.out] at how hml HN2
   have HEX:=Lib.hid ex
   clear ex
   have HML:=Lib.hid hml
   clear hml
   have H0:=Lib.hid how
   clear how
   have c0_0:wr.cell? ⟨g,k*2,none⟩=some (.int .i64 y0):=H0.out.cellx (j:=0) (u:=.int .i64 y0) (by simpa using HML.out) (zp6 HML.out _) rfl
   have c0_1:wr.cell? ⟨g,k*2+1,none⟩=some (.int .i64 y1):=H0.out.cellx (j:=1) (u:=.int .i64 y1) (by simpa using HML.out) (zp6 HML.out _) rfl
   have fz0:=H0.out.frzx
   go_wp2
   go_roundw
   case rel =>
    have H1:Hid ((E.lst 2 82 (some ⟨g,0,none⟩) c (ms.set k (E.agg [(E.int .i64 (q)),(E.int .i64 y1)]))).Ho (wr.setCell ⟨g,k*2,none⟩ (.int .i64 (q))) lo hi):=H0.out.store (HN2.out _ (by simp only [E.fp,E.fpL,E.mkcL_fp])) HML.out (E.agg [(E.int .i64 (q)),(E.int .i64 y1)]) 0 (.int .i64 (q)) (by omega) rfl (fun _ h=>h)
    have H2:Hid ((E.lst 2 82 (some ⟨g,0,none⟩) c (ms.set k (E.agg [(E.int .i64 (q)),(E.int .i64 (q+1))]))).Ho ((wr.setCell ⟨g,k*2,none⟩ (.int .i64 (q))).setCell ⟨g,k*2+1,none⟩ (.int .i64 (q+1))) lo hi):=H1.out.store (HN2.out _ (by simp only [E.fp,E.fpL,E.mkcL_fp])) HML.out (E.agg [(E.int .i64 (q)),(E.int .i64 (q+1))]) 1 (.int .i64 (q+1)) (by omega) rfl (fun _ h=>h)
    have FF:∀t0 t1:Int,(q)=t0→(q+1)=t1→(E.agg [(E.int .i64 (q)),(E.int .i64 (q+1))])=(E.agg [(E.int .i64 t0),(E.int .i64 t1)]):=by
     intro t0 t1 ht0 ht1
     subst ht0
     subst ht1
     rfl
    have EX:(E.agg [(E.int .i64 (q)),(E.int .i64 (q+1))])=(E.agg [.int .i64 y0,.int .i64 y1]).mkc q:=FF _ _ (by first|rfl|omega|(show _=_;simp only [E.cnt,E.cntL,E.cntc,E.cntcL,reduceCtorEq,if_false,if_true,ite_false];omega)) (by first|rfl|omega|(show _=_;simp only [E.cnt,E.cntL,E.cntc,E.cntcL,reduceCtorEq,if_false,if_true,ite_false];omega))
    exact⟨k+1,_,by omega,by go_num,rfl,(by show _=_;have e1:=HQ.out;have e2:=HT.out;rw [HEX.out,HCX.out] at e2;omega),((hF0.set HGM.out (.int .i64 (q))).set HGM.out (.int .i64 (q+1))),(by show E.Ho _ _ _ _;rw [←zo7 l k0 k hlt,HEX.out,←HQ.out,←EX,HMS.out];exact H2.out)⟩
   case measure=>simp [intOf];omega
  ·have hk':k=l.length:=by omega
   subst hk'
   go_wp2
   go_ret
   have e1:=HQ.out
   rw [List.take_length] at e1
   have h:=HOW.out
   rw [zs8] at h
   exact⟨ri e1,h,hF0⟩
theorem za17 {e:E}(ht:e.Ty Tryz.prog 77):Mar 118 e:=by
 obtain⟨A,c,l,rfl,h1,h2⟩:=ht.lst_ Tryz.underlying77 (k:=2) (by kernel_rfl)
 exact markInsS_all' A c l h1 h2
set_option maxRecDepth 100000
def hasNum (x:Int):Bool:=[2,3,4,5,6,7,13,16,17,18,19,20,21,24,25,32,34,36].any fun y=>x==y
theorem zq18 (x:Int):Ctr Tryz.prog 114 [.c (.v (.int .i64 x))] [] (.c (.v (.bool (hasNum x)))) []:=by
 refine zo2 Tryz.func114 rfl rfl ?_
 repeat' (first|refine zh ?_|refine zd ?_|refine zf ?_|refine zg ?_|refine zb fun C=>?_|refine zj (by kernel_rfl) (by kernel_rfl) fun C=>?_|refine zc ?_|(refine x_gm ?_ ?_<;>intro hG<;>(try cases hG))|refine zc4 ?_|refine x_bs ?_|refine x_gr ?_|refine x_st ?_|refine x_mv ?_|refine x_sk ?_|refine zn4 ?_|refine x_ix ?_|refine zo4 ?_|refine zp4 ?_|refine ze4 ?_|refine zj3 ?_|refine x_ld ?_|refine za18 ?_|(refine zd4 (by rfl) ?_ ?_<;>intro hC<;>(try cases hC)))
 all_goals first
  | (exfalso;simp_all;done)
  | (refine zu ?_
     refine ret0 rfl zf3 ⟨?_,rfl⟩
     refine congrArg (fun s=>AV.c (AC.v (Value.bool s))) ?_
     simp at *
     simp [hasNum, *];done)
  | skip
theorem l17Has_c (x:Int):Ctr Tryz.prog 99 [.c (.v (.int .i64 x))] [] (.c (.v (.bool (hasNum x)))) []:=by
 refine zo2 Tryz.func99 rfl rfl ?_
 repeat' (first|refine zh ?_|refine zd ?_|refine zf ?_|refine zg ?_|refine zb fun C=>?_|refine zj (by kernel_rfl) (by kernel_rfl) fun C=>?_|refine zc ?_|(refine x_gm ?_ ?_<;>intro hG<;>(try cases hG))|refine zc4 ?_|refine x_bs ?_|refine x_gr ?_|refine x_st ?_|refine x_mv ?_|refine x_sk ?_|refine zn4 ?_|refine x_ix ?_|refine zo4 ?_|refine zp4 ?_|refine ze4 ?_|refine zj3 ?_|refine x_ld ?_|refine za18 ?_|(refine zd4 (by rfl) ?_ ?_<;>intro hC<;>(try cases hC)))
 all_goals first
  | (exfalso;simp_all;done)
  | (refine zu ?_
     refine ret0 rfl zf3 ⟨?_,rfl⟩
     refine congrArg (fun s=>AV.c (AC.v (Value.bool s))) ?_
     simp at *
     simp [hasNum, *];done)
  | skip
def insOkS (x n:Int):Bool :=
 if inR x 1 41&&inR n 0 10000 then (if x==7 then decide (n≤11) else if x==13 then decide (n≤1) else if x==34 then inR n 1 5 else hasNum x||n==0) else false
def insOkJ (x n:Int):Bool :=
 if !inR x 1 41||!hasNum x then inR x 1 41&&n==0 else if x==7 then inR n 0 11 else if x==13 then inR n 0 1 else if x==34 then inR n 1 5 else inR n 0 10000
theorem zp21 (x n:Int):insOkJ x n=insOkS x n:=by
 have hb:hasNum 7=true∧hasNum 13=true∧hasNum 34=true:=by decide
 unfold insOkJ insOkS inR
 rw [Bool.eq_iff_iff]
 by_cases e1:x=7
 ·subst e1;simp [hb.1];omega
 by_cases e2:x=13
 ·subst e2;simp [hb.2.1];omega
 by_cases e3:x=34
 ·subst e3;simp [hb.2.2];omega
 cases hh:hasNum x
 ·simp [e1,e2,e3];omega
 ·simp [e1,e2,e3]
  split<;>omega
set_option maxHeartbeats 1000000 in
theorem zo12 (x n:Int):Ctr Tryz.prog 111 [.ag [.v (.int .i64 x),.v (.int .i64 n)]] [] (.c (.v (.bool (insOkS x n)))) []:=by
 rw [←zp21]
 refine zo2 Tryz.func111 rfl rfl ?_
 repeat' (first|refine zh ?_|refine zd ?_|refine zf ?_|refine zg ?_|refine zb fun C=>?_|refine zj (by kernel_rfl) (by kernel_rfl) fun C=>?_|refine zc ?_|(refine x_gm ?_ ?_<;>intro hG<;>(try cases hG))|refine zc4 ?_|refine x_bs ?_|refine x_gr ?_|refine x_st ?_|refine x_mv ?_|refine x_sk ?_|refine zn4 ?_|refine x_ix ?_|refine zo4 ?_|refine zp4 ?_|refine ze4 ?_|refine zj3 ?_|refine x_ld ?_|refine zm7 (zq18 _) ?_|refine zm7 (zd6 _ _ _) ?_|(refine zd4 (by rfl) ?_ ?_<;>intro hC<;>(try cases hC)))
 all_goals first
  | (exfalso;simp_all;done)
  | (refine zu ?_
     refine ret0 rfl zf3 ⟨?_,rfl⟩
     refine congrArg (fun s=>AV.c (AC.v (Value.bool s))) ?_
     simp_all [insOkJ];done)
set_option maxHeartbeats 1000000 in
theorem zp12 (x n:Int):Ctr Tryz.prog 160 [.ag [.v (.int .i64 x),.v (.int .i64 n)]] [] (.c (.v (.bool (insOkS x n)))) []:=by
 refine zo2 Tryz.func160 rfl rfl ?_
 repeat' (first|refine zh ?_|refine zd ?_|refine zf ?_|refine zg ?_|refine zb fun C=>?_|refine zj (by kernel_rfl) (by kernel_rfl) fun C=>?_|refine zc ?_|(refine x_gm ?_ ?_<;>intro hG<;>(try cases hG))|refine zc4 ?_|refine x_bs ?_|refine x_gr ?_|refine x_st ?_|refine x_mv ?_|refine x_sk ?_|refine zn4 ?_|refine x_ix ?_|refine zo4 ?_|refine zp4 ?_|refine ze4 ?_|refine zj3 ?_|refine x_ld ?_|refine zm7 (l17Has_c _) ?_|refine zm7 (za7 _ _ _) ?_|(refine zd4 (by rfl) ?_ ?_<;>intro hC<;>(try cases hC)))
 all_goals first
  | (exfalso;simp_all;done)
  | (refine zu ?_
     refine ret0 rfl zf3 ⟨?_,rfl⟩
     refine congrArg (fun s=>AV.c (AC.v (Value.bool s))) ?_
     simp_all [insOkS];done)
theorem idx0Val_c {l:List E}(hl:∀e∈l,e.Ty Tryz.prog 75)(hk:∀e∈l,e.enc.length=3)(hlen:l.length≤1073741824)(p:E→Bool)(f:FuncId)(hc:∀x∈l,Ctr Tryz.prog f (.ag (acE x) :: []) [] (.c (.v (.bool (p x)))) []):Ctr Tryz.prog 162 [.c (.ro l.length 3 (acL l)),.c (.fn f [])] [] (.c (.v (.int .i64 (idxF p l)))) []:=by
 refine zo2 Tryz.func162 rfl rfl ?_
 repeat (first|refine zh ?_|refine zd ?_|refine zf ?_|refine zg ?_|refine zu ?_|refine zb fun C=>?_|refine zj (by kernel_rfl) (by kernel_rfl) fun C=>?_|refine zc ?_|refine zc4 ?_|refine x_bs ?_|refine x_gr ?_|refine x_st ?_|refine x_mv ?_|refine x_sk ?_|refine zn4 ?_|refine x_ix ?_|refine zo4 ?_|refine zp4 ?_|refine ze4 ?_|refine zj3 ?_|refine x_ld ?_)
 refine ze3 (fun k:Nat=>⟨tmsF [(0,.c (.ro l.length 3 (acL l))),(1,.c (.fn f [])),(7,.c (.v (.int .i64 l.length))),(8,.c (.v (.int .i64 k)))],hpsF [],0,[],19⟩)
  (fun N k=>k+N=l.length∧∀j y,j<k→l[j]? = some y→p y=false) l.length 0 ⟨by omega,by omega⟩ ?_ ?_
 ·(refine zr2 _ _ rfl rfl ?_ ?_<;>(repeat' (first|exact TmOk.nil|exact RwOk.nil|refine TmOk.cons ?_ ?_|refine RwOk.cons ?_ ?_|rfl|(refine rnV_id' rfl ?_;exact byc)|(refine zv2 ?_;first|rfl|omega|(rw [zv1 (by omega) (by omega)];omega))|(refine zl1 rfl ?_;exact byc)|exact zz3 rfl rfl|(refine zw2 (by rfl) (by rfl) ?_ ?_<;>exact byc)|(refine rw_rn' rfl rfl ?_;simp;done))))
 rintro N k ⟨hN,hno⟩
 repeat (first|refine zh ?_|refine zd ?_|refine zf ?_|refine zg ?_|refine zu ?_|refine zb fun C=>?_|refine zj (by kernel_rfl) (by kernel_rfl) fun C=>?_|refine zc ?_|refine zc4 ?_|refine x_bs ?_|refine x_gr ?_|refine x_st ?_|refine x_mv ?_|refine x_sk ?_|refine zn4 ?_|refine x_ix ?_|refine zo4 ?_|refine zp4 ?_|refine ze4 ?_|refine zj3 ?_|refine x_ld ?_)
 refine zd4 (by rfl) (fun h1=>?_) fun h1=>?_
 ·have hk':k<l.length:=by simpa using h1
  obtain⟨x,hx⟩:∃x,l[k]? = some x:=⟨_,List.getElem?_eq_getElem hk'⟩
  have hxt:=hl x (List.mem_of_getElem? hx)
  have hcc:=hc x (List.mem_of_getElem? hx)
  obtain⟨y0,y1,y2,rfl,gy0,gy1,gy2,-⟩:=zu3 hxt
  repeat (first|refine zh ?_|refine zd ?_|refine zf ?_|refine zg ?_|refine zu ?_|refine zb fun C=>?_|refine zj (by kernel_rfl) (by kernel_rfl) fun C=>?_|refine zc ?_|refine zc4 ?_|refine x_bs ?_|refine x_gr ?_|refine x_st ?_|refine x_mv ?_|refine x_sk ?_|refine zn4 ?_|refine x_ix ?_|refine zo4 ?_|refine zp4 ?_|refine ze4 ?_|refine zj3 ?_|refine x_ld ?_)
  refine zm7 hcc ?_
  repeat (first|refine zh ?_|refine zd ?_|refine zf ?_|refine zg ?_|refine zu ?_|refine zb fun C=>?_|refine zj (by kernel_rfl) (by kernel_rfl) fun C=>?_|refine zc ?_|refine zc4 ?_|refine x_bs ?_|refine x_gr ?_|refine x_st ?_|refine x_mv ?_|refine x_sk ?_|refine zn4 ?_|refine x_ix ?_|refine zo4 ?_|refine zp4 ?_|refine ze4 ?_|refine zj3 ?_|refine x_ld ?_)
  refine zd4 (by rfl) (fun h2=>?_) fun h2=>?_
  ·repeat (first|refine zh ?_|refine zd ?_|refine zf ?_|refine zg ?_|refine zu ?_|refine zb fun C=>?_|refine zj (by kernel_rfl) (by kernel_rfl) fun C=>?_|refine zc ?_|refine zc4 ?_|refine x_bs ?_|refine x_gr ?_|refine x_st ?_|refine x_mv ?_|refine x_sk ?_|refine zn4 ?_|refine x_ix ?_|refine zo4 ?_|refine zp4 ?_|refine ze4 ?_|refine zj3 ?_|refine x_ld ?_)
   refine ret0 (x:=.c (.v (.int .i64 k))) rfl zf3 ⟨?_,rfl⟩
   rw [zv11 hno hx h2]
  ·repeat (first|refine zh ?_|refine zd ?_|refine zf ?_|refine zg ?_|refine zu ?_|refine zb fun C=>?_|refine zj (by kernel_rfl) (by kernel_rfl) fun C=>?_|refine zc ?_|refine zc4 ?_|refine x_bs ?_|refine x_gr ?_|refine x_st ?_|refine x_mv ?_|refine x_sk ?_|refine zn4 ?_|refine x_ix ?_|refine zo4 ?_|refine zp4 ?_|refine ze4 ?_|refine zj3 ?_|refine x_ld ?_)
   refine⟨N-1,k+1,by omega,⟨by omega,fun j z hj hz=>?_⟩,?_⟩
   ·by_cases e:j=k
    ·rw [e,hx] at hz;injection hz with hz;subst hz;exact h2
    ·exact hno j z (by omega) hz
   ·(refine zr2 _ _ rfl rfl ?_ ?_<;>(repeat' (first|exact TmOk.nil|exact RwOk.nil|refine TmOk.cons ?_ ?_|refine RwOk.cons ?_ ?_|rfl|(refine rnV_id' rfl ?_;exact byc)|(refine zv2 ?_;first|rfl|omega|(rw [zv1 (by omega) (by omega)];omega))|(refine zl1 rfl ?_;exact byc)|exact zz3 rfl rfl|(refine zw2 (by rfl) (by rfl) ?_ ?_<;>exact byc)|(refine rw_rn' rfl rfl ?_;simp;done))))
 ·have hk':¬k<l.length:=by simpa using h1
  repeat (first|refine zh ?_|refine zd ?_|refine zf ?_|refine zg ?_|refine zu ?_|refine zb fun C=>?_|refine zj (by kernel_rfl) (by kernel_rfl) fun C=>?_|refine zc ?_|refine zc4 ?_|refine x_bs ?_|refine x_gr ?_|refine x_st ?_|refine x_mv ?_|refine x_sk ?_|refine zn4 ?_|refine x_ix ?_|refine zo4 ?_|refine zp4 ?_|refine ze4 ?_|refine zj3 ?_|refine x_ld ?_)
  refine ret0 (x:=.c (.v (.int .i64 (-1)))) rfl zf3 ⟨?_,rfl⟩
  rw [zh7 fun j y hj hy=>hno j y (by omega) hy]
theorem con0Val_c {l:List E}(hl:∀e∈l,e.Ty Tryz.prog 75)(hk:∀e∈l,e.enc.length=3)(hlen:l.length≤1073741824)(p:E→Bool)(f:FuncId)(hc:∀x∈l,Ctr Tryz.prog f (.ag (acE x) :: []) [] (.c (.v (.bool (p x)))) []):Ctr Tryz.prog 103 [.c (.ro l.length 3 (acL l)),.c (.fn f [])] [] (.c (.v (.bool (l.any p)))) []:=by
 refine zo2 Tryz.func103 rfl rfl ?_
 have hcc:=idx0Val_c hl hk hlen p f hc
 repeat (first|refine zh ?_|refine zd ?_|refine zf ?_|refine zg ?_|refine zu ?_|refine zb fun C=>?_|refine zj (by kernel_rfl) (by kernel_rfl) fun C=>?_|refine zc ?_|refine zc4 ?_|refine x_bs ?_|refine x_gr ?_|refine x_st ?_|refine x_mv ?_|refine x_sk ?_|refine zn4 ?_|refine x_ix ?_|refine zo4 ?_|refine zp4 ?_|refine ze4 ?_|refine zj3 ?_|refine x_ld ?_)
 refine zm7 hcc ?_
 repeat (first|refine zh ?_|refine zd ?_|refine zf ?_|refine zg ?_|refine zu ?_|refine zb fun C=>?_|refine zj (by kernel_rfl) (by kernel_rfl) fun C=>?_|refine zc ?_|refine zc4 ?_|refine x_bs ?_|refine x_gr ?_|refine x_st ?_|refine x_mv ?_|refine x_sk ?_|refine zn4 ?_|refine x_ix ?_|refine zo4 ?_|refine zp4 ?_|refine ze4 ?_|refine zj3 ?_|refine x_ld ?_)
 refine ret0 (x:=.c (.v (.bool (decide (idxF p l ≥ 0))))) rfl zf3 ⟨?_,rfl⟩
 rw [zd9]
end Go.Proofs.YtghljnfbbaklnaaGreat
