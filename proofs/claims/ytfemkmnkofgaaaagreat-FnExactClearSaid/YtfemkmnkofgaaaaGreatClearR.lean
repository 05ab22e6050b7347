/- The type Label, and slices of it: shape; the laws' own functions. -/
import Derived.Test.YtfemkmnkofgaaaaGreatClearQ
namespace Go.Proofs.YtfemkmnkofgaaaaGreat
open Go.RowKit
theorem zt3 {e:E}(h:e.Ty Tryz.prog 159):∃(x0:Bool) (x1:Int) (x2:Int) (x3:Int) (x4:Int),e=(E.agg [.bool x0,.int .i64 x1,.int .i64 x2,.int .i64 x3,.int .i64 x4])∧((Lit.int .i64 x1).wf=true)∧((Lit.int .i64 x2).wf=true)∧((Lit.int .i64 x3).wf=true)∧((Lit.int .i64 x4).wf=true)∧True:=by
 obtain⟨fs,rfl,q0⟩:=h.agg_ Tryz.underlying159
 change E.TyF _ _ [4,3,3,3,3] at q0
 obtain⟨e0,r0,rfl,h0,q1⟩:=q0.cons_
 obtain⟨e1,r1,rfl,h1,q2⟩:=q1.cons_
 obtain⟨e2,r2,rfl,h2,q3⟩:=q2.cons_
 obtain⟨e3,r3,rfl,h3,q4⟩:=q3.cons_
 obtain⟨e4,r4,rfl,h4,q5⟩:=q4.cons_
 obtain rfl:=q5.nil_
 obtain⟨x0,rfl⟩:=h0.bool_ Tryz.underlying4
 obtain⟨x1,rfl,gx1⟩:=h1.int_ Tryz.underlying3
 obtain⟨x2,rfl,gx2⟩:=h2.int_ Tryz.underlying3
 obtain⟨x3,rfl,gx3⟩:=h3.int_ Tryz.underlying3
 obtain⟨x4,rfl,gx4⟩:=h4.int_ Tryz.underlying3
 exact⟨x0,x1,x2,x3,x4,rfl,gx1,gx2,gx3,gx4,trivial⟩
theorem zz1 {e:E}(h:e.Ty Tryz.prog 148):∃(x0:Bool) (x1:Int) (x2:Int) (x3:Int) (x4:Int),e=(E.agg [.bool x0,.int .i64 x1,.int .i64 x2,.int .i64 x3,.int .i64 x4])∧((Lit.int .i64 x1).wf=true)∧((Lit.int .i64 x2).wf=true)∧((Lit.int .i64 x3).wf=true)∧((Lit.int .i64 x4).wf=true)∧True:=by
 obtain⟨fs,rfl,q0⟩:=h.agg_ Tryz.underlying148
 change E.TyF _ _ [4,3,3,3,3] at q0
 obtain⟨e0,r0,rfl,h0,q1⟩:=q0.cons_
 obtain⟨e1,r1,rfl,h1,q2⟩:=q1.cons_
 obtain⟨e2,r2,rfl,h2,q3⟩:=q2.cons_
 obtain⟨e3,r3,rfl,h3,q4⟩:=q3.cons_
 obtain⟨e4,r4,rfl,h4,q5⟩:=q4.cons_
 obtain rfl:=q5.nil_
 obtain⟨x0,rfl⟩:=h0.bool_ Tryz.underlying4
 obtain⟨x1,rfl,gx1⟩:=h1.int_ Tryz.underlying3
 obtain⟨x2,rfl,gx2⟩:=h2.int_ Tryz.underlying3
 obtain⟨x3,rfl,gx3⟩:=h3.int_ Tryz.underlying3
 obtain⟨x4,rfl,gx4⟩:=h4.int_ Tryz.underlying3
 exact⟨x0,x1,x2,x3,x4,rfl,gx1,gx2,gx3,gx4,trivial⟩
set_option maxRecDepth 100000 in
set_option maxHeartbeats 1000000 in
theorem szLabelS_all' (A:Option Addr)(c:Nat)(l:List E)(ht:∀y∈l,y.Ty Tryz.prog 159):Sz 86 (.lst 5 159 A c l):=by
 intro left w hr h0 h1
 have hs:=hr.sl
 have hlen:=hs.len_le
 have HSZ:Hid ((E.lst 5 159 A c l).sz=l.length+E.szL l):=rfl
 change Calls _ _ #[.slice A l.length c,.int .i64 left] w _
 have hz0:E.szL l=0:=E.szL_zero fun y hy=>by
  obtain⟨y0,y1,y2,y3,y4,rfl,gy1,gy2,gy3,gy4,-⟩:=zt3 (ht y hy)
  rfl
 have HZ0:=Lib.hid hz0
 clear hz0
 go_enter Tryz.func86,Tryz.ntmps86
 by_cases hn:left-l.length<0
 ·go_wp2
  go_ret
  exact⟨-1,rfl,.inl (by omega),by omega,by exact by0⟩
 go_wp2
 go_ret
 refine⟨_,rfl,.inr ?_,by omega,by exact by0⟩
 show _=_
 rw [HSZ.out,HZ0.out]
 push_cast
 omega
theorem zd11 {e:E}(ht:e.Ty Tryz.prog 93):Sz 86 e:=by
 obtain⟨A,c,l,rfl,h1,_⟩:=ht.lst_ Tryz.underlying93 (k:=5) (by kernel_rfl)
 exact szLabelS_all' A c l h1
set_option maxRecDepth 100000 in
set_option maxHeartbeats 1000000 in
theorem zr12 {e:E}(ht:e.Ty Tryz.prog 159):To 107 148 e:=by
 have HT0:=Lib.hid ht
 obtain⟨x0,x1,x2,x3,x4,rfl,gx1,gx2,gx3,gx4,-⟩:=zt3 ht
 intro w hr hsz
 have hsz':(0+(0+(0+(0+(0+0)))))≤1048576:=hsz
 clear hsz hsz'
 change Calls _ _ #[.agg #[.bool x0,.int .i64 x1,.int .i64 x2,.int .i64 x3,.int .i64 x4]] w _
 go_enter Tryz.func107,Tryz.ntmps107
 go_wp2
 refine bodyPost_ret (v:=.agg #[.bool x0,.int .i64 x1,.int .i64 x2,.int .i64 x3,.int .i64 x4]) (by simp [results,Tryz.results107,go_sem]) rfl ⟨(E.agg [.bool x0,.int .i64 x1,.int .i64 x2,.int .i64 x3,.int .i64 x4]),rfl,rfl,E.Ty.mk_agg Tryz.underlying148 (E.TyF.mk_cons (show E.Ty _ _ _ from Tryz.underlying4) (E.TyF.mk_cons (show E.Ty _ _ _ from ⟨Tryz.underlying3,gx1⟩) (E.TyF.mk_cons (show E.Ty _ _ _ from ⟨Tryz.underlying3,gx2⟩) (E.TyF.mk_cons (show E.Ty _ _ _ from ⟨Tryz.underlying3,gx3⟩) (E.TyF.mk_cons (show E.Ty _ _ _ from ⟨Tryz.underlying3,gx4⟩) (E.TyF.mk_nil)))))),?_,?_,by exact by0⟩
 ·simp [E.Ho,E.HoL]
 ·simp [E.fp,E.fpL]
theorem zb15:(Tryz.prog.info? 148).map (fun i=>(i.zero,i.size,i.bytes))=some (some (.agg #[.bool false,.int .i64 0,.int .i64 0,.int .i64 0,.int .i64 0]),5,40):=by kernel_rfl
set_option maxRecDepth 100000 in
set_option maxHeartbeats 1000000 in
theorem toLabelS_all' (A:Option Addr)(c:Nat)(l:List E)(h1:∀y∈l,y.Ty Tryz.prog 159):To 91 57 (.lst 5 159 A c l):=by
 intro w hr hsz
 have hs:=hr.sl
 have eS:(E.lst 5 159 A c l).sz=l.length+E.szL l:=rfl
 have hn:l.length≤1048576:=by omega
 have HS:=Lib.hid (show l.length+E.szL l≤1048576 by omega)
 clear eS hsz
 have hmk:=zn7 Tryz.underlying57 zb15 l.length (by omega) (by omega)
 have hF:=Fill.new w 148 #[.bool false,.int .i64 0,.int .i64 0,.int .i64 0,.int .i64 0] (l.length*5) ([]:List Value)
 change Calls _ _ #[.slice A l.length c] w _
 go_enter Tryz.func91,Tryz.ntmps91
 go_wp2
 go_loopw [4] (fun i wr=>∃(k:Nat) (us:List E),k≤l.length∧i=.int .i64 k∧Hid (us.length=k)∧Hid (us.map E.d=(l.take k).map E.d)∧Hid (∀u∈us,u.Ty Tryz.prog 148∧u.enc.length=5)∧Fill wr w.heap.size 148 (l.length*5) (k*5) (E.encL us)∧w.heap.size+1≤wr.heap.size∧Hid (∀u∈us,u.Ho wr (w.heap.size+1) wr.heap.size)∧Hid ((E.fpL us).Nodup)∧Below w.heap.size w wr) (fun i _=>l.length-(intOf i).toNat)
 case atStart=>exact⟨0,[],Nat.zero_le _,rfl,rfl,rfl,(fun u hu=>absurd hu List.not_mem_nil),by exact hF,by simp,(fun u hu=>absurd hu List.not_mem_nil),(by show List.Nodup _;simp [E.fpL]),by exact by0⟩
 case round =>
  obtain⟨k,us,hk,rfl,HL,HD,HT,hf,hge,HO,HN,hb⟩:=hrel
  by_cases hlt:k<l.length
  ·have hs':=hs.below hb (Nat.le_refl _)
   have hzb:=hb.size
   have hmem:=List.getElem_mem hlt
   have hin:=(hr.el hmem).below hb (Nat.le_refl _)
   have H:=zr12 (h1 _ hmem)
   have hsk:l[k].sz≤1048576:=by have:=E.szL_mem hmem;have:=HS.out;omega
   obtain⟨b,o,rfl,_,hc⟩:=hs'.at_ hlt
   obtain⟨y0,y1,y2,y3,y4,ex,gy1,gy2,gy3,gy4,-⟩:=zt3 (h1 _ hmem)
   have HEX:=Lib.hid ex
   rw [ex] at hc hin H hsk
   clear ex
   have c0:=hc 0 _ rfl;have c1:=hc 1 _ rfl;have c2:=hc 2 _ rfl;have c3:=hc 3 _ rfl;have c4:=hc 4 _ rfl
   rw [Nat.add_zero] at c0
   clear hc
   have HF:=Lib.hid hf
   clear hf
   go_wp2_with fail
   go_at_call 107
   refine (H _ hin hsk).mono ?_;rintro e w1 ⟨x,he,HDX,htx,hox,hnx,hb1⟩
   have HTX:=Lib.hid htx
   obtain⟨z0,z1,z2,z3,z4,rfl,gz1,gz2,gz3,gz4,-⟩:=zz1 htx
   obtain rfl:e=.returned (.agg #[.bool z0,.int .i64 z1,.int .i64 z2,.int .i64 z3,.int .i64 z4]):=he
   have hf1:=HF.out.below hb1 HF.out.lt
   obtain⟨u0,c0'⟩:=hf1.cell (j:=k*5) (by omega);obtain⟨u1,c1'⟩:=hf1.cell (j:=k*5+1) (by omega);obtain⟨u2,c2'⟩:=hf1.cell (j:=k*5+2) (by omega);obtain⟨u3,c3'⟩:=hf1.cell (j:=k*5+3) (by omega);obtain⟨u4,c4'⟩:=hf1.cell (j:=k*5+4) (by omega)
   have zfr:=hf1.frozen
   have hz1:=hb1.size
   have HOX:=Lib.hid hox
   have HNX:=Lib.hid hnx
   have HF1:=Lib.hid hf1
   clear hox hnx hf1 htx
   go_wp2
   go_roundw
   case rel =>
    have hl:=HL.out
    have hf1:=HF1.out
    have hT:∀u∈us++[(E.agg [.bool z0,.int .i64 z1,.int .i64 z2,.int .i64 z3,.int .i64 z4])],u.Ty Tryz.prog 148∧u.enc.length=5:=fun u hu=>by
     rcases List.mem_append.1 hu with hu|hu
     ·exact HT.out u hu
     ·obtain rfl:=List.mem_singleton.1 hu
      exact⟨HTX.out,rfl⟩
    have hlen:=E.encL_len fun u hu=>(HT.out u hu).2
    have hk2:k<(us++[(E.agg [.bool z0,.int .i64 z1,.int .i64 z2,.int .i64 z3,.int .i64 z4])]).length:=by simp;omega
    have ev:=fun j hj=>E.encL_at (fun u hu=>(hT u hu).2) k hk2 j hj
    have eT:(us++[(E.agg [.bool z0,.int .i64 z1,.int .i64 z2,.int .i64 z3,.int .i64 z4])])[k]=(E.agg [.bool z0,.int .i64 z1,.int .i64 z2,.int .i64 z3,.int .i64 z4]):=by rw [List.getElem_append_right (by omega)];simp [hl]
    simp only [eT] at ev
    have hf2:Fill w1 w.heap.size 148 (l.length*5) (k*5) (E.encL (us++[(E.agg [.bool z0,.int .i64 z1,.int .i64 z2,.int .i64 z3,.int .i64 z4])])):=hf1.swap' fun j hj=>E.encL_app_lt us _ j (by rw [hlen,hl];exact hj)
    have K:=fun (W:World) (h:Kp w.heap.size (w.heap.size+1) w1 W) (u:E) (hu:u∈us)=>((HO.out u hu).below hb1 (Nat.le_refl _)).kp h (.inr (by omega))
    refine⟨k+1,us++[(E.agg [.bool z0,.int .i64 z1,.int .i64 z2,.int .i64 z3,.int .i64 z4])],by omega,by go_num,by show _=_;simp [hl],zl6 hlt HD.out (HDX.out.trans (by rw [←HEX.out])),hT,by rw [Nat.add_mul];exact (((((hf2.set (by omega) (ev 0 (by omega))).set (by omega) (ev 1 (by omega))).set (by omega) (ev 2 (by omega))).set (by omega) (ev 3 (by omega))).set (by omega) (ev 4 (by omega))),by simp;omega,?_,?_,by exact by0⟩
    ·intro u hu
     rcases List.mem_append.1 hu with hu|hu
     ·exact (K _ (by repeat (first|(with_reducible exact Kp.refl _ _ _)|(refine Kp.set ?_ (by first|omega|(dsimp only;omega)|(simp;omega)) (by first|omega|(dsimp only;omega)|(simp;omega)) _))) u hu).wider (Nat.le_refl _) (by simp;omega)
     ·obtain rfl:=List.mem_singleton.1 hu
      exact (HOX.out.kp (lo':=w.heap.size) (hi':=w.heap.size+1) (by repeat (first|(with_reducible exact Kp.refl _ _ _)|(refine Kp.set ?_ (by first|omega|(dsimp only;omega)|(simp;omega)) (by first|omega|(dsimp only;omega)|(simp;omega)) _))) (.inr (by omega))).wider (by omega) (by simp)
    ·refine zn3 HN.out HNX.out fun g hg hg2=>?_
     obtain⟨u,hu,hg⟩:=E.mem_fpL.1 hg
     have:=(HO.out u hu).lt g hg
     have:=HOX.out.lt g hg2
     omega
   case measure=>simp [intOf];omega
  ·have hk':k=l.length:=by omega
   subst hk'
   go_wp2
   go_ret
   have hl:=HL.out
   have hTy:=HT.out
   have own:wr.ownsRow w.heap.size 148 5 (.slice (some ⟨w.heap.size,0,none⟩) l.length l.length) l.length (E.encL us):=hf.owns (Nat.le_refl _) rfl (by rw [E.encL_len fun u hu=>(hTy u hu).2,hl]) (by unfold maxLen;omega)
   rw [←hl] at own
   refine⟨.lst 5 148 (some ⟨w.heap.size,0,none⟩) us.length us,by rw [←hl];rfl,?_,E.Ty.mk_lst Tryz.underlying57 (by kernel_rfl) (fun u hu=>(hTy u hu).1) (fun u hu=>(hTy u hu).2),E.Ho.mk (Ow.of_owns own (Nat.le_refl _)) (fun u hu=>(hTy u hu).2) (fun u hu=>(HO.out u hu).wider (by omega) (Nat.le_refl _)),?_,hb⟩
   ·show E.d _=E.d _
    rw [zk4]
    have h:=HD.out
    rwa [List.take_length] at h
   ·simp only [E.fp,List.singleton_append,List.nodup_cons]
    refine⟨fun hm=>?_,HN.out⟩
    obtain⟨u,hu,hg⟩:=E.mem_fpL.1 hm
    have:=(HO.out u hu).lt _ hg
    omega
theorem ze11 {e:E}(ht:e.Ty Tryz.prog 93):To 91 57 e:=by
 obtain⟨A,c,l,rfl,h1,_⟩:=ht.lst_ Tryz.underlying93 (k:=5) (by kernel_rfl)
 exact toLabelS_all' A c l h1
set_option maxRecDepth 100000 in
set_option maxHeartbeats 1000000 in
theorem zs12 {e e':E}(ht:e.Ty Tryz.prog 148)(ht':e'.Ty Tryz.prog 148):Eq 112 e e':=by
 obtain⟨x0,x1,x2,x3,x4,rfl,gx1,gx2,gx3,gx4,-⟩:=zz1 ht
 obtain⟨y0,y1,y2,y3,y4,rfl,gy1,gy2,gy3,gy4,-⟩:=zz1 ht'
 intro hd w hr hr'
 simp only [E.d,E.dL,E.agg.injEq,List.cons.injEq,E.int.injEq,E.str.injEq,E.bool.injEq,E.lst.injEq,true_and,and_true] at hd
 obtain⟨rfl,rfl,rfl,rfl,rfl⟩:=hd
 change Calls _ _ #[.agg #[.bool x0,.int .i64 x1,.int .i64 x2,.int .i64 x3,.int .i64 x4],.agg #[.bool x0,.int .i64 x1,.int .i64 x2,.int .i64 x3,.int .i64 x4]] w _
 go_enter Tryz.func112,Tryz.ntmps112
 go_wp2
 go_ret
 exact⟨rfl,by0⟩
set_option maxRecDepth 100000 in
set_option maxHeartbeats 1000000 in
theorem eqLabelS_all' (A B:Option Addr)(c c':Nat)(l m:List E)(h1:∀y∈l,y.Ty Tryz.prog 148)(h2:∀y∈m,y.Ty Tryz.prog 148):Eq 98 (.lst 5 148 A c l) (.lst 5 148 B c' m):=by
 intro hd w hr hr'
 rw [zk4] at hd
 have hs:=hr.sl
 have hs':=hr'.sl
 have hml:=zo7 hd
 have HD:=Lib.hid hd
 clear hd
 have hlen:=hs.len_le
 change Calls _ _ #[.slice A l.length c,.slice B m.length c'] w _
 obtain⟨N,HN⟩:∃N,Hid (m.length=N):=⟨_,rfl⟩
 have hN:N=l.length:=by have:=HN.out;omega
 subst hN
 rw [HN.out]
 clear hml
 go_enter Tryz.func98,Tryz.ntmps98
 go_wp2
 go_loopw [5] (fun i wr=>∃(k:Nat),k≤l.length∧i=.int .i64 k∧Below w.heap.size w wr) (fun i _=>l.length-(intOf i).toNat)
 case atStart=>exact⟨0,Nat.zero_le _,rfl,Below.refl _ _⟩
 case round =>
  obtain⟨k,hk,rfl,hb⟩:=hrel
  by_cases hlt:k<l.length
  ·have hltm:k<m.length:=by have:=HN.out;omega
   have hsb:=hs.below hb (Nat.le_refl _)
   have hsb':=hs'.below hb (Nat.le_refl _)
   have hdk:=d_at HD.out hlt hltm
   obtain⟨b,o,rfl,_,hc⟩:=hsb.at_ hlt
   obtain⟨b',o',rfl,_,hd⟩:=hsb'.at_ hltm
   have hin:=(hr.el (List.getElem_mem hlt)).below hb (Nat.le_refl _)
   have hin':=(hr'.el (List.getElem_mem hltm)).below hb (Nat.le_refl _)
   have H:=zs12 (h1 _ (List.getElem_mem hlt)) (h2 _ (List.getElem_mem hltm)) hdk
   obtain⟨x0,x1,x2,x3,x4,ex,gx1,gx2,gx3,gx4,-⟩:=zz1 (h1 _ (List.getElem_mem hlt))
   obtain⟨y0,y1,y2,y3,y4,ey,gy1,gy2,gy3,gy4,-⟩:=zz1 (h2 _ (List.getElem_mem hltm))
   rw [ex] at hc hin
   rw [ey] at hd hin'
   rw [ex,ey] at H
   clear ex ey hdk
   have c0:=hc 0 _ rfl;have c1:=hc 1 _ rfl;have c2:=hc 2 _ rfl;have c3:=hc 3 _ rfl;have c4:=hc 4 _ rfl
   have d0:=hd 0 _ rfl;have d1:=hd 1 _ rfl;have d2:=hd 2 _ rfl;have d3:=hd 3 _ rfl;have d4:=hd 4 _ rfl
   rw [Nat.add_zero] at c0 d0
   clear hc hd
   have hzb:=hb.size
   have HH:=Lib.hid H
   clear H
   go_wp2
   go_region_held3 (fun w'=>w'.cell? ⟨b,o+k*5,none⟩=some (.bool x0)∧w'.cell? ⟨b,o+k*5+1,none⟩=some (.int .i64 x1)∧w'.cell? ⟨b,o+k*5+2,none⟩=some (.int .i64 x2)∧w'.cell? ⟨b,o+k*5+3,none⟩=some (.int .i64 x3)∧w'.cell? ⟨b,o+k*5+4,none⟩=some (.int .i64 x4)∧w'.cell? ⟨b',o'+k*5,none⟩=some (.bool y0)∧w'.cell? ⟨b',o'+k*5+1,none⟩=some (.int .i64 y1)∧w'.cell? ⟨b',o'+k*5+2,none⟩=some (.int .i64 y2)∧w'.cell? ⟨b',o'+k*5+3,none⟩=some (.int .i64 y3)∧w'.cell? ⟨b',o'+k*5+4,none⟩=some (.int .i64 y4))
    (first|exact⟨c0,c1,c2,c3,c4,d0,d1,d2,d3,d4⟩|skip)
    ((go_at_call 112;refine (HH.out _ by2 by2).mono ?_;rintro e w1 ⟨rfl,hb1⟩;have c0:=zb hb1 c0 by1;have c1:=zb hb1 c1 by1;have c2:=zb hb1 c2 by1;have c3:=zb hb1 c3 by1;have c4:=zb hb1 c4 by1;have d0:=zb hb1 d0 by1;have d1:=zb hb1 d1 by1;have d2:=zb hb1 d2 by1;have d3:=zb hb1 d3 by1;have d4:=zb hb1 d4 by1))
   go_wp2
   go_roundw
   case rel=>exact⟨k+1,by omega,by go_num,by exact by0⟩
   case measure=>simp [intOf];omega
  ·go_wp2
   go_ret
   exact⟨rfl,hb⟩
theorem zf11 {e e':E}(ht:e.Ty Tryz.prog 57)(ht':e'.Ty Tryz.prog 57):Eq 98 e e':=by
 obtain⟨A,c,l,rfl,h1,_⟩:=ht.lst_ Tryz.underlying57 (k:=5) (by kernel_rfl)
 obtain⟨B,c',m,rfl,h2,_⟩:=ht'.lst_ Tryz.underlying57 (k:=5) (by kernel_rfl)
 exact eqLabelS_all' A B c c' l m h1 h2
set_option maxRecDepth 100000 in
set_option maxHeartbeats 1000000 in
theorem markLabelS_all' (A:Option Addr)(c:Nat)(l:List E)(h1:∀y∈l,y.Ty Tryz.prog 148)(h2:∀y∈l,y.enc.length=5):Mar 74 (.lst 5 148 A c l):=by
 intro lo hi k0 w ho hnd hhi hk0 hk1
 have HCN:Hid ((E.lst 5 148 A c l).cnt=E.cntcL l):=rfl
 rw [HCN.out] at hk1
 have HND:=Lib.hid hnd
 clear hnd
 have hlen:=ho.re.sl.len_le
 have how0:=ho
 rw [←zv2 l k0] at how0
 clear ho
 change Calls _ _ #[.slice A l.length c,.int .i64 k0] w _
 rw [HCN.out]
 change Calls _ _ _ w fun r w'=>r=.returned (.int .i64 (k0+(E.cntcL l:Nat)))∧(E.lst 5 148 A c (E.mkcL l k0)).Ho w' lo hi∧Fr (E.lst 5 148 A c l).fp w w'
 go_enter Tryz.func74,Tryz.ntmps74
 go_wp2
 go_loopw [1,5] (fun v i wr=>∃(k:Nat) (q:Int),k≤l.length∧i=.int .i64 k∧v=.int .i64 q∧Hid (q=k0+(E.cntcL (l.take k):Nat))∧Fr (E.lst 5 148 A c l).fp w wr∧Hid ((E.lst 5 148 A c (mixM l k0 k)).Ho wr lo hi)) (fun _ i _=>l.length-(intOf i).toNat)
 case atStart=>exact⟨0,k0,Nat.zero_le _,rfl,rfl,(by show _=_;simp [E.cntcL]),Fr.refl _ _,how0⟩
 case round =>
  obtain⟨k,q,hk,rfl,rfl,HQ,hF0,HOW⟩:=hrel
  have hzk:=hF0.size
  by_cases hlt:k<l.length
  ·have HT:=Lib.hid (E.cntcL_take l k hlt)
   have hq0:0≤q:=by have:=HQ.out;omega
   have hml:k<(mixM l k0 k).length:=by rw [zg3];exact hlt
   have how:=HOW.out
   obtain⟨g,rfl,hg1,hg2,hg3⟩:=how.head (by omega)
   obtain⟨y0,y1,y2,y3,y4,ex,gy1,gy2,gy3,gy4,-⟩:=zz1 (h1 _ (List.getElem_mem hlt))
   have HCX:Hid ((E.agg [.bool y0,.int .i64 y1,.int .i64 y2,.int .i64 y3,.int .i64 y4]).cntc=(1+(1+(1+(1+(1+0)))))):=rfl
   have hq1:q+(((1+(1+(1+(1+(1+0))))):Nat):Int)≤1152921504606846976:=by have e1:=HQ.out;have e2:=HT.out;have e3:=E.cntcL_le l (k+1);rw [ex,HCX.out] at e2;omega
   have e0:mixM l k0 k=(mixM l k0 k).set k (E.agg [.bool y0,.int .i64 y1,.int .i64 y2,.int .i64 y3,.int .i64 y4]):=by rw [←ex,←zl2 l k0 k hlt];exact (List.set_getElem_self _).symm
   have HN2:=Lib.hid (fun (z:E) (hz:z.fp=(E.agg [.bool y0,.int .i64 y1,.int .i64 y2,.int .i64 y3,.int .i64 y4]).fp)=>(show (E.lst 5 148 (some ⟨g,0,none⟩) c ((mixM l k0 k).set k z)).fp.Nodup by have hh:=HND.out;have h3:E.fpL ((mixM l k0 k).set k z)=E.fpL l:=(E.fpL_set hml (by rw [hz,←ex,zl2 l k0 k hlt])).trans (zg4 l k0 k);simp only [E.fp] at hh ⊢;rw [h3];exact hh))
   have HSB:=Lib.hid (fun (b:Nat) (hb:b∈(E.agg [.bool y0,.int .i64 y1,.int .i64 y2,.int .i64 y3,.int .i64 y4]).fp)=>(show b∈(E.lst 5 148 (some ⟨g,0,none⟩) c l).fp by simp only [E.fp];exact List.mem_append_right _ (E.mem_fpL.2 ⟨l[k],List.getElem_mem hlt,by rw [ex];exact hb⟩)))
   have hgm:g∈(E.lst 5 148 (some ⟨g,0,none⟩) c l).fp:=by simp [E.fp]
   have HGM:=Lib.hid hgm
   clear hgm
   rw [e0] at how
   clear e0
   obtain⟨ms,HMS⟩:∃ms,Hid (mixM l k0 k=ms):=⟨_,rfl⟩
   rw [HMS.out] at how hml HN2
   have HEX:=Lib.hid ex
   clear ex
   have HML:=Lib.hid hml
   clear hml
   have H0:=Lib.hid how
   clear how
   have c0_0:wr.cell? ⟨g,k*5,none⟩=some (.bool y0):=H0.out.cellx (j:=0) (u:=.bool y0) (by simpa using HML.out) (zg1 HML.out _) rfl
   have c0_1:wr.cell? ⟨g,k*5+1,none⟩=some (.int .i64 y1):=H0.out.cellx (j:=1) (u:=.int .i64 y1) (by simpa using HML.out) (zg1 HML.out _) rfl
   have c0_2:wr.cell? ⟨g,k*5+2,none⟩=some (.int .i64 y2):=H0.out.cellx (j:=2) (u:=.int .i64 y2) (by simpa using HML.out) (zg1 HML.out _) rfl
   have c0_3:wr.cell? ⟨g,k*5+3,none⟩=some (.int .i64 y3):=H0.out.cellx (j:=3) (u:=.int .i64 y3) (by simpa using HML.out) (zg1 HML.out _) rfl
   have c0_4:wr.cell? ⟨g,k*5+4,none⟩=some (.int .i64 y4):=H0.out.cellx (j:=4) (u:=.int .i64 y4) (by simpa using HML.out) (zg1 HML.out _) rfl
   have fz0:=H0.out.frzx
   go_wp2
   go_roundw
   case rel =>
    have H1:Hid ((E.lst 5 148 (some ⟨g,0,none⟩) c (ms.set k (E.agg [(E.bool (decide ((q) % 3=0))),(E.int .i64 y1),(E.int .i64 y2),(E.int .i64 y3),(E.int .i64 y4)]))).Ho (wr.setCell ⟨g,k*5,none⟩ (.bool (decide ((q) % 3=0)))) lo hi):=H0.out.store (HN2.out _ (by first|rfl|(simp only [E.fp,E.fpL,E.mkcL_fp,E.mk0L_fp,E.mk0_fp,E.mkc_fp];done)|fail)) HML.out (E.agg [(E.bool (decide ((q) % 3=0))),(E.int .i64 y1),(E.int .i64 y2),(E.int .i64 y3),(E.int .i64 y4)]) 0 (.bool (decide ((q) % 3=0))) (by omega) rfl (fun _ h=>h)
    have H2:Hid ((E.lst 5 148 (some ⟨g,0,none⟩) c (ms.set k (E.agg [(E.bool (decide ((q) % 3=0))),(E.int .i64 (q+1)),(E.int .i64 y2),(E.int .i64 y3),(E.int .i64 y4)]))).Ho ((wr.setCell ⟨g,k*5,none⟩ (.bool (decide ((q) % 3=0)))).setCell ⟨g,k*5+1,none⟩ (.int .i64 (q+1))) lo hi):=H1.out.store (HN2.out _ (by first|rfl|(simp only [E.fp,E.fpL,E.mkcL_fp,E.mk0L_fp,E.mk0_fp,E.mkc_fp];done)|fail)) HML.out (E.agg [(E.bool (decide ((q) % 3=0))),(E.int .i64 (q+1)),(E.int .i64 y2),(E.int .i64 y3),(E.int .i64 y4)]) 1 (.int .i64 (q+1)) (by omega) rfl (fun _ h=>h)
    have H3:Hid ((E.lst 5 148 (some ⟨g,0,none⟩) c (ms.set k (E.agg [(E.bool (decide ((q) % 3=0))),(E.int .i64 (q+1)),(E.int .i64 (q+1+1)),(E.int .i64 y3),(E.int .i64 y4)]))).Ho (((wr.setCell ⟨g,k*5,none⟩ (.bool (decide ((q) % 3=0)))).setCell ⟨g,k*5+1,none⟩ (.int .i64 (q+1))).setCell ⟨g,k*5+2,none⟩ (.int .i64 (q+1+1))) lo hi):=H2.out.store (HN2.out _ (by first|rfl|(simp only [E.fp,E.fpL,E.mkcL_fp,E.mk0L_fp,E.mk0_fp,E.mkc_fp];done)|fail)) HML.out (E.agg [(E.bool (decide ((q) % 3=0))),(E.int .i64 (q+1)),(E.int .i64 (q+1+1)),(E.int .i64 y3),(E.int .i64 y4)]) 2 (.int .i64 (q+1+1)) (by omega) rfl (fun _ h=>h)
    have H4:Hid ((E.lst 5 148 (some ⟨g,0,none⟩) c (ms.set k (E.agg [(E.bool (decide ((q) % 3=0))),(E.int .i64 (q+1)),(E.int .i64 (q+1+1)),(E.int .i64 (q+1+1+1)),(E.int .i64 y4)]))).Ho ((((wr.setCell ⟨g,k*5,none⟩ (.bool (decide ((q) % 3=0)))).setCell ⟨g,k*5+1,none⟩ (.int .i64 (q+1))).setCell ⟨g,k*5+2,none⟩ (.int .i64 (q+1+1))).setCell ⟨g,k*5+3,none⟩ (.int .i64 (q+1+1+1))) lo hi):=H3.out.store (HN2.out _ (by first|rfl|(simp only [E.fp,E.fpL,E.mkcL_fp,E.mk0L_fp,E.mk0_fp,E.mkc_fp];done)|fail)) HML.out (E.agg [(E.bool (decide ((q) % 3=0))),(E.int .i64 (q+1)),(E.int .i64 (q+1+1)),(E.int .i64 (q+1+1+1)),(E.int .i64 y4)]) 3 (.int .i64 (q+1+1+1)) (by omega) rfl (fun _ h=>h)
    have H5:Hid ((E.lst 5 148 (some ⟨g,0,none⟩) c (ms.set k (E.agg [(E.bool (decide ((q) % 3=0))),(E.int .i64 (q+1)),(E.int .i64 (q+1+1)),(E.int .i64 (q+1+1+1)),(E.int .i64 (q+1+1+1+1))]))).Ho (((((wr.setCell ⟨g,k*5,none⟩ (.bool (decide ((q) % 3=0)))).setCell ⟨g,k*5+1,none⟩ (.int .i64 (q+1))).setCell ⟨g,k*5+2,none⟩ (.int .i64 (q+1+1))).setCell ⟨g,k*5+3,none⟩ (.int .i64 (q+1+1+1))).setCell ⟨g,k*5+4,none⟩ (.int .i64 (q+1+1+1+1))) lo hi):=H4.out.store (HN2.out _ (by first|rfl|(simp only [E.fp,E.fpL,E.mkcL_fp,E.mk0L_fp,E.mk0_fp,E.mkc_fp];done)|fail)) HML.out (E.agg [(E.bool (decide ((q) % 3=0))),(E.int .i64 (q+1)),(E.int .i64 (q+1+1)),(E.int .i64 (q+1+1+1)),(E.int .i64 (q+1+1+1+1))]) 4 (.int .i64 (q+1+1+1+1)) (by omega) rfl (fun _ h=>h)
    have FF:∀t0 t1 t2 t3 t4:Int,(q)=t0→(q+1)=t1→(q+1+1)=t2→(q+1+1+1)=t3→(q+1+1+1+1)=t4→(E.agg [(E.bool (decide ((q) % 3=0))),(E.int .i64 (q+1)),(E.int .i64 (q+1+1)),(E.int .i64 (q+1+1+1)),(E.int .i64 (q+1+1+1+1))])=(E.agg [(E.bool (decide (t0 % 3=0))),(E.int .i64 t1),(E.int .i64 t2),(E.int .i64 t3),(E.int .i64 t4)]):=by
     intro t0 t1 t2 t3 t4 ht0 ht1 ht2 ht3 ht4
     subst ht0
     subst ht1
     subst ht2
     subst ht3
     subst ht4
     rfl
    have EX:(E.agg [(E.bool (decide ((q) % 3=0))),(E.int .i64 (q+1)),(E.int .i64 (q+1+1)),(E.int .i64 (q+1+1+1)),(E.int .i64 (q+1+1+1+1))])=(E.agg [.bool y0,.int .i64 y1,.int .i64 y2,.int .i64 y3,.int .i64 y4]).mkc q:=FF _ _ _ _ _ (by first|rfl|omega|(show _=_;simp only [E.cnt,E.cntL,E.cntc,E.cntcL,reduceCtorEq,if_false,if_true,ite_false];omega)) (by first|rfl|omega|(show _=_;simp only [E.cnt,E.cntL,E.cntc,E.cntcL,reduceCtorEq,if_false,if_true,ite_false];omega)) (by first|rfl|omega|(show _=_;simp only [E.cnt,E.cntL,E.cntc,E.cntcL,reduceCtorEq,if_false,if_true,ite_false];omega)) (by first|rfl|omega|(show _=_;simp only [E.cnt,E.cntL,E.cntc,E.cntcL,reduceCtorEq,if_false,if_true,ite_false];omega)) (by first|rfl|omega|(show _=_;simp only [E.cnt,E.cntL,E.cntc,E.cntcL,reduceCtorEq,if_false,if_true,ite_false];omega))
    exact⟨k+1,_,by omega,by go_num,rfl,(by show _=_;have e1:=HQ.out;have e2:=HT.out;rw [HEX.out,HCX.out] at e2;omega),(((((hF0.set HGM.out (.bool (decide ((q) % 3=0)))).set HGM.out (.int .i64 (q+1))).set HGM.out (.int .i64 (q+1+1))).set HGM.out (.int .i64 (q+1+1+1))).set HGM.out (.int .i64 (q+1+1+1+1))),(by show E.Ho _ _ _ _;rw [←zw2 l k0 k hlt,HEX.out,←HQ.out,←EX,HMS.out];exact H5.out)⟩
   case measure=>simp [intOf];omega
  ·have hk':k=l.length:=by omega
   subst hk'
   go_wp2
   go_ret
   have e1:=HQ.out
   rw [List.take_length] at e1
   have h:=HOW.out
   rw [zp3] at h
   exact⟨ri e1,h,hF0⟩
set_option maxRecDepth 100000 in
set_option maxHeartbeats 1000000 in
theorem heldLabelS_all' (A:Option Addr)(c:Nat)(l:List E)(h1:∀y∈l,y.Ty Tryz.prog 148)(h2:∀y∈l,y.enc.length=5):Hel 80 (.lst 5 148 A c l):=by
 intro k0 w hr h0 hk1
 have HCN:Hid ((E.lst 5 148 A c l).cnt=E.cntcL l):=rfl
 rw [HCN.out] at hk1
 change (E.lst 5 148 A c (E.mkcL l k0)).In w at hr
 have hs:=hr.sl
 have hlen:=hs.len_le
 rw [E.mkcL_len] at hlen
 change Calls _ _ #[.slice A l.length c,.int .i64 k0] w _
 rw [HCN.out]
 change Calls _ _ _ w fun r w'=>r=.returned (.int .i64 (k0+(E.cntcL l:Nat)))∧Below w.heap.size w w'
 go_enter Tryz.func80,Tryz.ntmps80
 go_wp2
 go_loopw [1,5] (fun v i wr=>∃(k:Nat) (q:Int),k≤l.length∧i=.int .i64 k∧v=.int .i64 q∧Hid (q=k0+(E.cntcL (l.take k):Nat))∧Below w.heap.size w wr) (fun _ i _=>l.length-(intOf i).toNat)
 case atStart=>exact⟨0,k0,Nat.zero_le _,rfl,rfl,(by show _=_;simp [E.cntcL]),Below.refl _ _⟩
 case round =>
  obtain⟨k,q,hk,rfl,rfl,HQ,hb⟩:=hrel
  have hzb:=hb.size
  by_cases hlt:k<l.length
  ·have HT:=Lib.hid (E.cntcL_take l k hlt)
   have hq0:0≤q:=by have:=HQ.out;omega
   have hlm:k<(E.mkcL l k0).length:=by rw [E.mkcL_len];exact hlt
   obtain⟨y0,y1,y2,y3,y4,ex,gy1,gy2,gy3,gy4,-⟩:=zz1 (h1 _ (List.getElem_mem hlt))
   have HCX:Hid ((E.agg [.bool y0,.int .i64 y1,.int .i64 y2,.int .i64 y3,.int .i64 y4]).cntc=(1+(1+(1+(1+(1+0)))))):=rfl
   have hq1:q+(((1+(1+(1+(1+(1+0))))):Nat):Int)≤1152921504606846976:=by have e1:=HQ.out;have e2:=HT.out;have e3:=E.cntcL_le l (k+1);rw [ex,HCX.out] at e2;omega
   have FF:∀t0 t1 t2 t3 t4:Int,(q)=t0→(q+1)=t1→(q+1+1)=t2→(q+1+1+1)=t3→(q+1+1+1+1)=t4→(E.agg [(E.bool (decide ((q) % 3=0))),(E.int .i64 (q+1)),(E.int .i64 (q+1+1)),(E.int .i64 (q+1+1+1)),(E.int .i64 (q+1+1+1+1))])=(E.agg [(E.bool (decide (t0 % 3=0))),(E.int .i64 t1),(E.int .i64 t2),(E.int .i64 t3),(E.int .i64 t4)]):=by
    intro t0 t1 t2 t3 t4 ht0 ht1 ht2 ht3 ht4
    subst ht0
    subst ht1
    subst ht2
    subst ht3
    subst ht4
    rfl
   have EX:(E.agg [(E.bool (decide ((q) % 3=0))),(E.int .i64 (q+1)),(E.int .i64 (q+1+1)),(E.int .i64 (q+1+1+1)),(E.int .i64 (q+1+1+1+1))])=(E.agg [.bool y0,.int .i64 y1,.int .i64 y2,.int .i64 y3,.int .i64 y4]).mkc q:=FF _ _ _ _ _ (by first|rfl|omega|(show _=_;simp only [E.cnt,E.cntL,E.cntc,E.cntcL,reduceCtorEq,if_false,if_true,ite_false];omega)) (by first|rfl|omega|(show _=_;simp only [E.cnt,E.cntL,E.cntc,E.cntcL,reduceCtorEq,if_false,if_true,ite_false];omega)) (by first|rfl|omega|(show _=_;simp only [E.cnt,E.cntL,E.cntc,E.cntcL,reduceCtorEq,if_false,if_true,ite_false];omega)) (by first|rfl|omega|(show _=_;simp only [E.cnt,E.cntL,E.cntc,E.cntcL,reduceCtorEq,if_false,if_true,ite_false];omega)) (by first|rfl|omega|(show _=_;simp only [E.cnt,E.cntL,E.cntc,E.cntcL,reduceCtorEq,if_false,if_true,ite_false];omega))
   have hs':=hs.below hb (Nat.le_refl _)
   have hin:=(hr.el (List.getElem_mem hlm)).below hb (Nat.le_refl _)
   obtain⟨b,o,rfl,hbl,hc⟩:=hs'.at_ hlm
   rw [E.mkcL_at l k0 k hlt,ex,←HQ.out,←EX] at hc hin
   clear EX FF
   have HEX:=Lib.hid ex
   clear ex hlm hs'
   have c0_0:wr.cell? ⟨b,o+k*5,none⟩=some (.bool (decide ((q) % 3=0))):=by have h:=hc 0 _ rfl;exact h
   have c0_1:wr.cell? ⟨b,o+k*5+1,none⟩=some (.int .i64 (q+1)):=by have h:=hc 1 _ rfl;exact h
   have c0_2:wr.cell? ⟨b,o+k*5+2,none⟩=some (.int .i64 (q+1+1)):=by have h:=hc 2 _ rfl;exact h
   have c0_3:wr.cell? ⟨b,o+k*5+3,none⟩=some (.int .i64 (q+1+1+1)):=by have h:=hc 3 _ rfl;exact h
   have c0_4:wr.cell? ⟨b,o+k*5+4,none⟩=some (.int .i64 (q+1+1+1+1)):=by have h:=hc 4 _ rfl;exact h
   clear hc
   clear hin
   go_wp2_with fail
   all_goals first
    | (exfalso
       rename_i hx
       revert hx
       by_cases h3:q % 3=0<;>simp [h3]<;>done)
    | skip
   go_roundw
   case rel=>exact⟨k+1,_,by omega,by go_num,rfl,(by show _=_;have e1:=HQ.out;have e2:=HT.out;rw [HEX.out,HCX.out] at e2;omega),by exact by0⟩
   case measure=>simp [intOf];omega
  ·have hk':k=l.length:=by omega
   subst hk'
   go_wp2
   go_ret
   have e1:=HQ.out
   rw [List.take_length] at e1
   exact⟨ri e1,hb⟩
theorem zw7 {e:E}(ht:e.Ty Tryz.prog 57):Mar 74 e:=by
 obtain⟨A,c,l,rfl,h1,h2⟩:=ht.lst_ Tryz.underlying57 (k:=5) (by kernel_rfl)
 exact markLabelS_all' A c l h1 h2
theorem zx7 {e:E}(ht:e.Ty Tryz.prog 57):Hel 80 e:=by
 obtain⟨A,c,l,rfl,h1,h2⟩:=ht.lst_ Tryz.underlying57 (k:=5) (by kernel_rfl)
 exact heldLabelS_all' A c l h1 h2
end Go.Proofs.YtfemkmnkofgaaaaGreat
