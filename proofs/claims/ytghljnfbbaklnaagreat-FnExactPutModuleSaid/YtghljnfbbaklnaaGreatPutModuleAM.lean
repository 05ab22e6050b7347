/- The type MFn, and slices of it: shape; the laws' own functions. -/
import Derived.Test.YtghljnfbbaklnaaGreatPutModuleAL
namespace Go.Proofs.YtghljnfbbaklnaaGreat
open Go.RowKit
theorem zj6 {e:E}(h:e.Ty Tryz.prog 147):∃(x0:Int) (x1A:Option Addr) (x1c:Nat) (x1l:List E),e=(E.agg [.int .i64 x0,.lst 2 241 x1A x1c x1l])∧((Lit.int .i64 x0).wf=true)∧((∀y∈x1l,y.Ty Tryz.prog 241)∧(∀y∈x1l,y.enc.length=2))∧True:=by
 obtain⟨fs,rfl,q0⟩:=h.agg_ Tryz.underlying147
 change E.TyF _ _ [3,145] at q0
 obtain⟨e0,r0,rfl,h0,q1⟩:=q0.cons_
 obtain⟨e1,r1,rfl,h1,q2⟩:=q1.cons_
 obtain rfl:=q2.nil_
 obtain⟨x0,rfl,gx0⟩:=h0.int_ Tryz.underlying3
 obtain⟨x1A,x1c,x1l,rfl,gx1,gx1'⟩:=h1.lst_ Tryz.underlying145 (k:=2) (by kernel_rfl)
 exact⟨x0,x1A,x1c,x1l,rfl,gx0,⟨gx1,gx1'⟩,trivial⟩
theorem zb4 {e:E}(h:e.Ty Tryz.prog 79):∃(x0:Int) (x1A:Option Addr) (x1c:Nat) (x1l:List E),e=(E.agg [.int .i64 x0,.lst 2 82 x1A x1c x1l])∧((Lit.int .i64 x0).wf=true)∧((∀y∈x1l,y.Ty Tryz.prog 82)∧(∀y∈x1l,y.enc.length=2))∧True:=by
 obtain⟨fs,rfl,q0⟩:=h.agg_ Tryz.underlying79
 change E.TyF _ _ [3,77] at q0
 obtain⟨e0,r0,rfl,h0,q1⟩:=q0.cons_
 obtain⟨e1,r1,rfl,h1,q2⟩:=q1.cons_
 obtain rfl:=q2.nil_
 obtain⟨x0,rfl,gx0⟩:=h0.int_ Tryz.underlying3
 obtain⟨x1A,x1c,x1l,rfl,gx1,gx1'⟩:=h1.lst_ Tryz.underlying77 (k:=2) (by kernel_rfl)
 exact⟨x0,x1A,x1c,x1l,rfl,gx0,⟨gx1,gx1'⟩,trivial⟩
set_option maxRecDepth 100000 in
set_option maxHeartbeats 1000000 in
theorem szMFn_all {e:E}(ht:e.Ty Tryz.prog 147):Sz 93 e:=by
 obtain⟨x0,x1A,x1c,x1l,rfl,gx0,gx1,-⟩:=zj6 ht
 intro left w hr h0 h1
 have HSZ:Hid ((E.agg [.int .i64 x0,.lst 2 241 x1A x1c x1l]).sz=(0+((E.lst 2 241 x1A x1c x1l).sz+0))):=rfl
 change Calls _ _ #[.agg #[.int .i64 x0,.slice x1A x1l.length x1c],.int .i64 left] w _
 have hr1:=(hr.fld (i:=1) rfl).alloc (.cells #[.int .i64 x0,.slice x1A x1l.length x1c] 147)
 go_enter Tryz.func93,Tryz.ntmps93
 go_wp2_with fail
 go_at_call 157
 refine ((zm21 (E.Ty.mk_lst Tryz.underlying145 (by kernel_rfl) gx1.1 gx1.2)) _ _ hr1 (by omega) (by omega)).mono ?_;rintro e w1 ⟨r1,rfl,hr1s,hl1,hb1⟩
 have hz1:=hb1.size;(try simp only [World.size_alloc] at hz1)
 by_cases hn1:r1<0
 ·go_wp2
  go_ret
  exact⟨-1,rfl,.inl (by omega),by omega,by exact by0⟩
 have hq1:=hr1s.resolve_left hn1
 go_wp2
 go_ret
 refine⟨_,rfl,.inr ?_,by omega,by exact by0⟩
 show _=_
 rw [HSZ.out]
 have e1:=hq1.out
 push_cast
 omega
set_option maxRecDepth 100000 in
set_option maxHeartbeats 1000000 in
theorem szMFnS_all' (A:Option Addr)(c:Nat)(l:List E)(ht:∀y∈l,y.Ty Tryz.prog 147):Sz 28 (.lst 2 147 A c l):=by
 intro left w hr h0 h1
 have hs:=hr.sl
 have hlen:=hs.len_le
 have HSZ:Hid ((E.lst 2 147 A c l).sz=l.length+E.szL l):=rfl
 change Calls _ _ #[.slice A l.length c,.int .i64 left] w _
 by_cases hneg:left-l.length<0
 ·go_enter Tryz.func28,Tryz.ntmps28
  go_wp2
  go_ret
  exact⟨-1,rfl,.inl (by omega),by omega,by exact by0⟩
 go_enter Tryz.func28,Tryz.ntmps28
 go_wp2
 go_loopw [1,5] (fun v i wr=>∃(k:Nat) (cur:Int),k≤l.length∧i=.int .i64 k∧v=.int .i64 cur∧0≤cur∧cur≤left∧Hid (cur+E.szL (l.take k)+l.length=left)∧Below w.heap.size w wr) (fun _ i _=>l.length-(intOf i).toNat)
 case atStart=>exact⟨0,_,Nat.zero_le _,rfl,rfl,by omega,by omega,(by show _=_;simp [E.szL]),Below.refl _ _⟩
 case round =>
  obtain⟨k,cur,hk,rfl,rfl,hc0,hc1,HQ,hb⟩:=hrel
  have hzb:=hb.size
  by_cases hlt:k<l.length
  ·have hs':=hs.below hb (Nat.le_refl _)
   have HT:=Lib.hid (E.szL_take l k hlt)
   obtain⟨b,o,rfl,_,hc⟩:=hs'.at_ hlt
   have hin:=(hr.el (List.getElem_mem hlt)).below hb (Nat.le_refl _)
   have H:=szMFn_all (ht _ (List.getElem_mem hlt))
   obtain⟨y0,y1A,y1c,y1l,ex,gy0,gy1,-⟩:=zj6 (ht _ (List.getElem_mem hlt))
   have HEX:=Lib.hid ex
   rw [ex] at hc hin H
   clear ex
   have c0:=hc 0 _ rfl;have c1:=hc 1 _ rfl
   rw [Nat.add_zero] at c0
   clear hc
   go_wp2_with fail
   go_at_call 93
   refine (H _ _ hin hc0 (by omega)).mono ?_;rintro e w1 ⟨r,rfl,hrs,hrl,hb1⟩
   by_cases hn:r<0
   ·go_wp2
    go_ret
    exact⟨-1,rfl,.inl (by omega),by omega,by exact by0⟩
   ·have HR:=hrs.resolve_left hn
    clear hrs
    go_wp2
    go_roundw
    case rel=>exact⟨k+1,r,by omega,by go_num,rfl,by omega,by omega,(by show _=_;have e1:=HQ.out;have e2:=HT.out;have e3:=HR.out;rw [HEX.out] at e2;omega),by exact by0⟩
    case measure=>simp [intOf];omega
  ·have hk':k=l.length:=by omega
   subst hk'
   go_wp2
   go_ret
   refine⟨_,rfl,.inr ?_,by omega,hb⟩
   show _=_
   have e1:=HQ.out
   rw [List.take_length] at e1
   rw [HSZ.out]
   push_cast
   omega
theorem zq21 {e:E}(ht:e.Ty Tryz.prog 24):Sz 28 e:=by
 obtain⟨A,c,l,rfl,h1,_⟩:=ht.lst_ Tryz.underlying24 (k:=2) (by kernel_rfl)
 exact szMFnS_all' A c l h1
set_option maxRecDepth 100000 in
set_option maxHeartbeats 1000000 in
theorem toMFn_all {e:E}(ht:e.Ty Tryz.prog 147):To 101 79 e:=by
 have HT0:=Lib.hid ht
 obtain⟨x0,x1A,x1c,x1l,rfl,gx0,gx1,-⟩:=zj6 ht
 intro w hr hsz
 have hsz':(0+((E.lst 2 241 x1A x1c x1l).sz+0))≤1048576:=hsz
 have hs1:(E.lst 2 241 x1A x1c x1l).sz≤1048576:=by omega
 clear hsz hsz'
 have hr1:=hr.fld (i:=1) rfl
 have ty1:(E.lst 2 241 x1A x1c x1l).Ty Tryz.prog 145:=E.Ty.mk_lst Tryz.underlying145 (by kernel_rfl) gx1.1 gx1.2
 have HC1:=Lib.hid (zn21 ty1)
 clear ty1
 change Calls _ _ #[.agg #[.int .i64 x0,.slice x1A x1l.length x1c]] w _
 go_enter Tryz.func101,Tryz.ntmps101
 go_wp2_with fail
 go_at_call 161
 refine (HC1.out _ (((hr1.alloc _).alloc _).alloc _) hs1).mono ?_;rintro e w1 ⟨v1,he,HD1,ht1,ho1,hn1,hb1⟩
 have HT1:=Lib.hid ht1
 have HN1:=Lib.hid hn1
 obtain⟨A1,q1,l1,rfl,-,-⟩:=ht1.lst_ Tryz.underlying77 (k:=2) (by kernel_rfl)
 obtain rfl:e=.returned (.slice A1 l1.length q1):=he
 clear hn1 ht1
 have B0_1:w1.heap[w.heap.size]? = some (.cells #[.int .i64 x0,.slice x1A x1l.length x1c] 147 (0,0)):=(hb1.block (w.heap.size) (by simp;omega)).trans zi20.1
 have B1_1:w1.heap[w.heap.size+1]? = some (.cells #[.int .i64 0,.slice none 0 0] 79 (0,0)):=(hb1.block (w.heap.size+1) (by simp)).trans zi20.2.1
 have B2_1:w1.heap[w.heap.size+1+1]? = some (.cells #[.int .i64 x0,.slice none 0 0] 79 (0,0)):=(hb1.block (w.heap.size+1+1) (by simp)).trans zi20.2.2
 have hz1:=hb1.size;simp only [World.size_alloc] at hz1
 have hB1:Below w.heap.size w w1:=(by exact by0:Below w.heap.size w _).trans (hb1.mono (by simp;omega))
 have ho1:=ho1.wider (lo':=w.heap.size+1+1+1) (by simp) (Nat.le_refl _)
 have c1_0:w1.cell? ⟨w.heap.size,0,none⟩=some (.int .i64 x0):=zk1 B0_1 rfl
 have c1_1:w1.cell? ⟨w.heap.size,1,none⟩=some (.slice x1A x1l.length x1c):=zk1 B0_1 rfl
 have d1_0:w1.cell? ⟨w.heap.size+1+1,0,none⟩=some (.int .i64 x0):=zk1 B2_1 rfl
 have d1_1:w1.cell? ⟨w.heap.size+1+1,1,none⟩=some (.slice none 0 0):=zk1 B2_1 rfl
 have f1:=zi13 B2_1
 have r0':=zk1 B1_1 (o:=0) rfl;have r1':=zk1 B1_1 (o:=1) rfl
 have fr':=zi13 B1_1
 go_wp2
 have OWN:Owns w1 (w.heap.size+1+1+1) w1.heap.size [(E.int .i64 x0),(E.lst 2 82 A1 q1 l1)]:=(Owns.leaf rfl (by simp only [E.Ho]) (Owns.cons (mid:=w1.heap.size) ho1 HN1.out Owns.nil (by omega) (by omega)))
 refine bodyPost_ret (v:=.agg #[.int .i64 x0,.slice A1 l1.length q1]) (zr18 (t:=79) (fr:=(0,0)) rfl rfl Tryz.underlying79 (by kernel_rfl) ?_) rfl ⟨(E.agg [(E.int .i64 x0),(E.lst 2 82 A1 q1 l1)]),rfl,?_,E.Ty.mk_agg Tryz.underlying79 (E.TyF.mk_cons (show E.Ty _ _ _ from ⟨Tryz.underlying3,gx0⟩) (E.TyF.mk_cons HT1.out (E.TyF.mk_nil))),?_,?_,?_⟩
 ·simp only [za11,B1_1,B2_1];simp [setAt]
 ·show E.d _=E.d _
  simp only [E.d,E.dL]
  have y1:=HD1.out;simp only [E.d,E.dL] at y1
  simp only [E.agg.injEq,List.cons.injEq,E.lst.injEq,E.int.injEq,E.str.injEq,E.bool.injEq,true_and,and_true] at *
  simp [*]
 ·exact ((E.Ho.mk_agg OWN.1).kp (lo':=w.heap.size+1) (hi':=w.heap.size+1+1+1) (by repeat (first|(with_reducible exact Kp.refl _ _ _)|(refine Kp.set ?_ (by first|omega|(dsimp only;omega)|(simp;omega)) (by first|omega|(dsimp only;omega)|(simp;omega)) _))) (.inr (by omega))).wider (by omega) (by simp)
 ·exact OWN.2
 ·exact hB1.trans (Kp.below (lo:=w.heap.size+1) (hi:=w.heap.size+1+1+1) (by repeat (first|(with_reducible exact Kp.refl _ _ _)|(refine Kp.set ?_ (by first|omega|(dsimp only;omega)|(simp;omega)) (by first|omega|(dsimp only;omega)|(simp;omega)) _))) (by omega) (by omega))
theorem einfoMFn:(Tryz.prog.info? 79).map (fun i=>(i.zero,i.size,i.bytes))=some (some (.agg #[.int .i64 0,.slice none 0 0]),2,32):=by kernel_rfl
set_option maxRecDepth 100000 in
set_option maxHeartbeats 1000000 in
theorem toMFnS_all' (A:Option Addr)(c:Nat)(l:List E)(h1:∀y∈l,y.Ty Tryz.prog 147):To 36 31 (.lst 2 147 A c l):=by
 intro w hr hsz
 have hs:=hr.sl
 have eS:(E.lst 2 147 A c l).sz=l.length+E.szL l:=rfl
 have hn:l.length≤1048576:=by omega
 have HS:=Lib.hid (show l.length+E.szL l≤1048576 by omega)
 clear eS hsz
 have hmk:=mk_eq Tryz.underlying31 einfoMFn l.length (by omega) (by omega)
 have hF:=Fill.new w 79 #[.int .i64 0,.slice none 0 0] (l.length*2) ([]:List Value)
 change Calls _ _ #[.slice A l.length c] w _
 go_enter Tryz.func36,Tryz.ntmps36
 go_wp2
 go_loopw [4] (fun i wr=>∃(k:Nat) (us:List E),k≤l.length∧i=.int .i64 k∧Hid (us.length=k)∧Hid (us.map E.d=(l.take k).map E.d)∧Hid (∀u∈us,u.Ty Tryz.prog 79∧u.enc.length=2)∧Fill wr w.heap.size 79 (l.length*2) (k*2) (E.encL us)∧w.heap.size+1≤wr.heap.size∧Hid (∀u∈us,u.Ho wr (w.heap.size+1) wr.heap.size)∧Hid ((E.fpL us).Nodup)∧Below w.heap.size w wr) (fun i _=>l.length-(intOf i).toNat)
 case atStart=>exact⟨0,[],Nat.zero_le _,rfl,rfl,rfl,(fun u hu=>absurd hu List.not_mem_nil),by exact hF,by simp,(fun u hu=>absurd hu List.not_mem_nil),(by show List.Nodup _;simp [E.fpL]),by exact by0⟩
 case round =>
  obtain⟨k,us,hk,rfl,HL,HD,HT,hf,hge,HO,HN,hb⟩:=hrel
  by_cases hlt:k<l.length
  ·have hs':=hs.below hb (Nat.le_refl _)
   have hzb:=hb.size
   have hmem:=List.getElem_mem hlt
   have hin:=(hr.el hmem).below hb (Nat.le_refl _)
   have H:=toMFn_all (h1 _ hmem)
   have hsk:l[k].sz≤1048576:=by have:=E.szL_mem hmem;have:=HS.out;omega
   obtain⟨b,o,rfl,_,hc⟩:=hs'.at_ hlt
   obtain⟨y0,y1A,y1c,y1l,ex,gy0,gy1,-⟩:=zj6 (h1 _ hmem)
   have HEX:=Lib.hid ex
   rw [ex] at hc hin H hsk
   clear ex
   have c0:=hc 0 _ rfl;have c1:=hc 1 _ rfl
   rw [Nat.add_zero] at c0
   clear hc
   have HF:=Lib.hid hf
   clear hf
   go_wp2_with fail
   go_at_call 101
   refine (H _ hin hsk).mono ?_;rintro e w1 ⟨x,he,HDX,htx,hox,hnx,hb1⟩
   have HTX:=Lib.hid htx
   obtain⟨z0,z1A,z1c,z1l,rfl,gz0,gz1,-⟩:=zb4 htx
   obtain rfl:e=.returned (.agg #[.int .i64 z0,.slice z1A z1l.length z1c]):=he
   have hf1:=HF.out.below hb1 HF.out.lt
   obtain⟨u0,c0'⟩:=hf1.cell (j:=k*2) (by omega);obtain⟨u1,c1'⟩:=hf1.cell (j:=k*2+1) (by omega)
   have zfr:=hf1.frozen
   have hz1:=hb1.size
   have HOX:=Lib.hid hox
   have HNX:=Lib.hid hnx
   have HF1:=Lib.hid hf1
   clear hox hnx hf1 htx
   go_wp2
   go_roundw
   case rel =>
    have hl:=HL.out
    have hf1:=HF1.out
    have hT:∀u∈us++[(E.agg [.int .i64 z0,.lst 2 82 z1A z1c z1l])],u.Ty Tryz.prog 79∧u.enc.length=2:=fun u hu=>by
     rcases List.mem_append.1 hu with hu|hu
     ·exact HT.out u hu
     ·obtain rfl:=List.mem_singleton.1 hu
      exact⟨HTX.out,rfl⟩
    have hlen:=E.encL_len fun u hu=>(HT.out u hu).2
    have hk2:k<(us++[(E.agg [.int .i64 z0,.lst 2 82 z1A z1c z1l])]).length:=by simp;omega
    have ev:=fun j hj=>E.encL_at (fun u hu=>(hT u hu).2) k hk2 j hj
    have eT:(us++[(E.agg [.int .i64 z0,.lst 2 82 z1A z1c z1l])])[k]=(E.agg [.int .i64 z0,.lst 2 82 z1A z1c z1l]):=by rw [List.getElem_append_right (by omega)];simp [hl]
    simp only [eT] at ev
    have hf2:Fill w1 w.heap.size 79 (l.length*2) (k*2) (E.encL (us++[(E.agg [.int .i64 z0,.lst 2 82 z1A z1c z1l])])):=hf1.swap' fun j hj=>E.encL_app_lt us _ j (by rw [hlen,hl];exact hj)
    have K:=fun (W:World) (h:Kp w.heap.size (w.heap.size+1) w1 W) (u:E) (hu:u∈us)=>((HO.out u hu).below hb1 (Nat.le_refl _)).kp h (.inr (by omega))
    refine⟨k+1,us++[(E.agg [.int .i64 z0,.lst 2 82 z1A z1c z1l])],by omega,by go_num,by show _=_;simp [hl],zy21 hlt HD.out (HDX.out.trans (by rw [←HEX.out])),hT,by rw [Nat.add_mul];exact ((hf2.set (by omega) (ev 0 (by omega))).set (by omega) (ev 1 (by omega))),by simp;omega,?_,?_,by exact by0⟩
    ·intro u hu
     rcases List.mem_append.1 hu with hu|hu
     ·exact (K _ (by repeat (first|(with_reducible exact Kp.refl _ _ _)|(refine Kp.set ?_ (by first|omega|(dsimp only;omega)|(simp;omega)) (by first|omega|(dsimp only;omega)|(simp;omega)) _))) u hu).wider (Nat.le_refl _) (by simp;omega)
     ·obtain rfl:=List.mem_singleton.1 hu
      exact (HOX.out.kp (lo':=w.heap.size) (hi':=w.heap.size+1) (by repeat (first|(with_reducible exact Kp.refl _ _ _)|(refine Kp.set ?_ (by first|omega|(dsimp only;omega)|(simp;omega)) (by first|omega|(dsimp only;omega)|(simp;omega)) _))) (.inr (by omega))).wider (by omega) (by simp)
    ·refine zu9 HN.out HNX.out fun g hg hg2=>?_
     obtain⟨u,hu,hg⟩:=E.mem_fpL.1 hg
     have:=(HO.out u hu).lt g hg
     have:=HOX.out.lt g hg2
     omega
   case measure=>simp [intOf];omega
  ·have hk':k=l.length:=by omega
   subst hk'
   go_wp2
   go_ret
   have hl:=HL.out
   have hTy:=HT.out
   have own:wr.ownsRow w.heap.size 79 2 (.slice (some ⟨w.heap.size,0,none⟩) l.length l.length) l.length (E.encL us):=hf.owns (Nat.le_refl _) rfl (by rw [E.encL_len fun u hu=>(hTy u hu).2,hl]) (by unfold maxLen;omega)
   rw [←hl] at own
   refine⟨.lst 2 79 (some ⟨w.heap.size,0,none⟩) us.length us,by rw [←hl];rfl,?_,E.Ty.mk_lst Tryz.underlying31 (by kernel_rfl) (fun u hu=>(hTy u hu).1) (fun u hu=>(hTy u hu).2),E.Ho.mk (Ow.of_owns own (Nat.le_refl _)) (fun u hu=>(hTy u hu).2) (fun u hu=>(HO.out u hu).wider (by omega) (Nat.le_refl _)),?_,hb⟩
   ·show E.d _=E.d _
    rw [zy13]
    have h:=HD.out
    rwa [List.take_length] at h
   ·simp only [E.fp,List.singleton_append,List.nodup_cons]
    refine⟨fun hm=>?_,HN.out⟩
    obtain⟨u,hu,hg⟩:=E.mem_fpL.1 hm
    have:=(HO.out u hu).lt _ hg
    omega
theorem zr21 {e:E}(ht:e.Ty Tryz.prog 24):To 36 31 e:=by
 obtain⟨A,c,l,rfl,h1,_⟩:=ht.lst_ Tryz.underlying24 (k:=2) (by kernel_rfl)
 exact toMFnS_all' A c l h1
set_option maxRecDepth 100000 in
set_option maxHeartbeats 1000000 in
theorem eqMFn_all {e e':E}(ht:e.Ty Tryz.prog 79)(ht':e'.Ty Tryz.prog 79):Eq 116 e e':=by
 obtain⟨x0,x1A,x1c,x1l,rfl,gx0,gx1,-⟩:=zb4 ht
 obtain⟨y0,y1A,y1c,y1l,rfl,gy0,gy1,-⟩:=zb4 ht'
 intro hd w hr hr'
 simp only [E.d,E.dL,E.agg.injEq,List.cons.injEq,E.int.injEq,E.str.injEq,E.bool.injEq,E.lst.injEq,true_and,and_true] at hd
 obtain⟨rfl,hd1⟩:=hd
 have hr1:=((hr.fld (i:=1) rfl).alloc (.cells #[.int .i64 x0,.slice x1A x1l.length x1c] 79)).alloc (.cells #[.int .i64 x0,.slice y1A y1l.length y1c] 79)
 have hs1:=((hr'.fld (i:=1) rfl).alloc (.cells #[.int .i64 x0,.slice x1A x1l.length x1c] 79)).alloc (.cells #[.int .i64 x0,.slice y1A y1l.length y1c] 79)
 have t1:(E.lst 2 82 x1A x1c x1l).Ty Tryz.prog 77:=E.Ty.mk_lst Tryz.underlying77 (by kernel_rfl) gx1.1 gx1.2
 have u1:(E.lst 2 82 y1A y1c y1l).Ty Tryz.prog 77:=E.Ty.mk_lst Tryz.underlying77 (by kernel_rfl) gy1.1 gy1.2
 have HC1:=Lib.hid (zo21 t1 u1 (by simp only [E.d,E.dL,E.agg.injEq,List.cons.injEq,E.int.injEq,E.str.injEq,E.bool.injEq,E.lst.injEq,true_and,and_true];exact hd1))
 clear t1 u1
 clear hd1
 change Calls _ _ #[.agg #[.int .i64 x0,.slice x1A x1l.length x1c],.agg #[.int .i64 x0,.slice y1A y1l.length y1c]] w _
 go_enter Tryz.func116,Tryz.ntmps116
 go_wp2_with fail
 go_at_call 167
 refine (HC1.out _ hr1 hs1).mono ?_;rintro e w1 ⟨rfl,hb1⟩
 have hz1:=hb1.size;(try simp only [World.size_alloc] at hz1)
 go_wp2
 go_ret
 exact⟨rfl,by0⟩
set_option maxRecDepth 100000 in
set_option maxHeartbeats 1000000 in
theorem eqMFnS_all' (A B:Option Addr)(c c':Nat)(l m:List E)(h1:∀y∈l,y.Ty Tryz.prog 79)(h2:∀y∈m,y.Ty Tryz.prog 79):Eq 44 (.lst 2 79 A c l) (.lst 2 79 B c' m):=by
 intro hd w hr hr'
 rw [zy13] at hd
 have hs:=hr.sl
 have hs':=hr'.sl
 have hml:=zx21 hd
 have HD:=Lib.hid hd
 clear hd
 have hlen:=hs.len_le
 change Calls _ _ #[.slice A l.length c,.slice B m.length c'] w _
 obtain⟨N,HN⟩:∃N,Hid (m.length=N):=⟨_,rfl⟩
 have hN:N=l.length:=by have:=HN.out;omega
 subst hN
 rw [HN.out]
 clear hml
 go_enter Tryz.func44,Tryz.ntmps44
 go_wp2
 go_loopw [5] (fun i wr=>∃(k:Nat),k≤l.length∧i=.int .i64 k∧Below w.heap.size w wr) (fun i _=>l.length-(intOf i).toNat)
 case atStart=>exact⟨0,Nat.zero_le _,rfl,Below.refl _ _⟩
 case round =>
  obtain⟨k,hk,rfl,hb⟩:=hrel
  by_cases hlt:k<l.length
  ·have hltm:k<m.length:=by have:=HN.out;omega
   have hsb:=hs.below hb (Nat.le_refl _)
   have hsb':=hs'.below hb (Nat.le_refl _)
   have hdk:=d_at HD.out hlt hltm
   obtain⟨b,o,rfl,_,hc⟩:=hsb.at_ hlt
   obtain⟨b',o',rfl,_,hd⟩:=hsb'.at_ hltm
   have hin:=(hr.el (List.getElem_mem hlt)).below hb (Nat.le_refl _)
   have hin':=(hr'.el (List.getElem_mem hltm)).below hb (Nat.le_refl _)
   have H:=eqMFn_all (h1 _ (List.getElem_mem hlt)) (h2 _ (List.getElem_mem hltm)) hdk
   obtain⟨x0,x1A,x1c,x1l,ex,gx0,gx1,-⟩:=zb4 (h1 _ (List.getElem_mem hlt))
   obtain⟨y0,y1A,y1c,y1l,ey,gy0,gy1,-⟩:=zb4 (h2 _ (List.getElem_mem hltm))
   rw [ex] at hc hin
   rw [ey] at hd hin'
   rw [ex,ey] at H
   clear ex ey hdk
   have c0:=hc 0 _ rfl;have c1:=hc 1 _ rfl
   have d0:=hd 0 _ rfl;have d1:=hd 1 _ rfl
   rw [Nat.add_zero] at c0 d0
   clear hc hd
   have hzb:=hb.size
   have HH:=Lib.hid H
   clear H
   go_wp2
   go_region_held3 (fun w'=>w'.cell? ⟨b,o+k*2,none⟩=some (.int .i64 x0)∧w'.cell? ⟨b,o+k*2+1,none⟩=some (.slice x1A x1l.length x1c)∧w'.cell? ⟨b',o'+k*2,none⟩=some (.int .i64 y0)∧w'.cell? ⟨b',o'+k*2+1,none⟩=some (.slice y1A y1l.length y1c))
    (first|exact⟨c0,c1,d0,d1⟩|skip)
    ((go_at_call 116;refine (HH.out _ by2 by2).mono ?_;rintro e w1 ⟨rfl,hb1⟩;have c0:=zp2 hb1 c0 by1;have c1:=zp2 hb1 c1 by1;have d0:=zp2 hb1 d0 by1;have d1:=zp2 hb1 d1 by1))
   go_wp2
   go_roundw
   case rel=>exact⟨k+1,by omega,by go_num,by exact by0⟩
   case measure=>simp [intOf];omega
  ·go_wp2
   go_ret
   exact⟨rfl,hb⟩
theorem zs21 {e e':E}(ht:e.Ty Tryz.prog 31)(ht':e'.Ty Tryz.prog 31):Eq 44 e e':=by
 obtain⟨A,c,l,rfl,h1,_⟩:=ht.lst_ Tryz.underlying31 (k:=2) (by kernel_rfl)
 obtain⟨B,c',m,rfl,h2,_⟩:=ht'.lst_ Tryz.underlying31 (k:=2) (by kernel_rfl)
 exact eqMFnS_all' A B c c' l m h1 h2
set_option maxRecDepth 100000 in
set_option maxHeartbeats 1000000 in
theorem markMFnS_all' (A:Option Addr)(c:Nat)(l:List E)(h1:∀y∈l,y.Ty Tryz.prog 79)(h2:∀y∈l,y.enc.length=2):Mar 47 (.lst 2 79 A c l):=by
 intro lo hi k0 w ho hnd hhi hk0 hk1
 have HCN:Hid ((E.lst 2 79 A c l).cnt=E.cntcL l):=rfl
 rw [HCN.out] at hk1
 have HND:=Lib.hid hnd
 clear hnd
 have hlen:=ho.re.sl.len_le
 have how0:=ho
 rw [←zn7 l k0] at how0
 clear ho
 change Calls _ _ #[.slice A l.length c,.int .i64 k0] w _
 rw [HCN.out]
 change Calls _ _ _ w fun r w'=>r=.returned (.int .i64 (k0+(E.cntcL l:Nat)))∧(E.lst 2 79 A c (E.mkcL l k0)).Ho w' lo hi∧Fr (E.lst 2 79 A c l).fp w w'
 go_enter Tryz.func47,Tryz.ntmps47
 go_wp2
 go_loopw [1,5] (fun v i wr=>∃(k:Nat) (q:Int),k≤l.length∧i=.int .i64 k∧v=.int .i64 q∧Hid (q=k0+(E.cntcL (l.take k):Nat))∧Fr (E.lst 2 79 A c l).fp w wr∧Hid ((E.lst 2 79 A c (mixM l k0 k)).Ho wr lo hi)) (fun _ i _=>l.length-(intOf i).toNat)
 case atStart=>exact⟨0,k0,Nat.zero_le _,rfl,rfl,(by show _=_;simp [E.cntcL]),Fr.refl _ _,how0⟩
 case round =>
  obtain⟨k,q,hk,rfl,rfl,HQ,hF0,HOW⟩:=hrel
  have hzk:=hF0.size
  by_cases hlt:k<l.length
  ·have HT:=Lib.hid (E.cntcL_take l k hlt)
   have hq0:0≤q:=by have:=HQ.out;omega
   have hml:k<(mixM l k0 k).length:=by rw [zy7];exact hlt
   have how:=HOW.out
   obtain⟨g,rfl,hg1,hg2,hg3⟩:=how.head (by omega)
   obtain⟨y0,y1A,y1c,y1l,ex,gy0,gy1,-⟩:=zb4 (h1 _ (List.getElem_mem hlt))
   have HC1:=Lib.hid (za17 (show (E.lst 2 82 y1A y1c y1l).Ty Tryz.prog 77 from E.Ty.mk_lst Tryz.underlying77 (by kernel_rfl) gy1.1 gy1.2))
   have HCX:Hid ((E.agg [.int .i64 y0,.lst 2 82 y1A y1c y1l]).cntc=(1+((E.lst 2 82 y1A y1c y1l).cnt+0))):=rfl
   have hq1:q+(((1+((E.lst 2 82 y1A y1c y1l).cnt+0)):Nat):Int)≤1152921504606846976:=by have e1:=HQ.out;have e2:=HT.out;have e3:=E.cntcL_le l (k+1);rw [ex,HCX.out] at e2;omega
   have e0:mixM l k0 k=(mixM l k0 k).set k (E.agg [.int .i64 y0,.lst 2 82 y1A y1c y1l]):=by rw [←ex,←zc7 l k0 k hlt];exact (List.set_getElem_self _).symm
   have HN2:=Lib.hid (fun (z:E) (hz:z.fp=(E.agg [.int .i64 y0,.lst 2 82 y1A y1c y1l]).fp)=>(show (E.lst 2 79 (some ⟨g,0,none⟩) c ((mixM l k0 k).set k z)).fp.Nodup by have hh:=HND.out;have h3:E.fpL ((mixM l k0 k).set k z)=E.fpL l:=(E.fpL_set hml (by rw [hz,←ex,zc7 l k0 k hlt])).trans (zj11 l k0 k);simp only [E.fp] at hh ⊢;rw [h3];exact hh))
   have HSB:=Lib.hid (fun (b:Nat) (hb:b∈(E.agg [.int .i64 y0,.lst 2 82 y1A y1c y1l]).fp)=>(show b∈(E.lst 2 79 (some ⟨g,0,none⟩) c l).fp by simp only [E.fp];exact List.mem_append_right _ (E.mem_fpL.2 ⟨l[k],List.getElem_mem hlt,by rw [ex];exact hb⟩)))
   have hgm:g∈(E.lst 2 79 (some ⟨g,0,none⟩) c l).fp:=by simp [E.fp]
   have HGM:=Lib.hid hgm
   clear hgm
   rw [e0] at how
   clear e0
   obtain⟨ms,HMS⟩:∃ms,Hid (mixM l k0 k=ms):=⟨_,rfl⟩
   rw [HMS.out] at how hml HN2
   have HEX:=Lib.hid ex
   clear ex
   have HML:=Lib.hid hml
   clear hml
   have H0:=Lib.hid how
   clear how
   have c0_0:wr.cell? ⟨g,k*2,none⟩=some (.int .i64 y0):=H0.out.cellx (j:=0) (u:=.int .i64 y0) (by simpa using HML.out) (zp6 HML.out _) rfl
   have c0_1:wr.cell? ⟨g,k*2+1,none⟩=some (.slice y1A y1l.length y1c):=H0.out.cellx (j:=1) (u:=.slice y1A y1l.length y1c) (by simpa using HML.out) (zp6 HML.out _) rfl
   have fz0:=H0.out.frzx
   go_wp2_with fail
   have H1:Hid ((E.lst 2 79 (some ⟨g,0,none⟩) c (ms.set k (E.agg [(E.int .i64 (q)),(E.lst 2 82 y1A y1c y1l)]))).Ho (wr.setCell ⟨g,k*2,none⟩ (.int .i64 (q))) lo hi):=H0.out.store (HN2.out _ rfl) HML.out (E.agg [(E.int .i64 (q)),(E.lst 2 82 y1A y1c y1l)]) 0 (.int .i64 (q)) (by omega) rfl (fun _ h=>h)
   clear H0
   clear c0_0 c0_1 fz0
   have ho1:(E.lst 2 82 y1A y1c y1l).Ho (wr.setCell ⟨g,k*2,none⟩ (.int .i64 (q))) lo hi:=(E.Ho.fld (i:=1) (H1.out.el (zz13 HML.out _)) rfl)
   have HNn1:Hid ((E.lst 2 82 y1A y1c y1l).fp.Nodup):=(zo6 (show (E.fpL [(E.int .i64 (q)),(E.lst 2 82 y1A y1c y1l)]).Nodup from (zo6 (show (E.fpL (ms.set k (E.agg [(E.int .i64 (q)),(E.lst 2 82 y1A y1c y1l)]))).Nodup from (List.nodup_append.1 (show List.Nodup (_++_) from HN2.out (E.agg [(E.int .i64 (q)),(E.lst 2 82 y1A y1c y1l)]) rfl)).2.1) (zz13 HML.out _))) (show (E.lst 2 82 y1A y1c y1l)∈[(E.int .i64 (q)),(E.lst 2 82 y1A y1c y1l)] by simp))
   go_at_call 118
   refine (HC1.out lo hi _ _ ho1 HNn1.out (by first|omega|(simp;omega)) (by omega) (by omega)).mono ?_;rintro e w1 ⟨rfl,hm1,hf1⟩
   have hz1:=hf1.size;(try simp only [World.size_setCell] at hz1)
   have hin1:(E.agg [(E.int .i64 (q)),(E.lst 2 82 y1A y1c (E.mkcL y1l (q+1)))]).Ho w1 lo hi:=(Ho_repl (i:=1) (H1.out.el (zz13 HML.out _)) (zo6 (show (E.fpL (ms.set k (E.agg [(E.int .i64 (q)),(E.lst 2 82 y1A y1c y1l)]))).Nodup from (List.nodup_append.1 (show List.Nodup (_++_) from HN2.out (E.agg [(E.int .i64 (q)),(E.lst 2 82 y1A y1c y1l)]) rfl)).2.1) (zz13 HML.out _)) (by simp) (show Fr (E.lst 2 82 y1A y1c y1l).fp _ _ from hf1) hm1)
   have H2:=Lib.hid (H1.out.inside (HN2.out _ rfl) HML.out (E.agg [(E.int .i64 (q)),(E.lst 2 82 y1A y1c (E.mkcL y1l (q+1)))]) hf1 (fun b hb=>by simp only [E.fp,E.fpL,List.mem_append,List.nil_append,List.append_nil] at hb ⊢;simp [hb]) (by simp only [E.enc,E.encL,E.mkcL_len]) hin1)
   clear H1 hin1 ho1 hm1
   have hF1:Fr (E.lst 2 79 (some ⟨g,0,none⟩) c l).fp w w1:=(hF0.set HGM.out (.int .i64 (q))).trans (hf1.sub (fun b hb=>HSB.out b (by simp only [E.fp,E.fpL,List.mem_append,List.nil_append,List.append_nil] at hb ⊢;simp [hb])))
   have c1_0:w1.cell? ⟨g,k*2,none⟩=some (.int .i64 (q)):=H2.out.cellx (j:=0) (u:=.int .i64 (q)) (by simpa using HML.out) (zp6 HML.out _) rfl
   have c1_1:w1.cell? ⟨g,k*2+1,none⟩=some (.slice y1A (E.mkcL y1l (q+1)).length y1c):=H2.out.cellx (j:=1) (u:=.slice y1A (E.mkcL y1l (q+1)).length y1c) (by simpa using HML.out) (zp6 HML.out _) rfl
   have fz1:=H2.out.frzx
   go_wp2
   go_roundw
   case rel =>
    have FF:∀t0 t1:Int,(q)=t0→(q+1)=t1→(E.agg [(E.int .i64 (q)),(E.lst 2 82 y1A y1c (E.mkcL y1l (q+1)))])=(E.agg [(E.int .i64 t0),(E.lst 2 82 y1A y1c (E.mkcL y1l t1))]):=by
     intro t0 t1 ht0 ht1
     subst ht0
     subst ht1
     rfl
    have EX:(E.agg [(E.int .i64 (q)),(E.lst 2 82 y1A y1c (E.mkcL y1l (q+1)))])=(E.agg [.int .i64 y0,.lst 2 82 y1A y1c y1l]).mkc q:=FF _ _ (by first|rfl|omega|(show _=_;simp only [E.cnt,E.cntL,E.cntc,E.cntcL,reduceCtorEq,if_false,if_true,ite_false];omega)) (by first|rfl|omega|(show _=_;simp only [E.cnt,E.cntL,E.cntc,E.cntcL,reduceCtorEq,if_false,if_true,ite_false];omega))
    exact⟨k+1,_,by omega,by go_num,rfl,(by show _=_;have e1:=HQ.out;have e2:=HT.out;rw [HEX.out,HCX.out] at e2;omega),hF1,(by show E.Ho _ _ _ _;rw [←zo7 l k0 k hlt,HEX.out,←HQ.out,←EX,HMS.out];exact H2.out)⟩
   case measure=>simp [intOf];omega
  ·have hk':k=l.length:=by omega
   subst hk'
   go_wp2
   go_ret
   have e1:=HQ.out
   rw [List.take_length] at e1
   have h:=HOW.out
   rw [zs8] at h
   exact⟨ri e1,h,hF0⟩
theorem zd17 {e:E}(ht:e.Ty Tryz.prog 31):Mar 47 e:=by
 obtain⟨A,c,l,rfl,h1,h2⟩:=ht.lst_ Tryz.underlying31 (k:=2) (by kernel_rfl)
 exact markMFnS_all' A c l h1 h2
end Go.Proofs.YtghljnfbbaklnaaGreat
