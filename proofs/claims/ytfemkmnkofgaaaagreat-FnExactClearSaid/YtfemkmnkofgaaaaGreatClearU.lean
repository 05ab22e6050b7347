/- The type Rec, and slices of it: shape; the laws' own functions. -/
import Derived.Test.YtfemkmnkofgaaaaGreatClearT
namespace Go.Proofs.YtfemkmnkofgaaaaGreat
open Go.RowKit
theorem zj4 {e:E}(h:e.Ty Tryz.prog 30):∃(x0:ByteArray) (x1A:Option Addr) (x1c:Nat) (x1l:List E),e=(E.agg [.str x0,.lst 1 9 x1A x1c x1l])∧(x0.size≤9223372036854775807)∧((∀y∈x1l,y.Ty Tryz.prog 9)∧(∀y∈x1l,y.enc.length=1))∧True:=by
 obtain⟨fs,rfl,q0⟩:=h.agg_ Tryz.underlying30
 change E.TyF _ _ [9,28] at q0
 obtain⟨e0,r0,rfl,h0,q1⟩:=q0.cons_
 obtain⟨e1,r1,rfl,h1,q2⟩:=q1.cons_
 obtain rfl:=q2.nil_
 obtain⟨x0,rfl,gx0⟩:=h0.str_ Tryz.underlying9
 obtain⟨x1A,x1c,x1l,rfl,gx1,gx1'⟩:=h1.lst_ Tryz.underlying28 (k:=1) (by kernel_rfl)
 exact⟨x0,x1A,x1c,x1l,rfl,gx0,⟨gx1,gx1'⟩,trivial⟩
theorem zg2 {e:E}(h:e.Ty Tryz.prog 40):∃(x0:ByteArray) (x1A:Option Addr) (x1c:Nat) (x1l:List E),e=(E.agg [.str x0,.lst 1 9 x1A x1c x1l])∧(x0.size≤9223372036854775807)∧((∀y∈x1l,y.Ty Tryz.prog 9)∧(∀y∈x1l,y.enc.length=1))∧True:=by
 obtain⟨fs,rfl,q0⟩:=h.agg_ Tryz.underlying40
 change E.TyF _ _ [9,28] at q0
 obtain⟨e0,r0,rfl,h0,q1⟩:=q0.cons_
 obtain⟨e1,r1,rfl,h1,q2⟩:=q1.cons_
 obtain rfl:=q2.nil_
 obtain⟨x0,rfl,gx0⟩:=h0.str_ Tryz.underlying9
 obtain⟨x1A,x1c,x1l,rfl,gx1,gx1'⟩:=h1.lst_ Tryz.underlying28 (k:=1) (by kernel_rfl)
 exact⟨x0,x1A,x1c,x1l,rfl,gx0,⟨gx1,gx1'⟩,trivial⟩
set_option maxRecDepth 100000 in
set_option maxHeartbeats 1000000 in
theorem zd18 {e:E}(ht:e.Ty Tryz.prog 30):Sz 15 e:=by
 obtain⟨x0,x1A,x1c,x1l,rfl,gx0,gx1,-⟩:=zj4 ht
 intro left w hr h0 h1
 have HSZ:Hid ((E.agg [.str x0,.lst 1 9 x1A x1c x1l]).sz=(x0.size+((E.lst 1 9 x1A x1c x1l).sz+0))):=rfl
 change Calls _ _ #[.agg #[.string x0,.slice x1A x1l.length x1c],.int .i64 left] w _
 have hr1:=(hr.fld (i:=1) rfl).alloc (.cells #[.string x0,.slice x1A x1l.length x1c] 30)
 go_enter Tryz.func15,Tryz.ntmps15
 by_cases hn1:left-x0.size<0
 ·go_wp2
  go_ret
  exact⟨-1,rfl,.inl (by omega),by omega,by exact by0⟩
 go_wp2_with fail
 go_at_call 51
 refine ((ze9 (E.Ty.mk_lst Tryz.underlying28 (by kernel_rfl) gx1.1 gx1.2)) _ _ hr1 (by omega) (by omega)).mono ?_;rintro e w2 ⟨r2,rfl,hr2s,hl2,hb2⟩
 have hz2:=hb2.size;(try simp only [World.size_alloc] at hz2)
 by_cases hn2:r2<0
 ·go_wp2
  go_ret
  exact⟨-1,rfl,.inl (by omega),by omega,by exact by0⟩
 have hq2:=hr2s.resolve_left hn2
 go_wp2
 go_ret
 refine⟨_,rfl,.inr ?_,by omega,by exact by0⟩
 show _=_
 rw [HSZ.out]
 have e2:=hq2.out
 push_cast
 omega
set_option maxRecDepth 100000 in
set_option maxHeartbeats 1000000 in
theorem ze18 {e:E}(ht:e.Ty Tryz.prog 30):To 24 40 e:=by
 have HT0:=Lib.hid ht
 obtain⟨x0,x1A,x1c,x1l,rfl,gx0,gx1,-⟩:=zj4 ht
 intro w hr hsz
 have hsz':(x0.size+((E.lst 1 9 x1A x1c x1l).sz+0))≤1048576:=hsz
 have hs1:(E.lst 1 9 x1A x1c x1l).sz≤1048576:=by omega
 clear hsz hsz'
 have hr1:=hr.fld (i:=1) rfl
 have ty1:(E.lst 1 9 x1A x1c x1l).Ty Tryz.prog 28:=E.Ty.mk_lst Tryz.underlying28 (by kernel_rfl) gx1.1 gx1.2
 have HC1:=Lib.hid (zf9 ty1)
 clear ty1
 change Calls _ _ #[.agg #[.string x0,.slice x1A x1l.length x1c]] w _
 go_enter Tryz.func24,Tryz.ntmps24
 go_wp2_with fail
 go_at_call 60
 refine (HC1.out _ (((hr1.alloc _).alloc _).alloc _) hs1).mono ?_;rintro e w1 ⟨v1,he,HD1,ht1,ho1,hn1,hb1⟩
 have HT1:=Lib.hid ht1
 have HN1:=Lib.hid hn1
 obtain⟨A1,q1,l1,rfl,-,-⟩:=ht1.lst_ Tryz.underlying28 (k:=1) (by kernel_rfl)
 obtain rfl:e=.returned (.slice A1 l1.length q1):=he
 clear hn1 ht1
 have B0_1:w1.heap[w.heap.size]? = some (.cells #[.string x0,.slice x1A x1l.length x1c] 30 (0,0)):=(hb1.block (w.heap.size) (by simp;omega)).trans zh4.1
 have B1_1:w1.heap[w.heap.size+1]? = some (.cells #[.string ByteArray.empty,.slice none 0 0] 40 (0,0)):=(hb1.block (w.heap.size+1) (by simp)).trans zh4.2.1
 have B2_1:w1.heap[w.heap.size+1+1]? = some (.cells #[.string x0,.slice none 0 0] 40 (0,0)):=(hb1.block (w.heap.size+1+1) (by simp)).trans zh4.2.2
 have hz1:=hb1.size;simp only [World.size_alloc] at hz1
 have hB1:Below w.heap.size w w1:=(by exact by0:Below w.heap.size w _).trans (hb1.mono (by simp;omega))
 have ho1:=ho1.wider (lo':=w.heap.size+1+1+1) (by simp) (Nat.le_refl _)
 have c1_0:w1.cell? ⟨w.heap.size,0,none⟩=some (.string x0):=za B0_1 rfl
 have c1_1:w1.cell? ⟨w.heap.size,1,none⟩=some (.slice x1A x1l.length x1c):=za B0_1 rfl
 have d1_0:w1.cell? ⟨w.heap.size+1+1,0,none⟩=some (.string x0):=za B2_1 rfl
 have d1_1:w1.cell? ⟨w.heap.size+1+1,1,none⟩=some (.slice none 0 0):=za B2_1 rfl
 have f1:=zt2 B2_1
 have r0':=za B1_1 (o:=0) rfl;have r1':=za B1_1 (o:=1) rfl
 have fr':=zt2 B1_1
 go_wp2
 have OWN:Owns w1 (w.heap.size+1+1+1) w1.heap.size [(E.str x0),(E.lst 1 9 A1 q1 l1)]:=(Owns.leaf rfl (by simp only [E.Ho]) (Owns.cons (mid:=w1.heap.size) ho1 HN1.out Owns.nil (by omega) (by omega)))
 refine bodyPost_ret (v:=.agg #[.string x0,.slice A1 l1.length q1]) (zp4 (t:=40) (fr:=(0,0)) rfl rfl Tryz.underlying40 (by kernel_rfl) ?_) rfl ⟨(E.agg [(E.str x0),(E.lst 1 9 A1 q1 l1)]),rfl,?_,E.Ty.mk_agg Tryz.underlying40 (E.TyF.mk_cons (show E.Ty _ _ _ from ⟨Tryz.underlying9,by unfold maxLen;exact gx0⟩) (E.TyF.mk_cons HT1.out (E.TyF.mk_nil))),?_,?_,?_⟩
 ·simp only [zn2,B1_1,B2_1];simp [setAt]
 ·show E.d _=E.d _
  simp only [E.d,E.dL]
  have y1:=HD1.out;simp only [E.d,E.dL] at y1
  simp only [E.agg.injEq,List.cons.injEq,E.lst.injEq,E.int.injEq,E.str.injEq,E.bool.injEq,true_and,and_true] at *
  simp [*]
 ·exact ((E.Ho.mk_agg OWN.1).kp (lo':=w.heap.size+1) (hi':=w.heap.size+1+1+1) (by repeat (first|(with_reducible exact Kp.refl _ _ _)|(refine Kp.set ?_ (by first|omega|(dsimp only;omega)|(simp;omega)) (by first|omega|(dsimp only;omega)|(simp;omega)) _))) (.inr (by omega))).wider (by omega) (by simp)
 ·exact OWN.2
 ·exact hB1.trans (Kp.below (lo:=w.heap.size+1) (hi:=w.heap.size+1+1+1) (by repeat (first|(with_reducible exact Kp.refl _ _ _)|(refine Kp.set ?_ (by first|omega|(dsimp only;omega)|(simp;omega)) (by first|omega|(dsimp only;omega)|(simp;omega)) _))) (by omega) (by omega))
set_option maxRecDepth 100000 in
set_option maxHeartbeats 1000000 in
theorem zf18 {e e':E}(ht:e.Ty Tryz.prog 40)(ht':e'.Ty Tryz.prog 40):Eq 34 e e':=by
 obtain⟨x0,x1A,x1c,x1l,rfl,gx0,gx1,-⟩:=zg2 ht
 obtain⟨y0,y1A,y1c,y1l,rfl,gy0,gy1,-⟩:=zg2 ht'
 intro hd w hr hr'
 simp only [E.d,E.dL,E.agg.injEq,List.cons.injEq,E.int.injEq,E.str.injEq,E.bool.injEq,E.lst.injEq,true_and,and_true] at hd
 obtain⟨rfl,hd1⟩:=hd
 have hr1:=((hr.fld (i:=1) rfl).alloc (.cells #[.string x0,.slice x1A x1l.length x1c] 40)).alloc (.cells #[.string x0,.slice y1A y1l.length y1c] 40)
 have hs1:=((hr'.fld (i:=1) rfl).alloc (.cells #[.string x0,.slice x1A x1l.length x1c] 40)).alloc (.cells #[.string x0,.slice y1A y1l.length y1c] 40)
 have t1:(E.lst 1 9 x1A x1c x1l).Ty Tryz.prog 28:=E.Ty.mk_lst Tryz.underlying28 (by kernel_rfl) gx1.1 gx1.2
 have u1:(E.lst 1 9 y1A y1c y1l).Ty Tryz.prog 28:=E.Ty.mk_lst Tryz.underlying28 (by kernel_rfl) gy1.1 gy1.2
 have HC1:=Lib.hid (zg9 t1 u1 (by simp only [E.d,E.dL,E.agg.injEq,List.cons.injEq,E.int.injEq,E.str.injEq,E.bool.injEq,E.lst.injEq,true_and,and_true];exact hd1))
 clear t1 u1
 clear hd1
 change Calls _ _ #[.agg #[.string x0,.slice x1A x1l.length x1c],.agg #[.string x0,.slice y1A y1l.length y1c]] w _
 go_enter Tryz.func34,Tryz.ntmps34
 go_wp2_with fail
 go_at_call 70
 refine (HC1.out _ hr1 hs1).mono ?_;rintro e w1 ⟨rfl,hb1⟩
 have hz1:=hb1.size;(try simp only [World.size_alloc] at hz1)
 go_wp2
 go_ret
 exact⟨rfl,by0⟩
set_option maxRecDepth 100000 in
set_option maxHeartbeats 1000000 in
theorem zz12 {e:E}(ht:e.Ty Tryz.prog 40):Mar 40 e:=by
 obtain⟨x0,x1A,x1c,x1l,rfl,gx0,gx1,-⟩:=zg2 ht
 have ty1:(E.lst 1 9 x1A x1c x1l).Ty Tryz.prog 28:=E.Ty.mk_lst Tryz.underlying28 (by kernel_rfl) gx1.1 gx1.2
 have HC1:=Lib.hid (zc7 ty1)
 clear ty1
 intro lo hi k0 w ho hnd hhi h0 h1
 have HCN:Hid ((E.agg [.str x0,.lst 1 9 x1A x1c x1l]).cnt=(0+((E.lst 1 9 x1A x1c x1l).cnt+0))):=rfl
 have h1':=h1
 rw [HCN.out] at h1'
 clear h1
 change (E.fpL [(E.str x0),(E.lst 1 9 x1A x1c x1l)]).Nodup at hnd
 have ho1:=(ho.fld (i:=1) rfl).alloc hhi (.cells #[.string x0,.slice x1A x1l.length x1c] 40)
 have HN1:=Lib.hid (zi1 hnd (show (E.lst 1 9 x1A x1c x1l)∈[(E.str x0),(E.lst 1 9 x1A x1c x1l)] by simp))
 have HS1:=Lib.hid (fun b (hb:b∈(E.lst 1 9 x1A x1c x1l).fp)=>(E.mem_fpL.2 ⟨_,(show (E.lst 1 9 x1A x1c x1l)∈[(E.str x0),(E.lst 1 9 x1A x1c x1l)] by simp),hb⟩:b∈E.fpL [(E.str x0),(E.lst 1 9 x1A x1c x1l)]))
 clear hnd ho
 change Calls _ _ #[.agg #[.string x0,.slice x1A x1l.length x1c],.int .i64 k0] w _
 go_enter Tryz.func40,Tryz.ntmps40
 go_wp2_with fail
 go_at_call 76
 refine (HC1.out lo hi _ _ ho1 HN1.out (by first|omega|(simp;omega)) (by omega) (by omega)).mono ?_;rintro e w1 ⟨rfl,hm1,hf1⟩
 have hz1:=hf1.size;(try simp only [World.size_alloc] at hz1)
 have B1:w1.heap[w.heap.size]? = some (.cells #[.string x0,.slice x1A x1l.length x1c] 40 (0,0)):=(hf1.block w.heap.size (by first|omega|simp) (fun hm=>by have:=ho1.lt _ hm;omega)).trans (heap_alloc_new w _)
 go_wp2
 go_ret
 exact⟨ri (by have:=HCN.out;omega),E.Ho.mk_agg (E.HoL.mk_cons trivial (E.HoL.mk_cons (zs4 hm1 (by first|rfl|omega|(show _=_;simp only [E.cnt,E.cntL,E.cntc,E.cntcL,reduceCtorEq,if_false,if_true,ite_false];omega))) (show E.HoL _ _ _ [] by simp only [E.HoL]))),((Fr.of_below ((Below.refl _ _).alloc (Nat.le_refl _) _)).trans (hf1.sub HS1.out))⟩
set_option maxRecDepth 100000 in
set_option maxHeartbeats 1000000 in
theorem za13 {e:E}(ht:e.Ty Tryz.prog 40):Hel 46 e:=by
 obtain⟨x0,x1A,x1c,x1l,rfl,gx0,gx1,-⟩:=zg2 ht
 have ty1:(E.lst 1 9 x1A x1c x1l).Ty Tryz.prog 28:=E.Ty.mk_lst Tryz.underlying28 (by kernel_rfl) gx1.1 gx1.2
 have HC1:=Lib.hid (zd7 ty1)
 clear ty1
 intro k0 w hr h0 h1
 have HCN:Hid ((E.agg [.str x0,.lst 1 9 x1A x1c x1l]).cnt=(0+((E.lst 1 9 x1A x1c x1l).cnt+0))):=rfl
 have h1':=h1
 rw [HCN.out] at h1'
 clear h1
 have hr1:=(E.In.fld (i:=1) hr rfl).alloc (.cells #[.string x0,.slice x1A x1l.length x1c] 40)
 change Calls _ _ #[.agg #[.string x0,.slice x1A x1l.length x1c],.int .i64 k0] w _
 go_enter Tryz.func46,Tryz.ntmps46
 go_wp2_with fail
 go_at_call 82
 refine (HC1.out _ _ (zt4 hr1 (by first|rfl|omega|(show _=_;simp only [E.cnt,E.cntL,E.cntc,E.cntcL,reduceCtorEq,if_false,if_true,ite_false];omega))) (by omega) (by omega)).mono ?_;rintro e w1 ⟨rfl,hb1⟩
 have hz1:=hb1.size;(try simp only [World.size_alloc] at hz1)
 go_wp2
 go_ret
 exact⟨ri (by have:=HCN.out;omega),by exact by0⟩
end Go.Proofs.YtfemkmnkofgaaaaGreat
