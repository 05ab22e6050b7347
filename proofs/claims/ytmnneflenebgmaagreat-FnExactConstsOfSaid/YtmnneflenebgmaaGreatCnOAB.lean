/- T -/
import Derived.Test.YtmnneflenebgmaaGreatCnOAA
set_option maxHeartbeats 0
set_option maxRecDepth 100000
namespace Go.Proofs.YtmnneflenebgmaaGreat
open Go.RowKit Go.Proofs.Tryz
theorem eP {e:E}(h:e.Ty prog 47):∃(x0A:Option Addr) (x0c:Nat) (x0l:List E) (x1A:Option Addr) (x1c:Nat) (x1l:List E),e=(E.agg [.lst 6 155 x0A x0c x0l,.lst 3 158 x1A x1c x1l])∧((∀y∈x0l,y.Ty prog 155)∧(∀y∈x0l,y.enc.length=6))∧((∀y∈x1l,y.Ty prog 158)∧(∀y∈x1l,y.enc.length=3))∧True:=by
 obtain⟨fs,rfl,q0⟩:=h.agg_ underlying47
 change E.TyF _ _ [44,45] at q0
 obtain⟨e0,r0,rfl,h0,q1⟩:=q0.cons_
 obtain⟨e1,r1,rfl,h1,q2⟩:=q1.cons_
 obtain rfl:=q2.nil_
 obtain⟨x0A,x0c,x0l,rfl,gx0,gx0'⟩:=h0.lst_ underlying44 (k:=6) (by kernel_rfl)
 obtain⟨x1A,x1c,x1l,rfl,gx1,gx1'⟩:=h1.lst_ underlying45 (k:=3) (by kernel_rfl)
 exact⟨x0A,x0c,x0l,x1A,x1c,x1l,rfl,⟨gx0,gx0'⟩,⟨gx1,gx1'⟩,trivial⟩
theorem b8 {e:E}(h:e.Ty prog 27):∃(x0A:Option Addr) (x0c:Nat) (x0l:List E) (x1A:Option Addr) (x1c:Nat) (x1l:List E),e=(E.agg [.lst 6 87 x0A x0c x0l,.lst 3 89 x1A x1c x1l])∧((∀y∈x0l,y.Ty prog 87)∧(∀y∈x0l,y.enc.length=6))∧((∀y∈x1l,y.Ty prog 89)∧(∀y∈x1l,y.enc.length=3))∧True:=by
 obtain⟨fs,rfl,q0⟩:=h.agg_ underlying27
 change E.TyF _ _ [24,25] at q0
 obtain⟨e0,r0,rfl,h0,q1⟩:=q0.cons_
 obtain⟨e1,r1,rfl,h1,q2⟩:=q1.cons_
 obtain rfl:=q2.nil_
 obtain⟨x0A,x0c,x0l,rfl,gx0,gx0'⟩:=h0.lst_ underlying24 (k:=6) (by kernel_rfl)
 obtain⟨x1A,x1c,x1l,rfl,gx1,gx1'⟩:=h1.lst_ underlying25 (k:=3) (by kernel_rfl)
 exact⟨x0A,x0c,x0l,x1A,x1c,x1l,rfl,⟨gx0,gx0'⟩,⟨gx1,gx1'⟩,trivial⟩
theorem sf {e:E}(ht:e.Ty prog 47):Sz 22 e:=by
 obtain⟨x0A,x0c,x0l,x1A,x1c,x1l,rfl,gx0,gx1,-⟩:=eP ht
 intro left w hr h0 h1
 have HSZ:Hid ((E.agg [.lst 6 155 x0A x0c x0l,.lst 3 158 x1A x1c x1l]).sz=((E.lst 6 155 x0A x0c x0l).sz+((E.lst 3 158 x1A x1c x1l).sz+0))):=rfl
 change Calls _ _ #[.agg #[.slice x0A x0l.length x0c,.slice x1A x1l.length x1c],.int .i64 left] w _
 have hr0:=(hr.fld (i:=0) rfl).alloc (.cells #[.slice x0A x0l.length x0c,.slice x1A x1l.length x1c] 47)
 have hr1:=(hr.fld (i:=1) rfl).alloc (.cells #[.slice x0A x0l.length x0c,.slice x1A x1l.length x1c] 47)
 go_enter func22,Tryz.ntmps22
 go_wp2_with fail
 go_at_call 63
 refine ((pQ (E.Ty.mk_lst underlying44 (by kernel_rfl) gx0.1 gx0.2)) _ _ hr0 omq omq).mono ?_;rintro e w1 ⟨r1,rfl,hr1s,hl1,hb1⟩
 have hz1:=hb1.size;(try simp only [World.size_alloc] at hz1)
 have c1_1:w1.cell? ⟨w.heap.size,1,none⟩=some (.slice x1A x1l.length x1c):=(by repeat (first|(with_reducible assumption)|(with_reducible refine cell_drew ?_)|(with_reducible refine cell_drewN ?_)|(with_reducible exact dH rfl)|(exact cell_new' rfl (by first|rfl|(simp;done)))|(with_reducible refine cQ ?_ ?_)|(refine aJ (by with_reducible assumption) ?_ ?_)|(refine cell_kp (by with_reducible assumption) ?_ ?_)|omega|(·simp)|(·(simp;omega))))
 have hr1:=hr1.below hb1 (by first|exact Nat.le_refl _|simp)
 by_cases hn1:r1<0
 ·go_wp2
  go_ret
  exact⟨-1,rfl,.inl omq,omq,by exact by0⟩
 have hq1:=hr1s.resolve_left hn1
 go_wp2_with fail
 go_at_call 64
 refine ((vp (E.Ty.mk_lst underlying45 (by kernel_rfl) gx1.1 gx1.2)) _ _ hr1 omq omq).mono ?_;rintro e w2 ⟨r2,rfl,hr2s,hl2,hb2⟩
 have hz2:=hb2.size;(try simp only [World.size_alloc] at hz2)
 by_cases hn2:r2<0
 ·go_wp2
  go_ret
  exact⟨-1,rfl,.inl omq,omq,by exact by0⟩
 have hq2:=hr2s.resolve_left hn2
 go_wp2
 go_ret
 refine⟨_,rfl,.inr ?_,omq,by exact by0⟩
 show _=_
 rw [HSZ.out]
 have e1:=hq1.out
 have e2:=hq2.out
 push_cast
 omega
theorem gJ {e:E}(ht:e.Ty prog 47):To 23 27 e:=by
 have HT0:=Lib.hid ht
 obtain⟨x0A,x0c,x0l,x1A,x1c,x1l,rfl,gx0,gx1,-⟩:=eP ht
 intro w hr hsz
 have hsz':((E.lst 6 155 x0A x0c x0l).sz+((E.lst 3 158 x1A x1c x1l).sz+0))≤1048576:=hsz
 have hs0:(E.lst 6 155 x0A x0c x0l).sz≤1048576:=by omega
 have hs1:(E.lst 3 158 x1A x1c x1l).sz≤1048576:=by omega
 clear hsz hsz'
 have hr0:=hr.fld (i:=0) rfl
 have ty0:(E.lst 6 155 x0A x0c x0l).Ty prog 44:=E.Ty.mk_lst underlying44 (by kernel_rfl) gx0.1 gx0.2
 have HC0:=Lib.hid (pR ty0)
 clear ty0
 have hr1:=hr.fld (i:=1) rfl
 have ty1:(E.lst 3 158 x1A x1c x1l).Ty prog 45:=E.Ty.mk_lst underlying45 (by kernel_rfl) gx1.1 gx1.2
 have HC1:=Lib.hid (vq ty1)
 clear ty1
 change Calls _ _ #[.agg #[.slice x0A x0l.length x0c,.slice x1A x1l.length x1c]] w _
 go_enter func23,Tryz.ntmps23
 go_wp2_with fail
 go_at_call 65
 refine (HC0.out _ (((hr0.alloc _).alloc _).alloc _) hs0).mono ?_;rintro e w1 ⟨v1,he,HD1,ht1,ho1,hn1,hb1⟩
 have HT1:=Lib.hid ht1
 have HN1:=Lib.hid hn1
 obtain⟨A1,q1,l1,rfl,-,-⟩:=ht1.lst_ underlying24 (k:=6) (by kernel_rfl)
 obtain rfl:e=.returned (.slice A1 l1.length q1):=he
 clear hn1 ht1
 have B0_1:w1.heap[w.heap.size]? = some (.cells #[.slice x0A x0l.length x0c,.slice x1A x1l.length x1c] 47 (0,0)):=(hb1.block (w.heap.size) (by simp;omega)).trans gU.1
 have B1_1:w1.heap[w.heap.size+1]? = some (.cells #[.slice none 0 0,.slice none 0 0] 27 (0,0)):=(hb1.block (w.heap.size+1) (by simp)).trans gU.2.1
 have B2_1:w1.heap[w.heap.size+1+1]? = some (.cells #[.slice none 0 0,.slice none 0 0] 27 (0,0)):=(hb1.block (w.heap.size+1+1) (by simp)).trans gU.2.2
 have hz1:=hb1.size;simp only [World.size_alloc] at hz1
 have hB1:Below w.heap.size w w1:=(by exact by0:Below w.heap.size w _).trans (hb1.mono (by simp;omega))
 have ho1:=ho1.wider (lo':=w.heap.size+1+1+1) (by simp) (Nat.le_refl _)
 have c1_0:w1.cell? ⟨w.heap.size,0,none⟩=some (.slice x0A x0l.length x0c):=aw B0_1 rfl
 have c1_1:w1.cell? ⟨w.heap.size,1,none⟩=some (.slice x1A x1l.length x1c):=aw B0_1 rfl
 have d1_0:w1.cell? ⟨w.heap.size+1+1,0,none⟩=some (.slice none 0 0):=aw B2_1 rfl
 have d1_1:w1.cell? ⟨w.heap.size+1+1,1,none⟩=some (.slice none 0 0):=aw B2_1 rfl
 have f1:=eJ B2_1
 go_wp2_with fail
 have hK1:Kp (w.heap.size+1+1) (w.heap.size+1+1+1) w1 (w1.setCell ⟨w.heap.size+1+1,0,none⟩ (.slice A1 l1.length q1)):=(by repeat (first|(with_reducible exact Kp.refl _ _ _)|(refine Kp.set ?_ (by first|omega|(dsimp only;omega)|(simp;omega)) (by first|omega|(dsimp only;omega)|(simp;omega)) _)))
 have A0_1:=(hK1.block (w.heap.size) omq (.inl omq)).trans B0_1
 have A1_1:=(hK1.block (w.heap.size+1) omq (.inl omq)).trans B1_1
 have A2_1:(w1.setCell ⟨w.heap.size+1+1,0,none⟩ (.slice A1 l1.length q1)).heap[w.heap.size+1+1]? = some (.cells #[.slice A1 l1.length q1,.slice none 0 0] 27 (0,0)):=by simp only [eh,B2_1];simp [jW]
 have hW1:(w1.setCell ⟨w.heap.size+1+1,0,none⟩ (.slice A1 l1.length q1)).heap.size=w1.heap.size:=by simp
 have hBW1:Below w.heap.size w (w1.setCell ⟨w.heap.size+1+1,0,none⟩ (.slice A1 l1.length q1)):=hB1.trans (hK1.below omq omq)
 have ho1:=ho1.kp hK1 (.inr omq)
 clear c1_0 c1_1 d1_0 d1_1 f1 B0_1 B1_1 B2_1 hK1 hB1
 generalize (w1.setCell ⟨w.heap.size+1+1,0,none⟩ (.slice A1 l1.length q1))=W1 at *
 go_at_call 66
 refine (HC1.out _ (E.In.below hr1 hBW1 (Nat.le_refl _)) hs1).mono ?_;rintro e w2 ⟨v2,he,HD2,ht2,ho2,hn2,hb2⟩
 have HT2:=Lib.hid ht2
 have HN2:=Lib.hid hn2
 obtain⟨A2,q2,l2,rfl,-,-⟩:=ht2.lst_ underlying25 (k:=3) (by kernel_rfl)
 obtain rfl:e=.returned (.slice A2 l2.length q2):=he
 clear hn2 ht2
 have B0_2:=(hb2.block (w.heap.size) omq).trans A0_1
 have B1_2:=(hb2.block (w.heap.size+1) omq).trans A1_1
 have B2_2:=(hb2.block (w.heap.size+1+1) omq).trans A2_1
 have hz2:=hb2.size
 have hB2:Below w.heap.size w w2:=hBW1.trans (hb2.mono omq)
 have ho1:=ho1.below hb2 omq
 have ho2:=ho2.wider (lo':=w1.heap.size) omq (Nat.le_refl _)
 clear A0_1 A1_1 A2_1
 have c2_0:w2.cell? ⟨w.heap.size,0,none⟩=some (.slice x0A x0l.length x0c):=aw B0_2 rfl
 have c2_1:w2.cell? ⟨w.heap.size,1,none⟩=some (.slice x1A x1l.length x1c):=aw B0_2 rfl
 have d2_0:w2.cell? ⟨w.heap.size+1+1,0,none⟩=some (.slice A1 l1.length q1):=aw B2_2 rfl
 have d2_1:w2.cell? ⟨w.heap.size+1+1,1,none⟩=some (.slice none 0 0):=aw B2_2 rfl
 have f2:=eJ B2_2
 have r0':=aw B1_2 (o:=0) rfl;have r1':=aw B1_2 (o:=1) rfl
 have fr':=eJ B1_2
 go_wp2
 have OWN:Owns w2 (w.heap.size+1+1+1) w2.heap.size [(E.lst 6 87 A1 q1 l1),(E.lst 3 89 A2 q2 l2)]:=(Owns.cons (mid:=w1.heap.size) ho1 HN1.out (Owns.cons (mid:=w2.heap.size) ho2 HN2.out Owns.nil omq omq) omq omq)
 refine bodyPost_ret (v:=.agg #[.slice A1 l1.length q1,.slice A2 l2.length q2]) (ia (t:=27) (fr:=(0,0)) rfl rfl underlying27 (by kernel_rfl) ?_) rfl ⟨(E.agg [(E.lst 6 87 A1 q1 l1),(E.lst 3 89 A2 q2 l2)]),rfl,?_,E.Ty.mk_agg underlying27 (E.TyF.mk_cons HT1.out (E.TyF.mk_cons HT2.out (E.TyF.mk_nil))),?_,?_,?_⟩
 ·simp only [eh,B1_2,B2_2];simp [jW]
 ·show E.d _=E.d _
  simp only [E.d,E.dL]
  have y1:=HD1.out;simp only [E.d,E.dL] at y1
  have y2:=HD2.out;simp only [E.d,E.dL] at y2
  simp only [E.agg.injEq,List.cons.injEq,E.lst.injEq,E.int.injEq,E.str.injEq,E.bool.injEq,true_and,and_true] at *
  simp [*]
 ·exact ((E.Ho.mk_agg OWN.1).kp (lo':=w.heap.size+1) (hi':=w.heap.size+1+1+1) (by repeat (first|(with_reducible exact Kp.refl _ _ _)|(refine Kp.set ?_ (by first|omega|(dsimp only;omega)|(simp;omega)) (by first|omega|(dsimp only;omega)|(simp;omega)) _))) (.inr omq)).wider omq (by simp)
 ·exact OWN.2
 ·exact hB2.trans (Kp.below (lo:=w.heap.size+1) (hi:=w.heap.size+1+1+1) (by repeat (first|(with_reducible exact Kp.refl _ _ _)|(refine Kp.set ?_ (by first|omega|(dsimp only;omega)|(simp;omega)) (by first|omega|(dsimp only;omega)|(simp;omega)) _))) omq omq)
theorem sg {e e':E}(ht:e.Ty prog 27)(ht':e'.Ty prog 27):Eq 25 e e':=by
 obtain⟨x0A,x0c,x0l,x1A,x1c,x1l,rfl,gx0,gx1,-⟩:=b8 ht
 obtain⟨y0A,y0c,y0l,y1A,y1c,y1l,rfl,gy0,gy1,-⟩:=b8 ht'
 intro hd w hr hr'
 simp only [E.d,E.dL,E.agg.injEq,List.cons.injEq,E.int.injEq,E.str.injEq,E.bool.injEq,E.lst.injEq,true_and,and_true] at hd
 obtain⟨hd0,hd1⟩:=hd
 have hr0:=((hr.fld (i:=0) rfl).alloc (.cells #[.slice x0A x0l.length x0c,.slice x1A x1l.length x1c] 27)).alloc (.cells #[.slice y0A y0l.length y0c,.slice y1A y1l.length y1c] 27)
 have hs0:=((hr'.fld (i:=0) rfl).alloc (.cells #[.slice x0A x0l.length x0c,.slice x1A x1l.length x1c] 27)).alloc (.cells #[.slice y0A y0l.length y0c,.slice y1A y1l.length y1c] 27)
 have t0:(E.lst 6 87 x0A x0c x0l).Ty prog 24:=E.Ty.mk_lst underlying24 (by kernel_rfl) gx0.1 gx0.2
 have u0:(E.lst 6 87 y0A y0c y0l).Ty prog 24:=E.Ty.mk_lst underlying24 (by kernel_rfl) gy0.1 gy0.2
 have HC0:=Lib.hid (pS t0 u0 (by simp only [E.d,E.dL,E.agg.injEq,List.cons.injEq,E.int.injEq,E.str.injEq,E.bool.injEq,E.lst.injEq,true_and,and_true];exact hd0))
 clear t0 u0
 have hr1:=((hr.fld (i:=1) rfl).alloc (.cells #[.slice x0A x0l.length x0c,.slice x1A x1l.length x1c] 27)).alloc (.cells #[.slice y0A y0l.length y0c,.slice y1A y1l.length y1c] 27)
 have hs1:=((hr'.fld (i:=1) rfl).alloc (.cells #[.slice x0A x0l.length x0c,.slice x1A x1l.length x1c] 27)).alloc (.cells #[.slice y0A y0l.length y0c,.slice y1A y1l.length y1c] 27)
 have t1:(E.lst 3 89 x1A x1c x1l).Ty prog 25:=E.Ty.mk_lst underlying25 (by kernel_rfl) gx1.1 gx1.2
 have u1:(E.lst 3 89 y1A y1c y1l).Ty prog 25:=E.Ty.mk_lst underlying25 (by kernel_rfl) gy1.1 gy1.2
 have HC1:=Lib.hid (vt t1 u1 (by simp only [E.d,E.dL,E.agg.injEq,List.cons.injEq,E.int.injEq,E.str.injEq,E.bool.injEq,E.lst.injEq,true_and,and_true];exact hd1))
 clear t1 u1
 clear hd0 hd1
 change Calls _ _ #[.agg #[.slice x0A x0l.length x0c,.slice x1A x1l.length x1c],.agg #[.slice y0A y0l.length y0c,.slice y1A y1l.length y1c]] w _
 go_enter func25,Tryz.ntmps25
 go_wp2_with fail
 go_at_call 67
 refine (HC0.out _ hr0 hs0).mono ?_;rintro e w1 ⟨rfl,hb1⟩
 have hz1:=hb1.size;(try simp only [World.size_alloc] at hz1)
 have c1_1:w1.cell? ⟨w.heap.size,1,none⟩=some (.slice x1A x1l.length x1c):=aJ hb1 (cQ (dH rfl) (by simp)) (by simp;omega)
 have d1_1:w1.cell? ⟨w.heap.size+1,1,none⟩=some (.slice y1A y1l.length y1c):=aJ hb1 (cell_new' rfl (by simp)) (by simp)
 have hr1:=hr1.below hb1 (by first|exact Nat.le_refl _|simp)
 have hs1:=hs1.below hb1 (by first|exact Nat.le_refl _|simp)
 go_wp2_with fail
 go_at_call 68
 refine (HC1.out _ hr1 hs1).mono ?_;rintro e w2 ⟨rfl,hb2⟩
 have hz2:=hb2.size;(try simp only [World.size_alloc] at hz2)
 clear c1_1 d1_1
 go_wp2
 go_ret
 exact⟨rfl,by0⟩
theorem om {e:E}(ht:e.Ty prog 27):Mar 26 e:=by
 obtain⟨x0A,x0c,x0l,x1A,x1c,x1l,rfl,gx0,gx1,-⟩:=b8 ht
 have ty0:(E.lst 6 87 x0A x0c x0l).Ty prog 24:=E.Ty.mk_lst underlying24 (by kernel_rfl) gx0.1 gx0.2
 have HC0:=Lib.hid (mS ty0)
 clear ty0
 have ty1:(E.lst 3 89 x1A x1c x1l).Ty prog 25:=E.Ty.mk_lst underlying25 (by kernel_rfl) gx1.1 gx1.2
 have HC1:=Lib.hid (pT ty1)
 clear ty1
 intro lo hi k0 w ho hnd hhi h0 h1
 have HCN:Hid ((E.agg [.lst 6 87 x0A x0c x0l,.lst 3 89 x1A x1c x1l]).cnt=((E.lst 6 87 x0A x0c x0l).cnt+((E.lst 3 89 x1A x1c x1l).cnt+0))):=rfl
 have h1':=h1
 rw [HCN.out] at h1'
 clear h1
 change (E.fpL [(E.lst 6 87 x0A x0c x0l),(E.lst 3 89 x1A x1c x1l)]).Nodup at hnd
 have ho0:=(ho.fld (i:=0) rfl).alloc hhi (.cells #[.slice x0A x0l.length x0c,.slice x1A x1l.length x1c] 27)
 have HN0:=Lib.hid (bk hnd (show (E.lst 6 87 x0A x0c x0l)∈[(E.lst 6 87 x0A x0c x0l),(E.lst 3 89 x1A x1c x1l)] by simp))
 have HS0:=Lib.hid (fun b (hb:b∈(E.lst 6 87 x0A x0c x0l).fp)=>(E.mem_fpL.2 ⟨_,(show (E.lst 6 87 x0A x0c x0l)∈[(E.lst 6 87 x0A x0c x0l),(E.lst 3 89 x1A x1c x1l)] by simp),hb⟩:b∈E.fpL [(E.lst 6 87 x0A x0c x0l),(E.lst 3 89 x1A x1c x1l)]))
 have DJ0_1:=Lib.hid (fun b (hb:b∈(E.lst 6 87 x0A x0c x0l).fp)=>(E.fpL_apart hnd 0 1 (by simp) (by simp) omq b hb:b∉(E.lst 3 89 x1A x1c x1l).fp))
 have ho1:=(ho.fld (i:=1) rfl).alloc hhi (.cells #[.slice x0A x0l.length x0c,.slice x1A x1l.length x1c] 27)
 have HN1:=Lib.hid (bk hnd (show (E.lst 3 89 x1A x1c x1l)∈[(E.lst 6 87 x0A x0c x0l),(E.lst 3 89 x1A x1c x1l)] by simp))
 have HS1:=Lib.hid (fun b (hb:b∈(E.lst 3 89 x1A x1c x1l).fp)=>(E.mem_fpL.2 ⟨_,(show (E.lst 3 89 x1A x1c x1l)∈[(E.lst 6 87 x0A x0c x0l),(E.lst 3 89 x1A x1c x1l)] by simp),hb⟩:b∈E.fpL [(E.lst 6 87 x0A x0c x0l),(E.lst 3 89 x1A x1c x1l)]))
 have DJ1_0:=Lib.hid (fun b (hb:b∈(E.lst 3 89 x1A x1c x1l).fp)=>(E.fpL_apart hnd 1 0 (by simp) (by simp) omq b hb:b∉(E.lst 6 87 x0A x0c x0l).fp))
 clear hnd ho
 change Calls _ _ #[.agg #[.slice x0A x0l.length x0c,.slice x1A x1l.length x1c],.int .i64 k0] w _
 go_enter func26,Tryz.ntmps26
 go_wp2_with fail
 go_at_call 69
 refine (HC0.out lo hi _ _ ho0 HN0.out (by first|omega|(simp;omega)) omq omq).mono ?_;rintro e w1 ⟨rfl,hm0,hf1⟩
 have hz1:=hf1.size;(try simp only [World.size_alloc] at hz1)
 have B1:w1.heap[w.heap.size]? = some (.cells #[.slice x0A x0l.length x0c,.slice x1A x1l.length x1c] 27 (0,0)):=(hf1.block w.heap.size (by first|omega|simp) (fun hm=>by have:=ho0.lt _ hm;omega)).trans (heap_alloc_new w _)
 have c1_1:w1.cell? ⟨w.heap.size,1,none⟩=some (.slice x1A x1l.length x1c):=aw B1 rfl
 have ho1:=ho1.fr hf1 DJ1_0.out
 go_wp2_with fail
 go_at_call 70
 refine (HC1.out lo hi _ _ ho1 HN1.out (by first|omega|(simp;omega)) omq omq).mono ?_;rintro e w2 ⟨rfl,hm1,hf2⟩
 have hz2:=hf2.size;(try simp only [World.size_alloc] at hz2)
 have B2:w2.heap[w.heap.size]? = some (.cells #[.slice x0A x0l.length x0c,.slice x1A x1l.length x1c] 27 (0,0)):=(hf2.block w.heap.size (by first|omega|simp) (fun hm=>by have:=ho1.lt _ hm;omega)).trans B1
 clear B1 c1_1
 have hm0:=hm0.fr hf2 (fun b hb=>DJ0_1.out b (by rw [E.mk0_fp] at hb;exact hb))
 go_wp2
 go_ret
 exact⟨ri (by have:=HCN.out;omega),E.Ho.mk_agg (E.HoL.mk_cons (sZ hm0 (by first|rfl|omega|(show _=_;simp only [E.cnt,E.cntL,E.cntc,E.cntcL,reduceCtorEq,if_false,if_true,ite_false];omega))) (E.HoL.mk_cons (sZ hm1 (by first|rfl|omega|(show _=_;simp only [E.cnt,E.cntL,E.cntc,E.cntcL,reduceCtorEq,if_false,if_true,ite_false];omega))) (show E.HoL _ _ _ [] by simp only [E.HoL]))),(((Fr.of_below ((Below.refl _ _).alloc (Nat.le_refl _) _)).trans (hf1.sub HS0.out)).trans (hf2.sub HS1.out))⟩
def xX (ns:List ByteArray):List E:=ns.map fun n=>.str n
def kwL:List E:=xX [⟨#[98,101,103,105,110]⟩,⟨#[101,110,100]⟩,⟨#[102,117,110,99]⟩,⟨#[112,114,105,110,116]⟩,⟨#[105,102]⟩,⟨#[101,108,115,101]⟩,⟨#[119,104,105,108,101]⟩,⟨#[102,111,114]⟩,⟨#[105,110]⟩,⟨#[110,101,120,116]⟩,⟨#[101,120,105,116]⟩,⟨#[114,101,116,117,114,110]⟩,⟨#[100,101,108,101,116,101]⟩,⟨#[108,101,110,103,116,104]⟩,⟨#[115,117,98,115,116,114]⟩,⟨#[105,110,100,101,120]⟩,⟨#[117,112,112,101,114]⟩,⟨#[103,115,117,98]⟩,⟨#[110,114]⟩,⟨#[110,102]⟩]
def sh:List E:=xX [⟨#[43]⟩,⟨#[45]⟩,⟨#[42]⟩,⟨#[47]⟩,⟨#[37]⟩,⟨#[46]⟩,⟨#[60]⟩,⟨#[60,61]⟩,⟨#[61,61]⟩,⟨#[33,61]⟩,⟨#[62]⟩,⟨#[62,61]⟩,⟨#[38,38]⟩,⟨#[124,124]⟩]
def jE (l:List E)(s:ByteArray):Bool:=l.any fun e=>s.toList==(jt e).toList
def bW (s:ByteArray):Bool:=fR s&&!jE kwL s
def emB (s:ByteArray):Bool:=s.toList==(ByteArray.mk #[]).toList
def fY (k n:Int)(s:ByteArray)(m:Int):Bool :=
 if k=1 then inR n 0 2147483647&&(emB s&&(m==0))
 else decide (n=0)&&(
  if k=2 then gY 39 s&&(m==0)
  else if k=3 then bW s&&(m==0)
  else if k=4∨k=9 then bW s&&(m==1)
  else if k=5∨k=7∨k=8∨k=12∨k=17 then emB s&&(m==1)
  else if k=6 then jE sh s&&(m==2)
  else if k=10 then (m==1)&&oS s
  else if k=18 then (m==2)&&oS s
  else if k=11 then bW s&&decide (m≤4)
  else if k=13 then emB s&&(m==3)
  else if k=14∨k=15 then emB s&&(m==0)
  else if k=16 then emB s&&(m==2)
  else false)
def jF (e:E):Bool:=match e with | .agg [.int _ k,.int _ n,.str s,.lst _ _ _ _ l]=>fY k n s l.length|_=>false
def iI (e:E):List E:=match e with | .agg [_,_,_,.lst _ _ _ _ l]=>l|_=>[]
theorem fU (e x:E)(h:x∈iI e):x.sz<e.sz:=by
 unfold iI at h
 split at h
 ·have:=E.szL_mem h
  simp only [E.sz,E.szL]
  have h2:0<List.length _:=List.length_pos_of_mem h
  omega
 ·cases h
def gx (f:Nat)(e:E):Nat:=ni 100 jF iI f e
def iJ (f:Nat)(e:E):Nat:=zgQ 100 iI f e
def okX (e:E):Bool:=okE jF iI e
def fZ (e:E):Bool:=decide (iJ 10 e≤100)&&okX e
theorem zc1 (e:E):fZ e=decide (gx 10 e≤100):=(zhQ omq fU 10 e).symm
def eQ (e:E):Int:=match e with | .agg (.int _ k :: _)=>k|_=>0
def shp (n na nb j:Int)(a b:Bool):Bool:=(n==j)&&((a||(na==0))&&(b||(nb==0)))
def dF (k:Int)(s t:ByteArray)(n na nb:Int)(c:Bool):Bool :=
 (decide (k=7)||emB t)&&(
   if k=1 then inR n 1 5&&(emB s&&((na==0)&&(nb==0)))
   else if k=2∨k=11 then bW s&&shp n na nb 1 false false
   else if k=3 then bW s&&shp n na nb 2 false false
   else if k=4 then emB s&&shp n na nb 2 false false
   else if k=5 then emB s&&shp n na nb 1 true true
   else if k=6 then emB s&&shp n na nb 1 true false
   else if k=7 then bW s&&(bW t&&shp n na nb 0 true false)
   else if k=8 then emB s&&shp n na nb 0 false false
   else if k=9∨k=10 then emB s&&shp n na nb 1 false false
   else if k=12 then emB s&&(shp n na nb 1 false false&&c)
   else false)
def eW (xs:List E):Bool:=eQ (xs.headD (.int .i64 0))==11
def fd (k:Int)(s t:ByteArray)(xs:List E)(na nb:Nat):Bool:=xs.all fZ&&dF k s t xs.length na nb (eW xs)
def lZ (e:E):Bool:=match e with | .agg [.int _ k,.str s,.str t,.lst _ _ _ _ xs,.lst _ _ _ _ la,.lst _ _ _ _ lb]=>fd k s t xs la.length lb.length|_=>false
def nj (e:E):List E:=match e with | .agg [_,_,_,_,.lst _ _ _ _ la,.lst _ _ _ _ lb]=>la++lb|_=>[]
theorem hO (e x:E)(h:x∈nj e):x.sz<e.sz:=by
 unfold nj at h
 split at h
 ·simp only [E.sz,E.szL]
  rcases List.mem_append.1 h with h|h
  ·have:=E.szL_mem h
   have h2:0<List.length _:=List.length_pos_of_mem h
   omega
  ·have:=E.szL_mem h
   have h2:0<List.length _:=List.length_pos_of_mem h
   omega
 ·cases h
def dO (f:Nat)(e:E):Nat:=ni 60 lZ nj f e
def ez (f:Nat)(e:E):Nat:=zgQ 60 nj f e
def okY (e:E):Bool:=okE lZ nj e
def ja (e:E):Bool:=decide (ez 5 e≤60)&&okY e
theorem zd1 (e:E):ja e=decide (dO 5 e≤60):=(zhQ omq hO 5 e).symm
def fh (l:List E):Bool:=decide (l.length≤20)&&l.all ja
def pU (e:E):Bool:=match e with | .agg [.int _ k,.int _ n,.str s,.lst _ _ _ _ l]=>decide (k=0)&&(decide (n=0)&&(emB s&&decide (l.length=0)))|_=>false
theorem qW {ns:List ByteArray}(h:∀s∈ns,s.size≤9223372036854775807):∀e∈xX ns,e.Ty prog 9:=fun e he=>by
 obtain⟨s,hs,rfl⟩:=List.mem_map.1 he
 have:=h s hs
 simp only [E.Ty];exact⟨underlying9,by unfold maxLen;omega⟩
theorem oo {ns:List ByteArray}:∀e∈xX ns,e.enc.length=1:=fun e he=>by obtain⟨x,-,rfl⟩:=List.mem_map.1 he;rfl
theorem ztQ:∀e∈kwL,e.Ty prog 9:=qW (by decide)
theorem vu:∀e∈sh,e.Ty prog 9:=qW (by decide)
theorem pV {l:List E}(hl:∀e∈l,e.Ty prog 9)(hlen:l.length≤1048576)(s:ByteArray):Ctr prog 117 [.c (.ro l.length 1 (acL l)),.c (.v (.string s))] [] (.c (.v (.bool (jE l s)))) []:=by
 have hk:∀e∈l,e.enc.length=1:=fun e he=>by obtain⟨x,rfl,-⟩:=(hl e he).str_ underlying9;rfl
 refine av func117 rfl rfl ?_
 repeat' (first|(apply ay;refine ak ?_)|refine al ?_|refine ab ?_|refine aa fun C=>?_|refine ae ?_|refine ah ?_)
 refine aP (fun k:Nat=>⟨dA [(0,.c (.ro l.length 1 (acL l))),(1,.c (.v (.string s))),(5,.c (.v (.int .i64 (k:Int))))],dq [],0,[],18⟩)
  (fun N k=>k+N=l.length∧∀j y,j<k→l[j]? = some y→(s.toList==(jt y).toList)=false) l.length 0 ⟨omq,fun j y hj=>absurd hj (Nat.not_lt_zero j)⟩ ?_ ?_
 ·(refine aC _ _ rfl rfl ?_ ?_<;>exact tdy0)
 rintro N k ⟨hN,hr⟩
 try dsimp only
 repeat' (first|(apply ay;first|refine ao ?_|refine aY ?_|refine aO ?_)|refine al ?_|refine ab ?_|refine aa fun C=>?_|refine ae ?_)
 refine aj (by rfl) (fun h1=>?_) fun h1=>?_
 ·have hk':k<l.length:=by simpa using h1
  obtain⟨x,hx⟩:∃x,l[k]? = some x:=⟨_,List.getElem?_eq_getElem hk'⟩
  obtain⟨z,rfl,-⟩:=(hl x (List.mem_of_getElem? hx)).str_ underlying9
  repeat' (first|(apply ay;first|refine ao ?_|refine dC ?_|refine dE ?_|refine bG ?_)|refine al ?_|refine ab ?_|refine aa fun C=>?_|refine ae ?_|refine ah ?_|refine ai ?_)
  refine aj (by rfl) (fun hC=>?_) fun hC=>?_
  ·have e:jE l s=true:=List.any_eq_true.2 ⟨_,List.mem_of_getElem? hx,by rw [beq_iff_eq] at hC ⊢;exact hC.symm⟩
   rw [e]
   repeat' (first|(apply ay;refine ak ?_)|refine al ?_|refine ab ?_|refine aa fun C=>?_|refine ae ?_)
   exact d9
  ·repeat' (first|(apply ay;first|refine ao ?_|refine ak ?_|refine aD ?_)|refine al ?_|refine ab ?_|refine aa fun C=>?_|refine ai ?_)
   refine⟨N-1,k+1,omq,⟨omq,fun j y hj hy=>?_⟩,?_⟩
   ·by_cases e:j=k
    ·rw [e,hx] at hy;injection hy with hy;subst hy
     cases hb:(s.toList==(jt (E.str z)).toList) with
     | false=>rfl
     | true=>rw [beq_iff_eq] at hb;rw [←hC];exact (beq_iff_eq.2 hb.symm).symm
    ·exact hr j y omq hy
   ·(refine aC _ _ rfl rfl ?_ ?_<;>exact tdy0)
 ·have hk':¬k<l.length:=by simpa using h1
  have e:jE l s=false:=by
   cases hb:jE l s with
   | false=>rfl
   | true =>
    obtain⟨x,hx,hp⟩:=List.any_eq_true.1 hb
    obtain⟨j,hj⟩:=List.getElem?_of_mem hx
    have:=(List.getElem?_eq_some_iff.1 hj).1
    rw [hr j x omq hj] at hp;cases hp
  rw [e]
  repeat' (first|(apply ay;refine ak ?_)|refine al ?_|refine ab ?_|refine aa fun C=>?_|refine ae ?_|refine au ?_)
  exact d9
theorem vv:Ctr prog 118 [] [] (.c (.ow 9 kwL.length 1 (acL kwL))) []:=by
 refine av func118 rfl rfl ?_
 repeat' (first|(apply ay;first|refine ak ?_|refine gh ?_)|refine al ?_|refine ab ?_|refine aa fun C=>?_|refine ae ?_)
 refine am ?_
 refine bi rfl (nK (bZ rfl rfl rfl (by rfl) bj)) ⟨?_,rfl⟩
 rfl
theorem ze1:Ctr prog 197 [] [] (.c (.ow 9 sh.length 1 (acL sh))) []:=by
 refine av func197 rfl rfl ?_
 repeat' (first|(apply ay;first|refine ak ?_|refine gh ?_)|refine al ?_|refine ab ?_|refine aa fun C=>?_|refine ae ?_)
 refine am ?_
 refine bi rfl (nK (bZ rfl rfl rfl (by rfl) bj)) ⟨?_,rfl⟩
 rfl
theorem xY:Ctr prog 250 [] [] (.c (.ow 9 sh.length 1 (acL sh))) []:=by
 refine av func250 rfl rfl ?_
 repeat' (first|(apply ay;first|refine ak ?_|refine gh ?_)|refine al ?_|refine ab ?_|refine aa fun C=>?_|refine ae ?_)
 refine am ?_
 refine bi rfl (nK (bZ rfl rfl rfl (by rfl) bj)) ⟨?_,rfl⟩
 rfl
theorem dc {s:ByteArray}(hs:s.size≤1048576):Ctr prog 142 [.c (.v (.string s))] [] (.c (.v (.bool (bW s)))) []:=by
 have c1:=xq hs
 have c2:Ctr prog 53 [.c (.ro kwL.length 1 (acL kwL)),.c (.v (.string s))] [] (.c (.v (.bool (jE kwL s)))) []:=hH ztQ oo (by decide) s
 unfold bW
 generalize fR s=b1 at c1 ⊢
 generalize jE kwL s=b2 at c2 ⊢
 cases b1
 all_goals
  refine av func142 rfl rfl ?_
  repeat' (first|(apply ay;first|refine bO ?_|(refine aU ?_ ?_<;>intro hG<;>(try cases hG))|refine ao ?_|refine ak ?_|refine aI c1 ?_|refine aI c2 ?_|refine bF ?_|refine aF ?_|refine gh ?_)|refine al ?_|refine ab ?_|refine aa fun C=>?_|refine ae ?_)
  exact d9
theorem cF {s:ByteArray}(hs:s.size≤1048576):Ctr prog 59 [.c (.v (.string s))] [] (.c (.v (.bool (bW s)))) []:=by
 have c1:=xr hs
 have c2:=pV ztQ (by decide) s
 have c3:=vv
 unfold bW
 generalize fR s=b1 at c1 ⊢
 generalize jE kwL s=b2 at c2 ⊢
 cases b1
 all_goals
  refine av func59 rfl rfl ?_
  repeat' (first|(apply ay;first|refine bO ?_|(refine aU ?_ ?_<;>intro hG<;>(try cases hG))|refine ao ?_|refine ak ?_|refine aI c1 ?_|refine aI c2 ?_|refine gm c3 ?_|refine bF ?_|refine aF ?_)|refine al ?_|refine ab ?_|refine aa fun C=>?_|refine ae ?_)
  exact d9
end Go.Proofs.YtmnneflenebgmaaGreat
