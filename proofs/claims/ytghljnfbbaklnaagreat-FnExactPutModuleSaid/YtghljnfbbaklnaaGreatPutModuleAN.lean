/- The type Module, and slices of it: shape; the laws' own functions. -/
import Derived.Test.YtghljnfbbaklnaaGreatPutModuleAM
namespace Go.Proofs.YtghljnfbbaklnaaGreat
open Go.RowKit
theorem zf6 {e:E}(h:e.Ty Tryz.prog 26):∃(x0A:Option Addr) (x0c:Nat) (x0l:List E) (x1A:Option Addr) (x1c:Nat) (x1l:List E) (x2:Int) (x3:Int) (x4A:Option Addr) (x4c:Nat) (x4l:List E),e=(E.agg [.lst 3 143 x0A x0c x0l,.lst 1 9 x1A x1c x1l,.int .i64 x2,.int .i64 x3,.lst 2 147 x4A x4c x4l])∧((∀y∈x0l,y.Ty Tryz.prog 143)∧(∀y∈x0l,y.enc.length=3))∧((∀y∈x1l,y.Ty Tryz.prog 9)∧(∀y∈x1l,y.enc.length=1))∧((Lit.int .i64 x2).wf=true)∧((Lit.int .i64 x3).wf=true)∧((∀y∈x4l,y.Ty Tryz.prog 147)∧(∀y∈x4l,y.enc.length=2))∧True:=by
 obtain⟨fs,rfl,q0⟩:=h.agg_ Tryz.underlying26
 change E.TyF _ _ [22,23,3,3,24] at q0
 obtain⟨e0,r0,rfl,h0,q1⟩:=q0.cons_
 obtain⟨e1,r1,rfl,h1,q2⟩:=q1.cons_
 obtain⟨e2,r2,rfl,h2,q3⟩:=q2.cons_
 obtain⟨e3,r3,rfl,h3,q4⟩:=q3.cons_
 obtain⟨e4,r4,rfl,h4,q5⟩:=q4.cons_
 obtain rfl:=q5.nil_
 obtain⟨x0A,x0c,x0l,rfl,gx0,gx0'⟩:=h0.lst_ Tryz.underlying22 (k:=3) (by kernel_rfl)
 obtain⟨x1A,x1c,x1l,rfl,gx1,gx1'⟩:=h1.lst_ Tryz.underlying23 (k:=1) (by kernel_rfl)
 obtain⟨x2,rfl,gx2⟩:=h2.int_ Tryz.underlying3
 obtain⟨x3,rfl,gx3⟩:=h3.int_ Tryz.underlying3
 obtain⟨x4A,x4c,x4l,rfl,gx4,gx4'⟩:=h4.lst_ Tryz.underlying24 (k:=2) (by kernel_rfl)
 exact⟨x0A,x0c,x0l,x1A,x1c,x1l,x2,x3,x4A,x4c,x4l,rfl,⟨gx0,gx0'⟩,⟨gx1,gx1'⟩,gx2,gx3,⟨gx4,gx4'⟩,trivial⟩
theorem zg3 {e:E}(h:e.Ty Tryz.prog 33):∃(x0A:Option Addr) (x0c:Nat) (x0l:List E) (x1A:Option Addr) (x1c:Nat) (x1l:List E) (x2:Int) (x3:Int) (x4A:Option Addr) (x4c:Nat) (x4l:List E),e=(E.agg [.lst 3 75 x0A x0c x0l,.lst 1 9 x1A x1c x1l,.int .i64 x2,.int .i64 x3,.lst 2 79 x4A x4c x4l])∧((∀y∈x0l,y.Ty Tryz.prog 75)∧(∀y∈x0l,y.enc.length=3))∧((∀y∈x1l,y.Ty Tryz.prog 9)∧(∀y∈x1l,y.enc.length=1))∧((Lit.int .i64 x2).wf=true)∧((Lit.int .i64 x3).wf=true)∧((∀y∈x4l,y.Ty Tryz.prog 79)∧(∀y∈x4l,y.enc.length=2))∧True:=by
 obtain⟨fs,rfl,q0⟩:=h.agg_ Tryz.underlying33
 change E.TyF _ _ [30,23,3,3,31] at q0
 obtain⟨e0,r0,rfl,h0,q1⟩:=q0.cons_
 obtain⟨e1,r1,rfl,h1,q2⟩:=q1.cons_
 obtain⟨e2,r2,rfl,h2,q3⟩:=q2.cons_
 obtain⟨e3,r3,rfl,h3,q4⟩:=q3.cons_
 obtain⟨e4,r4,rfl,h4,q5⟩:=q4.cons_
 obtain rfl:=q5.nil_
 obtain⟨x0A,x0c,x0l,rfl,gx0,gx0'⟩:=h0.lst_ Tryz.underlying30 (k:=3) (by kernel_rfl)
 obtain⟨x1A,x1c,x1l,rfl,gx1,gx1'⟩:=h1.lst_ Tryz.underlying23 (k:=1) (by kernel_rfl)
 obtain⟨x2,rfl,gx2⟩:=h2.int_ Tryz.underlying3
 obtain⟨x3,rfl,gx3⟩:=h3.int_ Tryz.underlying3
 obtain⟨x4A,x4c,x4l,rfl,gx4,gx4'⟩:=h4.lst_ Tryz.underlying31 (k:=2) (by kernel_rfl)
 exact⟨x0A,x0c,x0l,x1A,x1c,x1l,x2,x3,x4A,x4c,x4l,rfl,⟨gx0,gx0'⟩,⟨gx1,gx1'⟩,gx2,gx3,⟨gx4,gx4'⟩,trivial⟩
set_option maxRecDepth 100000 in
set_option maxHeartbeats 1000000 in
theorem ze17 {e:E}(ht:e.Ty Tryz.prog 26):Sz 6 e:=by
 obtain⟨x0A,x0c,x0l,x1A,x1c,x1l,x2,x3,x4A,x4c,x4l,rfl,gx0,gx1,gx2,gx3,gx4,-⟩:=zf6 ht
 intro left w hr h0 h1
 have HSZ:Hid ((E.agg [.lst 3 143 x0A x0c x0l,.lst 1 9 x1A x1c x1l,.int .i64 x2,.int .i64 x3,.lst 2 147 x4A x4c x4l]).sz=((E.lst 3 143 x0A x0c x0l).sz+((E.lst 1 9 x1A x1c x1l).sz+(0+(0+((E.lst 2 147 x4A x4c x4l).sz+0)))))):=rfl
 change Calls _ _ #[.agg #[.slice x0A x0l.length x0c,.slice x1A x1l.length x1c,.int .i64 x2,.int .i64 x3,.slice x4A x4l.length x4c],.int .i64 left] w _
 have hr0:=(hr.fld (i:=0) rfl).alloc (.cells #[.slice x0A x0l.length x0c,.slice x1A x1l.length x1c,.int .i64 x2,.int .i64 x3,.slice x4A x4l.length x4c] 26)
 have hr1:=(hr.fld (i:=1) rfl).alloc (.cells #[.slice x0A x0l.length x0c,.slice x1A x1l.length x1c,.int .i64 x2,.int .i64 x3,.slice x4A x4l.length x4c] 26)
 have hr4:=(hr.fld (i:=4) rfl).alloc (.cells #[.slice x0A x0l.length x0c,.slice x1A x1l.length x1c,.int .i64 x2,.int .i64 x3,.slice x4A x4l.length x4c] 26)
 go_enter Tryz.func6,Tryz.ntmps6
 go_wp2_with fail
 go_at_call 26
 refine ((zy20 (E.Ty.mk_lst Tryz.underlying22 (by kernel_rfl) gx0.1 gx0.2)) _ _ hr0 (by omega) (by omega)).mono ?_;rintro e w1 ⟨r1,rfl,hr1s,hl1,hb1⟩
 have hz1:=hb1.size;(try simp only [World.size_alloc] at hz1)
 have c1_1:w1.cell? ⟨w.heap.size,1,none⟩=some (.slice x1A x1l.length x1c):=(by repeat (first|(with_reducible assumption)|(with_reducible refine zk6 ?_)|(with_reducible refine zy5 ?_)|(with_reducible exact zv5 rfl)|(exact cell_new' rfl (by first|rfl|(simp;done)))|(with_reducible refine zy4 ?_ ?_)|(refine zp2 (by with_reducible assumption) ?_ ?_)|(refine zl8 (by with_reducible assumption) ?_ ?_)|omega|(·simp)|(·(simp;omega))))
 have c1_2:w1.cell? ⟨w.heap.size,2,none⟩=some (.int .i64 x2):=(by repeat (first|(with_reducible assumption)|(with_reducible refine zk6 ?_)|(with_reducible refine zy5 ?_)|(with_reducible exact zv5 rfl)|(exact cell_new' rfl (by first|rfl|(simp;done)))|(with_reducible refine zy4 ?_ ?_)|(refine zp2 (by with_reducible assumption) ?_ ?_)|(refine zl8 (by with_reducible assumption) ?_ ?_)|omega|(·simp)|(·(simp;omega))))
 have c1_3:w1.cell? ⟨w.heap.size,3,none⟩=some (.int .i64 x3):=(by repeat (first|(with_reducible assumption)|(with_reducible refine zk6 ?_)|(with_reducible refine zy5 ?_)|(with_reducible exact zv5 rfl)|(exact cell_new' rfl (by first|rfl|(simp;done)))|(with_reducible refine zy4 ?_ ?_)|(refine zp2 (by with_reducible assumption) ?_ ?_)|(refine zl8 (by with_reducible assumption) ?_ ?_)|omega|(·simp)|(·(simp;omega))))
 have c1_4:w1.cell? ⟨w.heap.size,4,none⟩=some (.slice x4A x4l.length x4c):=(by repeat (first|(with_reducible assumption)|(with_reducible refine zk6 ?_)|(with_reducible refine zy5 ?_)|(with_reducible exact zv5 rfl)|(exact cell_new' rfl (by first|rfl|(simp;done)))|(with_reducible refine zy4 ?_ ?_)|(refine zp2 (by with_reducible assumption) ?_ ?_)|(refine zl8 (by with_reducible assumption) ?_ ?_)|omega|(·simp)|(·(simp;omega))))
 have hr1:=hr1.below hb1 (by first|exact Nat.le_refl _|simp)
 have hr4:=hr4.below hb1 (by first|exact Nat.le_refl _|simp)
 by_cases hn1:r1<0
 ·go_wp2
  go_ret
  exact⟨-1,rfl,.inl (by omega),by omega,by exact by0⟩
 have hq1:=hr1s.resolve_left hn1
 go_wp2_with fail
 go_at_call 27
 refine ((zr14 (E.Ty.mk_lst Tryz.underlying23 (by kernel_rfl) gx1.1 gx1.2)) _ _ hr1 (by omega) (by omega)).mono ?_;rintro e w2 ⟨r2,rfl,hr2s,hl2,hb2⟩
 have hz2:=hb2.size;(try simp only [World.size_alloc] at hz2)
 have c2_2:w2.cell? ⟨w.heap.size,2,none⟩=some (.int .i64 x2):=(by repeat (first|(with_reducible assumption)|(with_reducible refine zk6 ?_)|(with_reducible refine zy5 ?_)|(with_reducible exact zv5 rfl)|(exact cell_new' rfl (by first|rfl|(simp;done)))|(with_reducible refine zy4 ?_ ?_)|(refine zp2 (by with_reducible assumption) ?_ ?_)|(refine zl8 (by with_reducible assumption) ?_ ?_)|omega|(·simp)|(·(simp;omega))))
 have c2_3:w2.cell? ⟨w.heap.size,3,none⟩=some (.int .i64 x3):=(by repeat (first|(with_reducible assumption)|(with_reducible refine zk6 ?_)|(with_reducible refine zy5 ?_)|(with_reducible exact zv5 rfl)|(exact cell_new' rfl (by first|rfl|(simp;done)))|(with_reducible refine zy4 ?_ ?_)|(refine zp2 (by with_reducible assumption) ?_ ?_)|(refine zl8 (by with_reducible assumption) ?_ ?_)|omega|(·simp)|(·(simp;omega))))
 have c2_4:w2.cell? ⟨w.heap.size,4,none⟩=some (.slice x4A x4l.length x4c):=(by repeat (first|(with_reducible assumption)|(with_reducible refine zk6 ?_)|(with_reducible refine zy5 ?_)|(with_reducible exact zv5 rfl)|(exact cell_new' rfl (by first|rfl|(simp;done)))|(with_reducible refine zy4 ?_ ?_)|(refine zp2 (by with_reducible assumption) ?_ ?_)|(refine zl8 (by with_reducible assumption) ?_ ?_)|omega|(·simp)|(·(simp;omega))))
 have hr4:=hr4.below hb2 (by first|exact Nat.le_refl _|simp)
 by_cases hn2:r2<0
 ·go_wp2
  go_ret
  exact⟨-1,rfl,.inl (by omega),by omega,by exact by0⟩
 have hq2:=hr2s.resolve_left hn2
 go_wp2_with fail
 go_at_call 28
 refine ((zq21 (E.Ty.mk_lst Tryz.underlying24 (by kernel_rfl) gx4.1 gx4.2)) _ _ hr4 (by omega) (by omega)).mono ?_;rintro e w3 ⟨r3,rfl,hr3s,hl3,hb3⟩
 have hz3:=hb3.size;(try simp only [World.size_alloc] at hz3)
 by_cases hn3:r3<0
 ·go_wp2
  go_ret
  exact⟨-1,rfl,.inl (by omega),by omega,by exact by0⟩
 have hq3:=hr3s.resolve_left hn3
 go_wp2
 go_ret
 refine⟨_,rfl,.inr ?_,by omega,by exact by0⟩
 show _=_
 rw [HSZ.out]
 have e1:=hq1.out
 have e2:=hq2.out
 have e3:=hq3.out
 push_cast
 omega
set_option maxRecDepth 100000 in
set_option maxHeartbeats 1000000 in
theorem zb7 {e:E}(ht:e.Ty Tryz.prog 26):To 8 33 e:=by
 have HT0:=Lib.hid ht
 obtain⟨x0A,x0c,x0l,x1A,x1c,x1l,x2,x3,x4A,x4c,x4l,rfl,gx0,gx1,gx2,gx3,gx4,-⟩:=zf6 ht
 intro w hr hsz
 have hsz':((E.lst 3 143 x0A x0c x0l).sz+((E.lst 1 9 x1A x1c x1l).sz+(0+(0+((E.lst 2 147 x4A x4c x4l).sz+0)))))≤1048576:=hsz
 have hs0:(E.lst 3 143 x0A x0c x0l).sz≤1048576:=by omega
 have hs1:(E.lst 1 9 x1A x1c x1l).sz≤1048576:=by omega
 have hs4:(E.lst 2 147 x4A x4c x4l).sz≤1048576:=by omega
 clear hsz hsz'
 have hr0:=hr.fld (i:=0) rfl
 have ty0:(E.lst 3 143 x0A x0c x0l).Ty Tryz.prog 22:=E.Ty.mk_lst Tryz.underlying22 (by kernel_rfl) gx0.1 gx0.2
 have HC0:=Lib.hid (zz20 ty0)
 clear ty0
 have hr1:=hr.fld (i:=1) rfl
 have ty1:(E.lst 1 9 x1A x1c x1l).Ty Tryz.prog 23:=E.Ty.mk_lst Tryz.underlying23 (by kernel_rfl) gx1.1 gx1.2
 have HC1:=Lib.hid (zs14 ty1)
 clear ty1
 have hr4:=hr.fld (i:=4) rfl
 have ty4:(E.lst 2 147 x4A x4c x4l).Ty Tryz.prog 24:=E.Ty.mk_lst Tryz.underlying24 (by kernel_rfl) gx4.1 gx4.2
 have HC4:=Lib.hid (zr21 ty4)
 clear ty4
 change Calls _ _ #[.agg #[.slice x0A x0l.length x0c,.slice x1A x1l.length x1c,.int .i64 x2,.int .i64 x3,.slice x4A x4l.length x4c]] w _
 go_enter Tryz.func8,Tryz.ntmps8
 go_wp2_with fail
 go_at_call 34
 refine (HC0.out _ (((hr0.alloc _).alloc _).alloc _) hs0).mono ?_;rintro e w1 ⟨v1,he,HD1,ht1,ho1,hn1,hb1⟩
 have HT1:=Lib.hid ht1
 have HN1:=Lib.hid hn1
 obtain⟨A1,q1,l1,rfl,-,-⟩:=ht1.lst_ Tryz.underlying30 (k:=3) (by kernel_rfl)
 obtain rfl:e=.returned (.slice A1 l1.length q1):=he
 clear hn1 ht1
 have B0_1:w1.heap[w.heap.size]? = some (.cells #[.slice x0A x0l.length x0c,.slice x1A x1l.length x1c,.int .i64 x2,.int .i64 x3,.slice x4A x4l.length x4c] 26 (0,0)):=(hb1.block (w.heap.size) (by simp;omega)).trans zi20.1
 have B1_1:w1.heap[w.heap.size+1]? = some (.cells #[.slice none 0 0,.slice none 0 0,.int .i64 0,.int .i64 0,.slice none 0 0] 33 (0,0)):=(hb1.block (w.heap.size+1) (by simp)).trans zi20.2.1
 have B2_1:w1.heap[w.heap.size+1+1]? = some (.cells #[.slice none 0 0,.slice none 0 0,.int .i64 0,.int .i64 0,.slice none 0 0] 33 (0,0)):=(hb1.block (w.heap.size+1+1) (by simp)).trans zi20.2.2
 have hz1:=hb1.size;simp only [World.size_alloc] at hz1
 have hB1:Below w.heap.size w w1:=(by exact by0:Below w.heap.size w _).trans (hb1.mono (by simp;omega))
 have ho1:=ho1.wider (lo':=w.heap.size+1+1+1) (by simp) (Nat.le_refl _)
 have c1_0:w1.cell? ⟨w.heap.size,0,none⟩=some (.slice x0A x0l.length x0c):=zk1 B0_1 rfl
 have c1_1:w1.cell? ⟨w.heap.size,1,none⟩=some (.slice x1A x1l.length x1c):=zk1 B0_1 rfl
 have c1_2:w1.cell? ⟨w.heap.size,2,none⟩=some (.int .i64 x2):=zk1 B0_1 rfl
 have c1_3:w1.cell? ⟨w.heap.size,3,none⟩=some (.int .i64 x3):=zk1 B0_1 rfl
 have c1_4:w1.cell? ⟨w.heap.size,4,none⟩=some (.slice x4A x4l.length x4c):=zk1 B0_1 rfl
 have d1_0:w1.cell? ⟨w.heap.size+1+1,0,none⟩=some (.slice none 0 0):=zk1 B2_1 rfl
 have d1_1:w1.cell? ⟨w.heap.size+1+1,1,none⟩=some (.slice none 0 0):=zk1 B2_1 rfl
 have d1_2:w1.cell? ⟨w.heap.size+1+1,2,none⟩=some (.int .i64 0):=zk1 B2_1 rfl
 have d1_3:w1.cell? ⟨w.heap.size+1+1,3,none⟩=some (.int .i64 0):=zk1 B2_1 rfl
 have d1_4:w1.cell? ⟨w.heap.size+1+1,4,none⟩=some (.slice none 0 0):=zk1 B2_1 rfl
 have f1:=zi13 B2_1
 go_wp2_with fail
 have hK1:Kp (w.heap.size+1+1) (w.heap.size+1+1+1) w1 (w1.setCell ⟨w.heap.size+1+1,0,none⟩ (.slice A1 l1.length q1)):=(by repeat (first|(with_reducible exact Kp.refl _ _ _)|(refine Kp.set ?_ (by first|omega|(dsimp only;omega)|(simp;omega)) (by first|omega|(dsimp only;omega)|(simp;omega)) _)))
 have A0_1:=(hK1.block (w.heap.size) (by omega) (.inl (by omega))).trans B0_1
 have A1_1:=(hK1.block (w.heap.size+1) (by omega) (.inl (by omega))).trans B1_1
 have A2_1:(w1.setCell ⟨w.heap.size+1+1,0,none⟩ (.slice A1 l1.length q1)).heap[w.heap.size+1+1]? = some (.cells #[.slice A1 l1.length q1,.slice none 0 0,.int .i64 0,.int .i64 0,.slice none 0 0] 33 (0,0)):=by simp only [za11,B2_1];simp [setAt]
 have hW1:(w1.setCell ⟨w.heap.size+1+1,0,none⟩ (.slice A1 l1.length q1)).heap.size=w1.heap.size:=by simp
 have hBW1:Below w.heap.size w (w1.setCell ⟨w.heap.size+1+1,0,none⟩ (.slice A1 l1.length q1)):=hB1.trans (hK1.below (by omega) (by omega))
 have ho1:=ho1.kp hK1 (.inr (by omega))
 clear c1_0 c1_1 c1_2 c1_3 c1_4 d1_0 d1_1 d1_2 d1_3 d1_4 f1 B0_1 B1_1 B2_1 hK1 hB1
 generalize (w1.setCell ⟨w.heap.size+1+1,0,none⟩ (.slice A1 l1.length q1))=W1 at *
 go_at_call 35
 refine (HC1.out _ (E.In.below hr1 hBW1 (Nat.le_refl _)) hs1).mono ?_;rintro e w2 ⟨v2,he,HD2,ht2,ho2,hn2,hb2⟩
 have HT2:=Lib.hid ht2
 have HN2:=Lib.hid hn2
 obtain⟨A2,q2,l2,rfl,-,-⟩:=ht2.lst_ Tryz.underlying23 (k:=1) (by kernel_rfl)
 obtain rfl:e=.returned (.slice A2 l2.length q2):=he
 clear hn2 ht2
 have B0_2:=(hb2.block (w.heap.size) (by omega)).trans A0_1
 have B1_2:=(hb2.block (w.heap.size+1) (by omega)).trans A1_1
 have B2_2:=(hb2.block (w.heap.size+1+1) (by omega)).trans A2_1
 have hz2:=hb2.size
 have hB2:Below w.heap.size w w2:=hBW1.trans (hb2.mono (by omega))
 have ho1:=ho1.below hb2 (by omega)
 have ho2:=ho2.wider (lo':=w1.heap.size) (by omega) (Nat.le_refl _)
 clear A0_1 A1_1 A2_1
 have c2_0:w2.cell? ⟨w.heap.size,0,none⟩=some (.slice x0A x0l.length x0c):=zk1 B0_2 rfl
 have c2_1:w2.cell? ⟨w.heap.size,1,none⟩=some (.slice x1A x1l.length x1c):=zk1 B0_2 rfl
 have c2_2:w2.cell? ⟨w.heap.size,2,none⟩=some (.int .i64 x2):=zk1 B0_2 rfl
 have c2_3:w2.cell? ⟨w.heap.size,3,none⟩=some (.int .i64 x3):=zk1 B0_2 rfl
 have c2_4:w2.cell? ⟨w.heap.size,4,none⟩=some (.slice x4A x4l.length x4c):=zk1 B0_2 rfl
 have d2_0:w2.cell? ⟨w.heap.size+1+1,0,none⟩=some (.slice A1 l1.length q1):=zk1 B2_2 rfl
 have d2_1:w2.cell? ⟨w.heap.size+1+1,1,none⟩=some (.slice none 0 0):=zk1 B2_2 rfl
 have d2_2:w2.cell? ⟨w.heap.size+1+1,2,none⟩=some (.int .i64 0):=zk1 B2_2 rfl
 have d2_3:w2.cell? ⟨w.heap.size+1+1,3,none⟩=some (.int .i64 0):=zk1 B2_2 rfl
 have d2_4:w2.cell? ⟨w.heap.size+1+1,4,none⟩=some (.slice none 0 0):=zk1 B2_2 rfl
 have f2:=zi13 B2_2
 go_wp2_with fail
 have hK2:Kp (w.heap.size+1+1) (w.heap.size+1+1+1) w2 (((w2.setCell ⟨w.heap.size+1+1,1,none⟩ (.slice A2 l2.length q2)).setCell ⟨w.heap.size+1+1,2,none⟩ (.int .i64 x2)).setCell ⟨w.heap.size+1+1,3,none⟩ (.int .i64 x3)):=(by repeat (first|(with_reducible exact Kp.refl _ _ _)|(refine Kp.set ?_ (by first|omega|(dsimp only;omega)|(simp;omega)) (by first|omega|(dsimp only;omega)|(simp;omega)) _)))
 have A0_2:=(hK2.block (w.heap.size) (by omega) (.inl (by omega))).trans B0_2
 have A1_2:=(hK2.block (w.heap.size+1) (by omega) (.inl (by omega))).trans B1_2
 have A2_2:(((w2.setCell ⟨w.heap.size+1+1,1,none⟩ (.slice A2 l2.length q2)).setCell ⟨w.heap.size+1+1,2,none⟩ (.int .i64 x2)).setCell ⟨w.heap.size+1+1,3,none⟩ (.int .i64 x3)).heap[w.heap.size+1+1]? = some (.cells #[.slice A1 l1.length q1,.slice A2 l2.length q2,.int .i64 x2,.int .i64 x3,.slice none 0 0] 33 (0,0)):=by simp only [za11,B2_2];simp [setAt]
 have hW2:(((w2.setCell ⟨w.heap.size+1+1,1,none⟩ (.slice A2 l2.length q2)).setCell ⟨w.heap.size+1+1,2,none⟩ (.int .i64 x2)).setCell ⟨w.heap.size+1+1,3,none⟩ (.int .i64 x3)).heap.size=w2.heap.size:=by simp
 have hBW2:Below w.heap.size w (((w2.setCell ⟨w.heap.size+1+1,1,none⟩ (.slice A2 l2.length q2)).setCell ⟨w.heap.size+1+1,2,none⟩ (.int .i64 x2)).setCell ⟨w.heap.size+1+1,3,none⟩ (.int .i64 x3)):=hB2.trans (hK2.below (by omega) (by omega))
 have ho1:=ho1.kp hK2 (.inr (by omega))
 have ho2:=ho2.kp hK2 (.inr (by omega))
 clear c2_0 c2_1 c2_2 c2_3 c2_4 d2_0 d2_1 d2_2 d2_3 d2_4 f2 B0_2 B1_2 B2_2 hK2 hB2
 generalize (((w2.setCell ⟨w.heap.size+1+1,1,none⟩ (.slice A2 l2.length q2)).setCell ⟨w.heap.size+1+1,2,none⟩ (.int .i64 x2)).setCell ⟨w.heap.size+1+1,3,none⟩ (.int .i64 x3))=W2 at *
 go_at_call 36
 refine (HC4.out _ (E.In.below hr4 hBW2 (Nat.le_refl _)) hs4).mono ?_;rintro e w3 ⟨v3,he,HD3,ht3,ho3,hn3,hb3⟩
 have HT3:=Lib.hid ht3
 have HN3:=Lib.hid hn3
 obtain⟨A3,q3,l3,rfl,-,-⟩:=ht3.lst_ Tryz.underlying31 (k:=2) (by kernel_rfl)
 obtain rfl:e=.returned (.slice A3 l3.length q3):=he
 clear hn3 ht3
 have B0_3:=(hb3.block (w.heap.size) (by omega)).trans A0_2
 have B1_3:=(hb3.block (w.heap.size+1) (by omega)).trans A1_2
 have B2_3:=(hb3.block (w.heap.size+1+1) (by omega)).trans A2_2
 have hz3:=hb3.size
 have hB3:Below w.heap.size w w3:=hBW2.trans (hb3.mono (by omega))
 have ho1:=ho1.below hb3 (by omega)
 have ho2:=ho2.below hb3 (by omega)
 have ho3:=ho3.wider (lo':=w2.heap.size) (by omega) (Nat.le_refl _)
 clear A0_2 A1_2 A2_2
 have c3_0:w3.cell? ⟨w.heap.size,0,none⟩=some (.slice x0A x0l.length x0c):=zk1 B0_3 rfl
 have c3_1:w3.cell? ⟨w.heap.size,1,none⟩=some (.slice x1A x1l.length x1c):=zk1 B0_3 rfl
 have c3_2:w3.cell? ⟨w.heap.size,2,none⟩=some (.int .i64 x2):=zk1 B0_3 rfl
 have c3_3:w3.cell? ⟨w.heap.size,3,none⟩=some (.int .i64 x3):=zk1 B0_3 rfl
 have c3_4:w3.cell? ⟨w.heap.size,4,none⟩=some (.slice x4A x4l.length x4c):=zk1 B0_3 rfl
 have d3_0:w3.cell? ⟨w.heap.size+1+1,0,none⟩=some (.slice A1 l1.length q1):=zk1 B2_3 rfl
 have d3_1:w3.cell? ⟨w.heap.size+1+1,1,none⟩=some (.slice A2 l2.length q2):=zk1 B2_3 rfl
 have d3_2:w3.cell? ⟨w.heap.size+1+1,2,none⟩=some (.int .i64 x2):=zk1 B2_3 rfl
 have d3_3:w3.cell? ⟨w.heap.size+1+1,3,none⟩=some (.int .i64 x3):=zk1 B2_3 rfl
 have d3_4:w3.cell? ⟨w.heap.size+1+1,4,none⟩=some (.slice none 0 0):=zk1 B2_3 rfl
 have f3:=zi13 B2_3
 have r0':=zk1 B1_3 (o:=0) rfl;have r1':=zk1 B1_3 (o:=1) rfl;have r2':=zk1 B1_3 (o:=2) rfl;have r3':=zk1 B1_3 (o:=3) rfl;have r4':=zk1 B1_3 (o:=4) rfl
 have fr':=zi13 B1_3
 go_wp2
 have OWN:Owns w3 (w.heap.size+1+1+1) w3.heap.size [(E.lst 3 75 A1 q1 l1),(E.lst 1 9 A2 q2 l2),(E.int .i64 x2),(E.int .i64 x3),(E.lst 2 79 A3 q3 l3)]:=(Owns.cons (mid:=w1.heap.size) ho1 HN1.out (Owns.cons (mid:=w2.heap.size) ho2 HN2.out (Owns.leaf rfl (by simp only [E.Ho]) (Owns.leaf rfl (by simp only [E.Ho]) (Owns.cons (mid:=w3.heap.size) ho3 HN3.out Owns.nil (by omega) (by omega)))) (by omega) (by omega)) (by omega) (by omega))
 refine bodyPost_ret (v:=.agg #[.slice A1 l1.length q1,.slice A2 l2.length q2,.int .i64 x2,.int .i64 x3,.slice A3 l3.length q3]) (zr18 (t:=33) (fr:=(0,0)) rfl rfl Tryz.underlying33 (by kernel_rfl) ?_) rfl ⟨(E.agg [(E.lst 3 75 A1 q1 l1),(E.lst 1 9 A2 q2 l2),(E.int .i64 x2),(E.int .i64 x3),(E.lst 2 79 A3 q3 l3)]),rfl,?_,E.Ty.mk_agg Tryz.underlying33 (E.TyF.mk_cons HT1.out (E.TyF.mk_cons HT2.out (E.TyF.mk_cons (show E.Ty _ _ _ from ⟨Tryz.underlying3,gx2⟩) (E.TyF.mk_cons (show E.Ty _ _ _ from ⟨Tryz.underlying3,gx3⟩) (E.TyF.mk_cons HT3.out (E.TyF.mk_nil)))))),?_,?_,?_⟩
 ·simp only [za11,B1_3,B2_3];simp [setAt]
 ·show E.d _=E.d _
  simp only [E.d,E.dL]
  have y1:=HD1.out;simp only [E.d,E.dL] at y1
  have y2:=HD2.out;simp only [E.d,E.dL] at y2
  have y3:=HD3.out;simp only [E.d,E.dL] at y3
  simp only [E.agg.injEq,List.cons.injEq,E.lst.injEq,E.int.injEq,E.str.injEq,E.bool.injEq,true_and,and_true] at *
  simp [*]
 ·exact ((E.Ho.mk_agg OWN.1).kp (lo':=w.heap.size+1) (hi':=w.heap.size+1+1+1) (by repeat (first|(with_reducible exact Kp.refl _ _ _)|(refine Kp.set ?_ (by first|omega|(dsimp only;omega)|(simp;omega)) (by first|omega|(dsimp only;omega)|(simp;omega)) _))) (.inr (by omega))).wider (by omega) (by simp)
 ·exact OWN.2
 ·exact hB3.trans (Kp.below (lo:=w.heap.size+1) (hi:=w.heap.size+1+1+1) (by repeat (first|(with_reducible exact Kp.refl _ _ _)|(refine Kp.set ?_ (by first|omega|(dsimp only;omega)|(simp;omega)) (by first|omega|(dsimp only;omega)|(simp;omega)) _))) (by omega) (by omega))
set_option maxRecDepth 100000 in
set_option maxHeartbeats 1000000 in
theorem zf17 {e e':E}(ht:e.Ty Tryz.prog 33)(ht':e'.Ty Tryz.prog 33):Eq 11 e e':=by
 obtain⟨x0A,x0c,x0l,x1A,x1c,x1l,x2,x3,x4A,x4c,x4l,rfl,gx0,gx1,gx2,gx3,gx4,-⟩:=zg3 ht
 obtain⟨y0A,y0c,y0l,y1A,y1c,y1l,y2,y3,y4A,y4c,y4l,rfl,gy0,gy1,gy2,gy3,gy4,-⟩:=zg3 ht'
 intro hd w hr hr'
 simp only [E.d,E.dL,E.agg.injEq,List.cons.injEq,E.int.injEq,E.str.injEq,E.bool.injEq,E.lst.injEq,true_and,and_true] at hd
 obtain⟨hd0,hd1,rfl,rfl,hd4⟩:=hd
 have hr0:=((hr.fld (i:=0) rfl).alloc (.cells #[.slice x0A x0l.length x0c,.slice x1A x1l.length x1c,.int .i64 x2,.int .i64 x3,.slice x4A x4l.length x4c] 33)).alloc (.cells #[.slice y0A y0l.length y0c,.slice y1A y1l.length y1c,.int .i64 x2,.int .i64 x3,.slice y4A y4l.length y4c] 33)
 have hs0:=((hr'.fld (i:=0) rfl).alloc (.cells #[.slice x0A x0l.length x0c,.slice x1A x1l.length x1c,.int .i64 x2,.int .i64 x3,.slice x4A x4l.length x4c] 33)).alloc (.cells #[.slice y0A y0l.length y0c,.slice y1A y1l.length y1c,.int .i64 x2,.int .i64 x3,.slice y4A y4l.length y4c] 33)
 have t0:(E.lst 3 75 x0A x0c x0l).Ty Tryz.prog 30:=E.Ty.mk_lst Tryz.underlying30 (by kernel_rfl) gx0.1 gx0.2
 have u0:(E.lst 3 75 y0A y0c y0l).Ty Tryz.prog 30:=E.Ty.mk_lst Tryz.underlying30 (by kernel_rfl) gy0.1 gy0.2
 have HC0:=Lib.hid (za21 t0 u0 (by simp only [E.d,E.dL,E.agg.injEq,List.cons.injEq,E.int.injEq,E.str.injEq,E.bool.injEq,E.lst.injEq,true_and,and_true];exact hd0))
 clear t0 u0
 have hr1:=((hr.fld (i:=1) rfl).alloc (.cells #[.slice x0A x0l.length x0c,.slice x1A x1l.length x1c,.int .i64 x2,.int .i64 x3,.slice x4A x4l.length x4c] 33)).alloc (.cells #[.slice y0A y0l.length y0c,.slice y1A y1l.length y1c,.int .i64 x2,.int .i64 x3,.slice y4A y4l.length y4c] 33)
 have hs1:=((hr'.fld (i:=1) rfl).alloc (.cells #[.slice x0A x0l.length x0c,.slice x1A x1l.length x1c,.int .i64 x2,.int .i64 x3,.slice x4A x4l.length x4c] 33)).alloc (.cells #[.slice y0A y0l.length y0c,.slice y1A y1l.length y1c,.int .i64 x2,.int .i64 x3,.slice y4A y4l.length y4c] 33)
 have t1:(E.lst 1 9 x1A x1c x1l).Ty Tryz.prog 23:=E.Ty.mk_lst Tryz.underlying23 (by kernel_rfl) gx1.1 gx1.2
 have u1:(E.lst 1 9 y1A y1c y1l).Ty Tryz.prog 23:=E.Ty.mk_lst Tryz.underlying23 (by kernel_rfl) gy1.1 gy1.2
 have HC1:=Lib.hid (zt14 t1 u1 (by simp only [E.d,E.dL,E.agg.injEq,List.cons.injEq,E.int.injEq,E.str.injEq,E.bool.injEq,E.lst.injEq,true_and,and_true];exact hd1))
 clear t1 u1
 have hr4:=((hr.fld (i:=4) rfl).alloc (.cells #[.slice x0A x0l.length x0c,.slice x1A x1l.length x1c,.int .i64 x2,.int .i64 x3,.slice x4A x4l.length x4c] 33)).alloc (.cells #[.slice y0A y0l.length y0c,.slice y1A y1l.length y1c,.int .i64 x2,.int .i64 x3,.slice y4A y4l.length y4c] 33)
 have hs4:=((hr'.fld (i:=4) rfl).alloc (.cells #[.slice x0A x0l.length x0c,.slice x1A x1l.length x1c,.int .i64 x2,.int .i64 x3,.slice x4A x4l.length x4c] 33)).alloc (.cells #[.slice y0A y0l.length y0c,.slice y1A y1l.length y1c,.int .i64 x2,.int .i64 x3,.slice y4A y4l.length y4c] 33)
 have t4:(E.lst 2 79 x4A x4c x4l).Ty Tryz.prog 31:=E.Ty.mk_lst Tryz.underlying31 (by kernel_rfl) gx4.1 gx4.2
 have u4:(E.lst 2 79 y4A y4c y4l).Ty Tryz.prog 31:=E.Ty.mk_lst Tryz.underlying31 (by kernel_rfl) gy4.1 gy4.2
 have HC4:=Lib.hid (zs21 t4 u4 (by simp only [E.d,E.dL,E.agg.injEq,List.cons.injEq,E.int.injEq,E.str.injEq,E.bool.injEq,E.lst.injEq,true_and,and_true];exact hd4))
 clear t4 u4
 clear hd0 hd1 hd4
 change Calls _ _ #[.agg #[.slice x0A x0l.length x0c,.slice x1A x1l.length x1c,.int .i64 x2,.int .i64 x3,.slice x4A x4l.length x4c],.agg #[.slice y0A y0l.length y0c,.slice y1A y1l.length y1c,.int .i64 x2,.int .i64 x3,.slice y4A y4l.length y4c]] w _
 go_enter Tryz.func11,Tryz.ntmps11
 go_wp2_with fail
 go_at_call 42
 refine (HC0.out _ hr0 hs0).mono ?_;rintro e w1 ⟨rfl,hb1⟩
 have hz1:=hb1.size;(try simp only [World.size_alloc] at hz1)
 have c1_1:w1.cell? ⟨w.heap.size,1,none⟩=some (.slice x1A x1l.length x1c):=zp2 hb1 (zy4 (zv5 rfl) (by simp)) (by simp;omega)
 have d1_1:w1.cell? ⟨w.heap.size+1,1,none⟩=some (.slice y1A y1l.length y1c):=zp2 hb1 (cell_new' rfl (by simp)) (by simp)
 have c1_2:w1.cell? ⟨w.heap.size,2,none⟩=some (.int .i64 x2):=zp2 hb1 (zy4 (zv5 rfl) (by simp)) (by simp;omega)
 have d1_2:w1.cell? ⟨w.heap.size+1,2,none⟩=some (.int .i64 x2):=zp2 hb1 (cell_new' rfl (by simp)) (by simp)
 have c1_3:w1.cell? ⟨w.heap.size,3,none⟩=some (.int .i64 x3):=zp2 hb1 (zy4 (zv5 rfl) (by simp)) (by simp;omega)
 have d1_3:w1.cell? ⟨w.heap.size+1,3,none⟩=some (.int .i64 x3):=zp2 hb1 (cell_new' rfl (by simp)) (by simp)
 have c1_4:w1.cell? ⟨w.heap.size,4,none⟩=some (.slice x4A x4l.length x4c):=zp2 hb1 (zy4 (zv5 rfl) (by simp)) (by simp;omega)
 have d1_4:w1.cell? ⟨w.heap.size+1,4,none⟩=some (.slice y4A y4l.length y4c):=zp2 hb1 (cell_new' rfl (by simp)) (by simp)
 have hr1:=hr1.below hb1 (by first|exact Nat.le_refl _|simp)
 have hs1:=hs1.below hb1 (by first|exact Nat.le_refl _|simp)
 have hr4:=hr4.below hb1 (by first|exact Nat.le_refl _|simp)
 have hs4:=hs4.below hb1 (by first|exact Nat.le_refl _|simp)
 go_wp2_with fail
 go_at_call 43
 refine (HC1.out _ hr1 hs1).mono ?_;rintro e w2 ⟨rfl,hb2⟩
 have hz2:=hb2.size;(try simp only [World.size_alloc] at hz2)
 have c2_2:=zp2 hb2 c1_2 (by omega)
 have d2_2:=zp2 hb2 d1_2 (by omega)
 have c2_3:=zp2 hb2 c1_3 (by omega)
 have d2_3:=zp2 hb2 d1_3 (by omega)
 have c2_4:=zp2 hb2 c1_4 (by omega)
 have d2_4:=zp2 hb2 d1_4 (by omega)
 clear c1_1 d1_1 c1_2 d1_2 c1_3 d1_3 c1_4 d1_4
 have hr4:=hr4.below hb2 (by first|exact Nat.le_refl _|simp)
 have hs4:=hs4.below hb2 (by first|exact Nat.le_refl _|simp)
 go_wp2_with fail
 go_at_call 44
 refine (HC4.out _ hr4 hs4).mono ?_;rintro e w3 ⟨rfl,hb3⟩
 have hz3:=hb3.size;(try simp only [World.size_alloc] at hz3)
 clear c2_2 d2_2 c2_3 d2_3 c2_4 d2_4
 go_wp2
 go_ret
 exact⟨rfl,by0⟩
set_option maxRecDepth 100000 in
set_option maxHeartbeats 1000000 in
theorem zh13 {e:E}(ht:e.Ty Tryz.prog 33):Mar 12 e:=by
 obtain⟨x0A,x0c,x0l,x1A,x1c,x1l,x2,x3,x4A,x4c,x4l,rfl,gx0,gx1,gx2,gx3,gx4,-⟩:=zg3 ht
 have ty0:(E.lst 3 75 x0A x0c x0l).Ty Tryz.prog 30:=E.Ty.mk_lst Tryz.underlying30 (by kernel_rfl) gx0.1 gx0.2
 have HC0:=Lib.hid (zl16 ty0)
 clear ty0
 have ty1:(E.lst 1 9 x1A x1c x1l).Ty Tryz.prog 23:=E.Ty.mk_lst Tryz.underlying23 (by kernel_rfl) gx1.1 gx1.2
 have HC1:=Lib.hid (zb12 ty1)
 clear ty1
 have ty4:(E.lst 2 79 x4A x4c x4l).Ty Tryz.prog 31:=E.Ty.mk_lst Tryz.underlying31 (by kernel_rfl) gx4.1 gx4.2
 have HC4:=Lib.hid (zd17 ty4)
 clear ty4
 intro lo hi k0 w ho hnd hhi h0 h1
 have HCN:Hid ((E.agg [.lst 3 75 x0A x0c x0l,.lst 1 9 x1A x1c x1l,.int .i64 x2,.int .i64 x3,.lst 2 79 x4A x4c x4l]).cnt=((E.lst 3 75 x0A x0c x0l).cnt+((E.lst 1 9 x1A x1c x1l).cnt+(0+(0+((E.lst 2 79 x4A x4c x4l).cnt+0)))))):=rfl
 have h1':=h1
 rw [HCN.out] at h1'
 clear h1
 change (E.fpL [(E.lst 3 75 x0A x0c x0l),(E.lst 1 9 x1A x1c x1l),(E.int .i64 x2),(E.int .i64 x3),(E.lst 2 79 x4A x4c x4l)]).Nodup at hnd
 have ho0:=(ho.fld (i:=0) rfl).alloc hhi (.cells #[.slice x0A x0l.length x0c,.slice x1A x1l.length x1c,.int .i64 x2,.int .i64 x3,.slice x4A x4l.length x4c] 33)
 have HN0:=Lib.hid (zo6 hnd (show (E.lst 3 75 x0A x0c x0l)∈[(E.lst 3 75 x0A x0c x0l),(E.lst 1 9 x1A x1c x1l),(E.int .i64 x2),(E.int .i64 x3),(E.lst 2 79 x4A x4c x4l)] by simp))
 have HS0:=Lib.hid (fun b (hb:b∈(E.lst 3 75 x0A x0c x0l).fp)=>(E.mem_fpL.2 ⟨_,(show (E.lst 3 75 x0A x0c x0l)∈[(E.lst 3 75 x0A x0c x0l),(E.lst 1 9 x1A x1c x1l),(E.int .i64 x2),(E.int .i64 x3),(E.lst 2 79 x4A x4c x4l)] by simp),hb⟩:b∈E.fpL [(E.lst 3 75 x0A x0c x0l),(E.lst 1 9 x1A x1c x1l),(E.int .i64 x2),(E.int .i64 x3),(E.lst 2 79 x4A x4c x4l)]))
 have DJ0_1:=Lib.hid (fun b (hb:b∈(E.lst 3 75 x0A x0c x0l).fp)=>(E.fpL_apart hnd 0 1 (by simp) (by simp) (by omega) b hb:b∉(E.lst 1 9 x1A x1c x1l).fp))
 have DJ0_4:=Lib.hid (fun b (hb:b∈(E.lst 3 75 x0A x0c x0l).fp)=>(E.fpL_apart hnd 0 4 (by simp) (by simp) (by omega) b hb:b∉(E.lst 2 79 x4A x4c x4l).fp))
 have ho1:=(ho.fld (i:=1) rfl).alloc hhi (.cells #[.slice x0A x0l.length x0c,.slice x1A x1l.length x1c,.int .i64 x2,.int .i64 x3,.slice x4A x4l.length x4c] 33)
 have HN1:=Lib.hid (zo6 hnd (show (E.lst 1 9 x1A x1c x1l)∈[(E.lst 3 75 x0A x0c x0l),(E.lst 1 9 x1A x1c x1l),(E.int .i64 x2),(E.int .i64 x3),(E.lst 2 79 x4A x4c x4l)] by simp))
 have HS1:=Lib.hid (fun b (hb:b∈(E.lst 1 9 x1A x1c x1l).fp)=>(E.mem_fpL.2 ⟨_,(show (E.lst 1 9 x1A x1c x1l)∈[(E.lst 3 75 x0A x0c x0l),(E.lst 1 9 x1A x1c x1l),(E.int .i64 x2),(E.int .i64 x3),(E.lst 2 79 x4A x4c x4l)] by simp),hb⟩:b∈E.fpL [(E.lst 3 75 x0A x0c x0l),(E.lst 1 9 x1A x1c x1l),(E.int .i64 x2),(E.int .i64 x3),(E.lst 2 79 x4A x4c x4l)]))
 have DJ1_0:=Lib.hid (fun b (hb:b∈(E.lst 1 9 x1A x1c x1l).fp)=>(E.fpL_apart hnd 1 0 (by simp) (by simp) (by omega) b hb:b∉(E.lst 3 75 x0A x0c x0l).fp))
 have DJ1_4:=Lib.hid (fun b (hb:b∈(E.lst 1 9 x1A x1c x1l).fp)=>(E.fpL_apart hnd 1 4 (by simp) (by simp) (by omega) b hb:b∉(E.lst 2 79 x4A x4c x4l).fp))
 have ho4:=(ho.fld (i:=4) rfl).alloc hhi (.cells #[.slice x0A x0l.length x0c,.slice x1A x1l.length x1c,.int .i64 x2,.int .i64 x3,.slice x4A x4l.length x4c] 33)
 have HN4:=Lib.hid (zo6 hnd (show (E.lst 2 79 x4A x4c x4l)∈[(E.lst 3 75 x0A x0c x0l),(E.lst 1 9 x1A x1c x1l),(E.int .i64 x2),(E.int .i64 x3),(E.lst 2 79 x4A x4c x4l)] by simp))
 have HS4:=Lib.hid (fun b (hb:b∈(E.lst 2 79 x4A x4c x4l).fp)=>(E.mem_fpL.2 ⟨_,(show (E.lst 2 79 x4A x4c x4l)∈[(E.lst 3 75 x0A x0c x0l),(E.lst 1 9 x1A x1c x1l),(E.int .i64 x2),(E.int .i64 x3),(E.lst 2 79 x4A x4c x4l)] by simp),hb⟩:b∈E.fpL [(E.lst 3 75 x0A x0c x0l),(E.lst 1 9 x1A x1c x1l),(E.int .i64 x2),(E.int .i64 x3),(E.lst 2 79 x4A x4c x4l)]))
 have DJ4_0:=Lib.hid (fun b (hb:b∈(E.lst 2 79 x4A x4c x4l).fp)=>(E.fpL_apart hnd 4 0 (by simp) (by simp) (by omega) b hb:b∉(E.lst 3 75 x0A x0c x0l).fp))
 have DJ4_1:=Lib.hid (fun b (hb:b∈(E.lst 2 79 x4A x4c x4l).fp)=>(E.fpL_apart hnd 4 1 (by simp) (by simp) (by omega) b hb:b∉(E.lst 1 9 x1A x1c x1l).fp))
 clear hnd ho
 change Calls _ _ #[.agg #[.slice x0A x0l.length x0c,.slice x1A x1l.length x1c,.int .i64 x2,.int .i64 x3,.slice x4A x4l.length x4c],.int .i64 k0] w _
 go_enter Tryz.func12,Tryz.ntmps12
 go_wp2_with fail
 go_at_call 45
 refine (HC0.out lo hi _ _ ho0 HN0.out (by first|omega|(simp;omega)) (by omega) (by omega)).mono ?_;rintro e w1 ⟨rfl,hm0,hf1⟩
 have hz1:=hf1.size;(try simp only [World.size_alloc] at hz1)
 have B1:w1.heap[w.heap.size]? = some (.cells #[.slice x0A x0l.length x0c,.slice x1A x1l.length x1c,.int .i64 x2,.int .i64 x3,.slice x4A x4l.length x4c] 33 (0,0)):=(hf1.block w.heap.size (by first|omega|simp) (fun hm=>by have:=ho0.lt _ hm;omega)).trans (heap_alloc_new w _)
 have c1_1:w1.cell? ⟨w.heap.size,1,none⟩=some (.slice x1A x1l.length x1c):=zk1 B1 rfl
 have c1_2:w1.cell? ⟨w.heap.size,2,none⟩=some (.int .i64 x2):=zk1 B1 rfl
 have c1_3:w1.cell? ⟨w.heap.size,3,none⟩=some (.int .i64 x3):=zk1 B1 rfl
 have c1_4:w1.cell? ⟨w.heap.size,4,none⟩=some (.slice x4A x4l.length x4c):=zk1 B1 rfl
 have ho1:=ho1.fr hf1 DJ1_0.out
 have ho4:=ho4.fr hf1 DJ4_0.out
 go_wp2_with fail
 go_at_call 46
 refine (HC1.out lo hi _ _ ho1 HN1.out (by first|omega|(simp;omega)) (by omega) (by omega)).mono ?_;rintro e w2 ⟨rfl,hm1,hf2⟩
 have hz2:=hf2.size;(try simp only [World.size_alloc] at hz2)
 have B2:w2.heap[w.heap.size]? = some (.cells #[.slice x0A x0l.length x0c,.slice x1A x1l.length x1c,.int .i64 x2,.int .i64 x3,.slice x4A x4l.length x4c] 33 (0,0)):=(hf2.block w.heap.size (by first|omega|simp) (fun hm=>by have:=ho1.lt _ hm;omega)).trans B1
 have c2_2:w2.cell? ⟨w.heap.size,2,none⟩=some (.int .i64 x2):=zk1 B2 rfl
 have c2_3:w2.cell? ⟨w.heap.size,3,none⟩=some (.int .i64 x3):=zk1 B2 rfl
 have c2_4:w2.cell? ⟨w.heap.size,4,none⟩=some (.slice x4A x4l.length x4c):=zk1 B2 rfl
 clear B1 c1_1 c1_2 c1_3 c1_4
 have ho4:=ho4.fr hf2 DJ4_1.out
 have hm0:=hm0.fr hf2 (fun b hb=>DJ0_1.out b (by rw [E.mk0_fp] at hb;exact hb))
 go_wp2_with fail
 go_at_call 47
 refine (HC4.out lo hi _ _ ho4 HN4.out (by first|omega|(simp;omega)) (by omega) (by omega)).mono ?_;rintro e w3 ⟨rfl,hm4,hf3⟩
 have hz3:=hf3.size;(try simp only [World.size_alloc] at hz3)
 have B3:w3.heap[w.heap.size]? = some (.cells #[.slice x0A x0l.length x0c,.slice x1A x1l.length x1c,.int .i64 x2,.int .i64 x3,.slice x4A x4l.length x4c] 33 (0,0)):=(hf3.block w.heap.size (by first|omega|simp) (fun hm=>by have:=ho4.lt _ hm;omega)).trans B2
 clear B2 c2_2 c2_3 c2_4
 have hm0:=hm0.fr hf3 (fun b hb=>DJ0_4.out b (by rw [E.mk0_fp] at hb;exact hb))
 have hm1:=hm1.fr hf3 (fun b hb=>DJ1_4.out b (by rw [E.mk0_fp] at hb;exact hb))
 go_wp2
 go_ret
 exact⟨ri (by have:=HCN.out;omega),E.Ho.mk_agg (E.HoL.mk_cons (zl17 hm0 (by first|rfl|omega|(show _=_;simp only [E.cnt,E.cntL,E.cntc,E.cntcL,reduceCtorEq,if_false,if_true,ite_false];omega))) (E.HoL.mk_cons (zl17 hm1 (by first|rfl|omega|(show _=_;simp only [E.cnt,E.cntL,E.cntc,E.cntcL,reduceCtorEq,if_false,if_true,ite_false];omega))) (E.HoL.mk_cons trivial (E.HoL.mk_cons trivial (E.HoL.mk_cons (zl17 hm4 (by first|rfl|omega|(show _=_;simp only [E.cnt,E.cntL,E.cntc,E.cntcL,reduceCtorEq,if_false,if_true,ite_false];omega))) (show E.HoL _ _ _ [] by simp only [E.HoL])))))),((((Fr.of_below ((Below.refl _ _).alloc (Nat.le_refl _) _)).trans (hf1.sub HS0.out)).trans (hf2.sub HS1.out)).trans (hf3.sub HS4.out))⟩
end Go.Proofs.YtghljnfbbaklnaaGreat
