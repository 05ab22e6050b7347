/- The type Prog, and slices of it: shape; the laws' own functions. -/
import Derived.Test.YtchffnmegikgoaaGreatOkPY
namespace Go.Proofs.YtchffnmegikgoaaGreat
open Go.RowKit
theorem zv4 {e:E}(h:e.Ty Tryz.prog 25):∃(x0A:Option Addr) (x0c:Nat) (x0l:List E) (x1A:Option Addr) (x1c:Nat) (x1l:List E),e=(E.agg [.lst 6 63 x0A x0c x0l,.lst 3 66 x1A x1c x1l])∧((∀y∈x0l,y.Ty Tryz.prog 63)∧(∀y∈x0l,y.enc.length=6))∧((∀y∈x1l,y.Ty Tryz.prog 66)∧(∀y∈x1l,y.enc.length=3))∧True:=by
 obtain⟨fs,rfl,q0⟩:=h.agg_ Tryz.underlying25
 change E.TyF _ _ [22,23] at q0
 obtain⟨e0,r0,rfl,h0,q1⟩:=q0.cons_
 obtain⟨e1,r1,rfl,h1,q2⟩:=q1.cons_
 obtain rfl:=q2.nil_
 obtain⟨x0A,x0c,x0l,rfl,gx0,gx0'⟩:=h0.lst_ Tryz.underlying22 (k:=6) (by kernel_rfl)
 obtain⟨x1A,x1c,x1l,rfl,gx1,gx1'⟩:=h1.lst_ Tryz.underlying23 (k:=3) (by kernel_rfl)
 exact⟨x0A,x0c,x0l,x1A,x1c,x1l,rfl,⟨gx0,gx0'⟩,⟨gx1,gx1'⟩,trivial⟩
theorem zh3 {e:E}(h:e.Ty Tryz.prog 31):∃(x0A:Option Addr) (x0c:Nat) (x0l:List E) (x1A:Option Addr) (x1c:Nat) (x1l:List E),e=(E.agg [.lst 6 43 x0A x0c x0l,.lst 3 46 x1A x1c x1l])∧((∀y∈x0l,y.Ty Tryz.prog 43)∧(∀y∈x0l,y.enc.length=6))∧((∀y∈x1l,y.Ty Tryz.prog 46)∧(∀y∈x1l,y.enc.length=3))∧True:=by
 obtain⟨fs,rfl,q0⟩:=h.agg_ Tryz.underlying31
 change E.TyF _ _ [28,29] at q0
 obtain⟨e0,r0,rfl,h0,q1⟩:=q0.cons_
 obtain⟨e1,r1,rfl,h1,q2⟩:=q1.cons_
 obtain rfl:=q2.nil_
 obtain⟨x0A,x0c,x0l,rfl,gx0,gx0'⟩:=h0.lst_ Tryz.underlying28 (k:=6) (by kernel_rfl)
 obtain⟨x1A,x1c,x1l,rfl,gx1,gx1'⟩:=h1.lst_ Tryz.underlying29 (k:=3) (by kernel_rfl)
 exact⟨x0A,x0c,x0l,x1A,x1c,x1l,rfl,⟨gx0,gx0'⟩,⟨gx1,gx1'⟩,trivial⟩
set_option maxRecDepth 100000 in
set_option maxHeartbeats 1000000 in
theorem za19 {e:E}(ht:e.Ty Tryz.prog 25):Sz 4 e:=by
 obtain⟨x0A,x0c,x0l,x1A,x1c,x1l,rfl,gx0,gx1,-⟩:=zv4 ht
 intro left w hr h0 h1
 have HSZ:Hid ((E.agg [.lst 6 63 x0A x0c x0l,.lst 3 66 x1A x1c x1l]).sz=((E.lst 6 63 x0A x0c x0l).sz+((E.lst 3 66 x1A x1c x1l).sz+0))):=rfl
 change Calls _ _ #[.agg #[.slice x0A x0l.length x0c,.slice x1A x1l.length x1c],.int .i64 left] w _
 have hr0:=(hr.fld (i:=0) rfl).alloc (.cells #[.slice x0A x0l.length x0c,.slice x1A x1l.length x1c] 25)
 have hr1:=(hr.fld (i:=1) rfl).alloc (.cells #[.slice x0A x0l.length x0c,.slice x1A x1l.length x1c] 25)
 go_enter Tryz.func4,Tryz.ntmps4
 go_wp2_with fail
 go_at_call 9
 refine ((ze16 (E.Ty.mk_lst Tryz.underlying22 (by kernel_rfl) gx0.1 gx0.2)) _ _ hr0 (by omega) (by omega)).mono ?_;rintro e w1 ⟨r1,rfl,hr1s,hl1,hb1⟩
 have hz1:=hb1.size;(try simp only [World.size_alloc] at hz1)
 have c1_1:w1.cell? ⟨w.heap.size,1,none⟩=some (.slice x1A x1l.length x1c):=(by repeat (first|(with_reducible assumption)|(with_reducible refine zq4 ?_)|(with_reducible refine zg4 ?_)|(with_reducible exact zx3 rfl)|(exact cell_new' rfl (by first|rfl|(simp;done)))|(with_reducible refine zi3 ?_ ?_)|(refine zh1 (by with_reducible assumption) ?_ ?_)|(refine zj7 (by with_reducible assumption) ?_ ?_)|omega|(·simp)|(·(simp;omega))))
 have hr1:=hr1.below hb1 (by first|exact Nat.le_refl _|simp)
 by_cases hn1:r1<0
 ·go_wp2
  go_ret
  exact⟨-1,rfl,.inl (by omega),by omega,by exact by0⟩
 have hq1:=hr1s.resolve_left hn1
 go_wp2_with fail
 go_at_call 10
 refine ((szFnS_all (E.Ty.mk_lst Tryz.underlying23 (by kernel_rfl) gx1.1 gx1.2)) _ _ hr1 (by omega) (by omega)).mono ?_;rintro e w2 ⟨r2,rfl,hr2s,hl2,hb2⟩
 have hz2:=hb2.size;(try simp only [World.size_alloc] at hz2)
 by_cases hn2:r2<0
 ·go_wp2
  go_ret
  exact⟨-1,rfl,.inl (by omega),by omega,by exact by0⟩
 have hq2:=hr2s.resolve_left hn2
 go_wp2
 go_ret
 refine⟨_,rfl,.inr ?_,by omega,by exact by0⟩
 show _=_
 rw [HSZ.out]
 have e1:=hq1.out
 have e2:=hq2.out
 push_cast
 omega
set_option maxRecDepth 100000 in
set_option maxHeartbeats 1000000 in
theorem zz7 {e:E}(ht:e.Ty Tryz.prog 25):To 6 31 e:=by
 have HT0:=Lib.hid ht
 obtain⟨x0A,x0c,x0l,x1A,x1c,x1l,rfl,gx0,gx1,-⟩:=zv4 ht
 intro w hr hsz
 have hsz':((E.lst 6 63 x0A x0c x0l).sz+((E.lst 3 66 x1A x1c x1l).sz+0))≤1048576:=hsz
 have hs0:(E.lst 6 63 x0A x0c x0l).sz≤1048576:=by omega
 have hs1:(E.lst 3 66 x1A x1c x1l).sz≤1048576:=by omega
 clear hsz hsz'
 have hr0:=hr.fld (i:=0) rfl
 have ty0:(E.lst 6 63 x0A x0c x0l).Ty Tryz.prog 22:=E.Ty.mk_lst Tryz.underlying22 (by kernel_rfl) gx0.1 gx0.2
 have HC0:=Lib.hid (zf16 ty0)
 clear ty0
 have hr1:=hr.fld (i:=1) rfl
 have ty1:(E.lst 3 66 x1A x1c x1l).Ty Tryz.prog 23:=E.Ty.mk_lst Tryz.underlying23 (by kernel_rfl) gx1.1 gx1.2
 have HC1:=Lib.hid (toFnS_all ty1)
 clear ty1
 change Calls _ _ #[.agg #[.slice x0A x0l.length x0c,.slice x1A x1l.length x1c]] w _
 go_enter Tryz.func6,Tryz.ntmps6
 go_wp2_with fail
 go_at_call 16
 refine (HC0.out _ (((hr0.alloc _).alloc _).alloc _) hs0).mono ?_;rintro e w1 ⟨v1,he,HD1,ht1,ho1,hn1,hb1⟩
 have HT1:=Lib.hid ht1
 have HN1:=Lib.hid hn1
 obtain⟨A1,q1,l1,rfl,-,-⟩:=ht1.lst_ Tryz.underlying28 (k:=6) (by kernel_rfl)
 obtain rfl:e=.returned (.slice A1 l1.length q1):=he
 clear hn1 ht1
 have B0_1:w1.heap[w.heap.size]? = some (.cells #[.slice x0A x0l.length x0c,.slice x1A x1l.length x1c] 25 (0,0)):=(hb1.block (w.heap.size) (by simp;omega)).trans zc6.1
 have B1_1:w1.heap[w.heap.size+1]? = some (.cells #[.slice none 0 0,.slice none 0 0] 31 (0,0)):=(hb1.block (w.heap.size+1) (by simp)).trans zc6.2.1
 have B2_1:w1.heap[w.heap.size+1+1]? = some (.cells #[.slice none 0 0,.slice none 0 0] 31 (0,0)):=(hb1.block (w.heap.size+1+1) (by simp)).trans zc6.2.2
 have hz1:=hb1.size;simp only [World.size_alloc] at hz1
 have hB1:Below w.heap.size w w1:=(by exact by0:Below w.heap.size w _).trans (hb1.mono (by simp;omega))
 have ho1:=ho1.wider (lo':=w.heap.size+1+1+1) (by simp) (Nat.le_refl _)
 have c1_0:w1.cell? ⟨w.heap.size,0,none⟩=some (.slice x0A x0l.length x0c):=zv B0_1 rfl
 have c1_1:w1.cell? ⟨w.heap.size,1,none⟩=some (.slice x1A x1l.length x1c):=zv B0_1 rfl
 have d1_0:w1.cell? ⟨w.heap.size+1+1,0,none⟩=some (.slice none 0 0):=zv B2_1 rfl
 have d1_1:w1.cell? ⟨w.heap.size+1+1,1,none⟩=some (.slice none 0 0):=zv B2_1 rfl
 have f1:=zr4 B2_1
 go_wp2_with fail
 have hK1:Kp (w.heap.size+1+1) (w.heap.size+1+1+1) w1 (w1.setCell ⟨w.heap.size+1+1,0,none⟩ (.slice A1 l1.length q1)):=(by repeat (first|(with_reducible exact Kp.refl _ _ _)|(refine Kp.set ?_ (by first|omega|(dsimp only;omega)|(simp;omega)) (by first|omega|(dsimp only;omega)|(simp;omega)) _)))
 have A0_1:=(hK1.block (w.heap.size) (by omega) (.inl (by omega))).trans B0_1
 have A1_1:=(hK1.block (w.heap.size+1) (by omega) (.inl (by omega))).trans B1_1
 have A2_1:(w1.setCell ⟨w.heap.size+1+1,0,none⟩ (.slice A1 l1.length q1)).heap[w.heap.size+1+1]? = some (.cells #[.slice A1 l1.length q1,.slice none 0 0] 31 (0,0)):=by simp only [zi4,B2_1];simp [setAt]
 have hW1:(w1.setCell ⟨w.heap.size+1+1,0,none⟩ (.slice A1 l1.length q1)).heap.size=w1.heap.size:=by simp
 have hBW1:Below w.heap.size w (w1.setCell ⟨w.heap.size+1+1,0,none⟩ (.slice A1 l1.length q1)):=hB1.trans (hK1.below (by omega) (by omega))
 have ho1:=ho1.kp hK1 (.inr (by omega))
 clear c1_0 c1_1 d1_0 d1_1 f1 B0_1 B1_1 B2_1 hK1 hB1
 generalize (w1.setCell ⟨w.heap.size+1+1,0,none⟩ (.slice A1 l1.length q1))=W1 at *
 go_at_call 17
 refine (HC1.out _ (E.In.below hr1 hBW1 (Nat.le_refl _)) hs1).mono ?_;rintro e w2 ⟨v2,he,HD2,ht2,ho2,hn2,hb2⟩
 have HT2:=Lib.hid ht2
 have HN2:=Lib.hid hn2
 obtain⟨A2,q2,l2,rfl,-,-⟩:=ht2.lst_ Tryz.underlying29 (k:=3) (by kernel_rfl)
 obtain rfl:e=.returned (.slice A2 l2.length q2):=he
 clear hn2 ht2
 have B0_2:=(hb2.block (w.heap.size) (by omega)).trans A0_1
 have B1_2:=(hb2.block (w.heap.size+1) (by omega)).trans A1_1
 have B2_2:=(hb2.block (w.heap.size+1+1) (by omega)).trans A2_1
 have hz2:=hb2.size
 have hB2:Below w.heap.size w w2:=hBW1.trans (hb2.mono (by omega))
 have ho1:=ho1.below hb2 (by omega)
 have ho2:=ho2.wider (lo':=w1.heap.size) (by omega) (Nat.le_refl _)
 clear A0_1 A1_1 A2_1
 have c2_0:w2.cell? ⟨w.heap.size,0,none⟩=some (.slice x0A x0l.length x0c):=zv B0_2 rfl
 have c2_1:w2.cell? ⟨w.heap.size,1,none⟩=some (.slice x1A x1l.length x1c):=zv B0_2 rfl
 have d2_0:w2.cell? ⟨w.heap.size+1+1,0,none⟩=some (.slice A1 l1.length q1):=zv B2_2 rfl
 have d2_1:w2.cell? ⟨w.heap.size+1+1,1,none⟩=some (.slice none 0 0):=zv B2_2 rfl
 have f2:=zr4 B2_2
 have r0':=zv B1_2 (o:=0) rfl;have r1':=zv B1_2 (o:=1) rfl
 have fr':=zr4 B1_2
 go_wp2
 have OWN:Owns w2 (w.heap.size+1+1+1) w2.heap.size [(E.lst 6 43 A1 q1 l1),(E.lst 3 46 A2 q2 l2)]:=(Owns.cons (mid:=w1.heap.size) ho1 HN1.out (Owns.cons (mid:=w2.heap.size) ho2 HN2.out Owns.nil (by omega) (by omega)) (by omega) (by omega))
 refine bodyPost_ret (v:=.agg #[.slice A1 l1.length q1,.slice A2 l2.length q2]) (zl6 (t:=31) (fr:=(0,0)) rfl rfl Tryz.underlying31 (by kernel_rfl) ?_) rfl ⟨(E.agg [(E.lst 6 43 A1 q1 l1),(E.lst 3 46 A2 q2 l2)]),rfl,?_,E.Ty.mk_agg Tryz.underlying31 (E.TyF.mk_cons HT1.out (E.TyF.mk_cons HT2.out (E.TyF.mk_nil))),?_,?_,?_⟩
 ·simp only [zi4,B1_2,B2_2];simp [setAt]
 ·show E.d _=E.d _
  simp only [E.d,E.dL]
  have y1:=HD1.out;simp only [E.d,E.dL] at y1
  have y2:=HD2.out;simp only [E.d,E.dL] at y2
  simp only [E.agg.injEq,List.cons.injEq,E.lst.injEq,E.int.injEq,E.str.injEq,E.bool.injEq,true_and,and_true] at *
  simp [*]
 ·exact ((E.Ho.mk_agg OWN.1).kp (lo':=w.heap.size+1) (hi':=w.heap.size+1+1+1) (by repeat (first|(with_reducible exact Kp.refl _ _ _)|(refine Kp.set ?_ (by first|omega|(dsimp only;omega)|(simp;omega)) (by first|omega|(dsimp only;omega)|(simp;omega)) _))) (.inr (by omega))).wider (by omega) (by simp)
 ·exact OWN.2
 ·exact hB2.trans (Kp.below (lo:=w.heap.size+1) (hi:=w.heap.size+1+1+1) (by repeat (first|(with_reducible exact Kp.refl _ _ _)|(refine Kp.set ?_ (by first|omega|(dsimp only;omega)|(simp;omega)) (by first|omega|(dsimp only;omega)|(simp;omega)) _))) (by omega) (by omega))
set_option maxRecDepth 100000 in
set_option maxHeartbeats 1000000 in
theorem zb19 {e e':E}(ht:e.Ty Tryz.prog 31)(ht':e'.Ty Tryz.prog 31):Eq 8 e e':=by
 obtain⟨x0A,x0c,x0l,x1A,x1c,x1l,rfl,gx0,gx1,-⟩:=zh3 ht
 obtain⟨y0A,y0c,y0l,y1A,y1c,y1l,rfl,gy0,gy1,-⟩:=zh3 ht'
 intro hd w hr hr'
 simp only [E.d,E.dL,E.agg.injEq,List.cons.injEq,E.int.injEq,E.str.injEq,E.bool.injEq,E.lst.injEq,true_and,and_true] at hd
 obtain⟨hd0,hd1⟩:=hd
 have hr0:=((hr.fld (i:=0) rfl).alloc (.cells #[.slice x0A x0l.length x0c,.slice x1A x1l.length x1c] 31)).alloc (.cells #[.slice y0A y0l.length y0c,.slice y1A y1l.length y1c] 31)
 have hs0:=((hr'.fld (i:=0) rfl).alloc (.cells #[.slice x0A x0l.length x0c,.slice x1A x1l.length x1c] 31)).alloc (.cells #[.slice y0A y0l.length y0c,.slice y1A y1l.length y1c] 31)
 have t0:(E.lst 6 43 x0A x0c x0l).Ty Tryz.prog 28:=E.Ty.mk_lst Tryz.underlying28 (by kernel_rfl) gx0.1 gx0.2
 have u0:(E.lst 6 43 y0A y0c y0l).Ty Tryz.prog 28:=E.Ty.mk_lst Tryz.underlying28 (by kernel_rfl) gy0.1 gy0.2
 have HC0:=Lib.hid (zg16 t0 u0 (by simp only [E.d,E.dL,E.agg.injEq,List.cons.injEq,E.int.injEq,E.str.injEq,E.bool.injEq,E.lst.injEq,true_and,and_true];exact hd0))
 clear t0 u0
 have hr1:=((hr.fld (i:=1) rfl).alloc (.cells #[.slice x0A x0l.length x0c,.slice x1A x1l.length x1c] 31)).alloc (.cells #[.slice y0A y0l.length y0c,.slice y1A y1l.length y1c] 31)
 have hs1:=((hr'.fld (i:=1) rfl).alloc (.cells #[.slice x0A x0l.length x0c,.slice x1A x1l.length x1c] 31)).alloc (.cells #[.slice y0A y0l.length y0c,.slice y1A y1l.length y1c] 31)
 have t1:(E.lst 3 46 x1A x1c x1l).Ty Tryz.prog 29:=E.Ty.mk_lst Tryz.underlying29 (by kernel_rfl) gx1.1 gx1.2
 have u1:(E.lst 3 46 y1A y1c y1l).Ty Tryz.prog 29:=E.Ty.mk_lst Tryz.underlying29 (by kernel_rfl) gy1.1 gy1.2
 have HC1:=Lib.hid (eqFnS_all t1 u1 (by simp only [E.d,E.dL,E.agg.injEq,List.cons.injEq,E.int.injEq,E.str.injEq,E.bool.injEq,E.lst.injEq,true_and,and_true];exact hd1))
 clear t1 u1
 clear hd0 hd1
 change Calls _ _ #[.agg #[.slice x0A x0l.length x0c,.slice x1A x1l.length x1c],.agg #[.slice y0A y0l.length y0c,.slice y1A y1l.length y1c]] w _
 go_enter Tryz.func8,Tryz.ntmps8
 go_wp2_with fail
 go_at_call 23
 refine (HC0.out _ hr0 hs0).mono ?_;rintro e w1 ⟨rfl,hb1⟩
 have hz1:=hb1.size;(try simp only [World.size_alloc] at hz1)
 have c1_1:w1.cell? ⟨w.heap.size,1,none⟩=some (.slice x1A x1l.length x1c):=zh1 hb1 (zi3 (zx3 rfl) (by simp)) (by simp;omega)
 have d1_1:w1.cell? ⟨w.heap.size+1,1,none⟩=some (.slice y1A y1l.length y1c):=zh1 hb1 (cell_new' rfl (by simp)) (by simp)
 have hr1:=hr1.below hb1 (by first|exact Nat.le_refl _|simp)
 have hs1:=hs1.below hb1 (by first|exact Nat.le_refl _|simp)
 go_wp2_with fail
 go_at_call 24
 refine (HC1.out _ hr1 hs1).mono ?_;rintro e w2 ⟨rfl,hb2⟩
 have hz2:=hb2.size;(try simp only [World.size_alloc] at hz2)
 clear c1_1 d1_1
 go_wp2
 go_ret
 exact⟨rfl,by0⟩
set_option maxRecDepth 100000
def strsL (ns:List ByteArray):List E:=ns.map fun n=>.str n
def kwL:List E:=strsL [⟨#[98,101,103,105,110]⟩,⟨#[101,110,100]⟩,⟨#[102,117,110,99]⟩,⟨#[112,114,105,110,116]⟩,⟨#[105,102]⟩,⟨#[101,108,115,101]⟩,⟨#[119,104,105,108,101]⟩,⟨#[102,111,114]⟩,⟨#[105,110]⟩,⟨#[110,101,120,116]⟩,⟨#[101,120,105,116]⟩,⟨#[114,101,116,117,114,110]⟩,⟨#[100,101,108,101,116,101]⟩,⟨#[108,101,110,103,116,104]⟩,⟨#[115,117,98,115,116,114]⟩,⟨#[105,110,100,101,120]⟩,⟨#[117,112,112,101,114]⟩,⟨#[103,115,117,98]⟩,⟨#[110,114]⟩,⟨#[110,102]⟩]
def opL2:List E:=strsL [⟨#[43]⟩,⟨#[45]⟩,⟨#[42]⟩,⟨#[47]⟩,⟨#[37]⟩,⟨#[46]⟩,⟨#[60]⟩,⟨#[60,61]⟩,⟨#[61,61]⟩,⟨#[33,61]⟩,⟨#[62]⟩,⟨#[62,61]⟩,⟨#[38,38]⟩,⟨#[124,124]⟩]
def hasB (l:List E)(s:ByteArray):Bool:=l.any fun e=>s.toList==(strB e).toList
def nameK (s:ByteArray):Bool:=nameW s&&!hasB kwL s
def emB (s:ByteArray):Bool:=s.toList==(ByteArray.mk #[]).toList
def headB (k n:Int)(s:ByteArray)(m:Int):Bool :=
 if k=1 then inR n 0 2147483647&&(emB s&&(m==0))
 else decide (n=0)&&(
  if k=2 then textB 39 s&&(m==0)
  else if k=3 then nameK s&&(m==0)
  else if k=4∨k=9 then nameK s&&(m==1)
  else if k=5∨k=7∨k=8∨k=12∨k=17 then emB s&&(m==1)
  else if k=6 then hasB opL2 s&&(m==2)
  else if k=10 then (m==1)&&rexN s
  else if k=18 then (m==2)&&rexN s
  else if k=11 then nameK s&&decide (m≤4)
  else if k=13 then emB s&&(m==3)
  else if k=14∨k=15 then emB s&&(m==0)
  else if k=16 then emB s&&(m==2)
  else false)
def headE (e:E):Bool:=match e with | .agg [.int _ k,.int _ n,.str s,.lst _ _ _ _ l]=>headB k n s l.length|_=>false
def partE (e:E):List E:=match e with | .agg [_,_,_,.lst _ _ _ _ l]=>l|_=>[]
theorem zo17 (e x:E)(h:x∈partE e):x.sz<e.sz:=by
 unfold partE at h
 split at h
 ·have:=E.szL_mem h
  simp only [E.sz,E.szL]
  have h2:0<List.length _:=List.length_pos_of_mem h
  omega
 ·cases h
def exprI (f:Nat)(e:E):Nat:=cntI 100 headE partE f e
def exprS (f:Nat)(e:E):Nat:=cntS 100 partE f e
def okX (e:E):Bool:=okE headE partE e
def exprB (e:E):Bool:=decide (exprS 10 e≤100)&&okX e
theorem exprB_I (e:E):exprB e=decide (exprI 10 e≤100):=(cnt_ok (by omega) zo17 10 e).symm
def kindX (e:E):Int:=match e with | .agg (.int _ k :: _)=>k|_=>0
def shp (n na nb j:Int)(a b:Bool):Bool:=(n==j)&&((a||(na==0))&&(b||(nb==0)))
def shapeB (k:Int)(s t:ByteArray)(n na nb:Int)(c:Bool):Bool :=
 (decide (k=7)||emB t)&&(
   if k=1 then inR n 1 5&&(emB s&&((na==0)&&(nb==0)))
   else if k=2∨k=11 then nameK s&&shp n na nb 1 false false
   else if k=3 then nameK s&&shp n na nb 2 false false
   else if k=4 then emB s&&shp n na nb 2 false false
   else if k=5 then emB s&&shp n na nb 1 true true
   else if k=6 then emB s&&shp n na nb 1 true false
   else if k=7 then nameK s&&(nameK t&&shp n na nb 0 true false)
   else if k=8 then emB s&&shp n na nb 0 false false
   else if k=9∨k=10 then emB s&&shp n na nb 1 false false
   else if k=12 then emB s&&(shp n na nb 1 false false&&c)
   else false)
def callX (xs:List E):Bool:=kindX (xs.headD (.int .i64 0))==11
def sheadB (k:Int)(s t:ByteArray)(xs:List E)(na nb:Nat):Bool:=xs.all exprB&&shapeB k s t xs.length na nb (callX xs)
def sheadE (e:E):Bool:=match e with | .agg [.int _ k,.str s,.str t,.lst _ _ _ _ xs,.lst _ _ _ _ la,.lst _ _ _ _ lb]=>sheadB k s t xs la.length lb.length|_=>false
def kidS (e:E):List E:=match e with | .agg [_,_,_,_,.lst _ _ _ _ la,.lst _ _ _ _ lb]=>la++lb|_=>[]
theorem kidS_sz (e x:E)(h:x∈kidS e):x.sz<e.sz:=by
 unfold kidS at h
 split at h
 ·simp only [E.sz,E.szL]
  rcases List.mem_append.1 h with h|h
  ·have:=E.szL_mem h
   have h2:0<List.length _:=List.length_pos_of_mem h
   omega
  ·have:=E.szL_mem h
   have h2:0<List.length _:=List.length_pos_of_mem h
   omega
 ·cases h
def stmtI (f:Nat)(e:E):Nat:=cntI 60 sheadE kidS f e
def stmtS (f:Nat)(e:E):Nat:=cntS 60 kidS f e
def okY (e:E):Bool:=okE sheadE kidS e
def stmtB (e:E):Bool:=decide (stmtS 5 e≤60)&&okY e
theorem stmtB_I (e:E):stmtB e=decide (stmtI 5 e≤60):=(cnt_ok (by omega) kidS_sz 5 e).symm
def bodyB (l:List E):Bool:=decide (l.length≤20)&&l.all stmtB
def zeroX (e:E):Bool:=match e with | .agg [.int _ k,.int _ n,.str s,.lst _ _ _ _ l]=>decide (k=0)&&(decide (n=0)&&(emB s&&decide (l.length=0)))|_=>false
theorem zp17 {ns:List ByteArray}(h:∀s∈ns,s.size≤9223372036854775807):∀e∈strsL ns,e.Ty Tryz.prog 9:=fun e he=>by
 obtain⟨s,hs,rfl⟩:=List.mem_map.1 he
 have:=h s hs
 simp only [E.Ty];exact⟨Tryz.underlying9,by unfold maxLen;omega⟩
theorem zc14 {ns:List ByteArray}:∀e∈strsL ns,e.enc.length=1:=fun e he=>by obtain⟨x,-,rfl⟩:=List.mem_map.1 he;rfl
theorem kwL_Ty:∀e∈kwL,e.Ty Tryz.prog 9:=zp17 (by decide)
theorem opL2_Ty:∀e∈opL2,e.Ty Tryz.prog 9:=zp17 (by decide)
theorem zh16 {l:List E}(hl:∀e∈l,e.Ty Tryz.prog 9)(hlen:l.length≤1048576)(s:ByteArray):Ctr Tryz.prog 30 [.c (.ro l.length 1 (acL l)),.c (.v (.string s))] [] (.c (.v (.bool (hasB l s)))) []:=by
 have hk:∀e∈l,e.enc.length=1:=fun e he=>by obtain⟨x,rfl,-⟩:=(hl e he).str_ Tryz.underlying9;rfl
 refine zw Tryz.func30 rfl rfl ?_
 repeat' (first|(apply f_wo;(apply f_as;refine zn (v:=.c _) ?_))|(apply f_w;first|refine zj ?_|refine zb ?_)|refine za fun C=>?_|refine zd ?_|refine ze ?_)
 refine zt1 (fun k:Nat=>⟨tmsF [(0,.c (.ro l.length 1 (acL l))),(1,.c (.v (.string s))),(5,.c (.v (.int .i64 (k:Int))))],hpsF [],0,[],18⟩)
  (fun N k=>k+N=l.length∧∀j y,j<k→l[j]? = some y→(s.toList==(strB y).toList)=false) l.length 0 ⟨by omega,fun j y hj=>absurd hj (Nat.not_lt_zero j)⟩ ?_ ?_
 ·(refine zj1 _ _ rfl rfl ?_ ?_<;>(repeat' (first|exact TmOk.nil|exact RwOk.nil|refine TmOk.cons ?_ ?_|refine RwOk.cons ?_ ?_|rfl|(refine rnV_id' rfl ?_;exact byc)|(refine zp1 ?_;first|rfl|omega|(rw [zy (by omega) (by omega)];omega))|(refine zb1 rfl ?_;exact byc)|exact za2 rfl rfl|(refine zq1 (by rfl) (by rfl) ?_ ?_<;>exact byc)|(refine rw_rn' rfl rfl ?_;simp;done))))
 rintro N k ⟨hN,hr⟩
 try dsimp only
 repeat' (first|(apply f_wo;first|(apply f_mv;refine zu (v:=.c _) ?_)|(apply f_bi;refine zw1 ?_)|(apply zg3;refine zr1 ?_))|(apply f_w;first|refine zj ?_|refine zb ?_)|refine za fun C=>?_|refine zd ?_)
 refine zh (by rfl) (fun h1=>?_) fun h1=>?_
 ·have hk':k<l.length:=by simpa using h1
  obtain⟨x,hx⟩:∃x,l[k]? = some x:=⟨_,List.getElem?_eq_getElem hk'⟩
  obtain⟨z,rfl,-⟩:=(hl x (List.mem_of_getElem? hx)).str_ Tryz.underlying9
  repeat' (first|(apply f_wo;first|(apply f_mv;refine zu (v:=.c _) ?_)|(apply f_ld;refine zu4 ?_)|(apply f_ia;refine n_ix ?_)|(apply zm1;refine zm2 ?_))|(apply f_w;first|refine zj ?_|refine zb ?_)|refine za fun C=>?_|refine zd ?_|refine ze ?_|refine zf ?_)
  refine zh (by rfl) (fun hC=>?_) fun hC=>?_
  ·have e:hasB l s=true:=List.any_eq_true.2 ⟨_,List.mem_of_getElem? hx,by rw [beq_iff_eq] at hC ⊢;exact hC.symm⟩
   rw [e]
   repeat' (first|(apply f_wo;(apply f_as;refine zn (v:=.c _) ?_))|(apply f_w;first|refine zj ?_|refine zb ?_)|refine za fun C=>?_|refine zd ?_)
   refine zg ?_;refine ret0 rfl za1 ⟨?_,rfl⟩;rfl
  ·repeat' (first|(apply f_wo;first|(apply f_mv;refine zu (v:=.c _) ?_)|(apply f_as;refine zn (v:=.c _) ?_)|(apply zh2;refine zg1 ?_))|(apply f_w;first|refine zj ?_|refine zb ?_)|refine za fun C=>?_|refine zf ?_)
   refine⟨N-1,k+1,by omega,⟨by omega,fun j y hj hy=>?_⟩,?_⟩
   ·by_cases e:j=k
    ·rw [e,hx] at hy;injection hy with hy;subst hy
     cases hb:(s.toList==(strB (E.str z)).toList) with
     | false=>rfl
     | true=>rw [beq_iff_eq] at hb;rw [←hC];exact (beq_iff_eq.2 hb.symm).symm
    ·exact hr j y (by omega) hy
   ·(refine zj1 _ _ rfl rfl ?_ ?_<;>(repeat' (first|exact TmOk.nil|exact RwOk.nil|refine TmOk.cons ?_ ?_|refine RwOk.cons ?_ ?_|rfl|(refine rnV_id' rfl ?_;exact byc)|(refine zp1 ?_;first|rfl|omega|(rw [zy (by omega) (by omega)];omega))|(refine zb1 rfl ?_;exact byc)|exact za2 rfl rfl|(refine zq1 (by rfl) (by rfl) ?_ ?_<;>exact byc)|(refine rw_rn' rfl rfl ?_;simp;done))))
 ·have hk':¬k<l.length:=by simpa using h1
  have e:hasB l s=false:=by
   cases hb:hasB l s with
   | false=>rfl
   | true =>
    obtain⟨x,hx,hp⟩:=List.any_eq_true.1 hb
    obtain⟨j,hj⟩:=List.getElem?_of_mem hx
    have:=(List.getElem?_eq_some_iff.1 hj).1
    rw [hr j x (by omega) hj] at hp;cases hp
  rw [e]
  repeat' (first|(apply f_wo;(apply f_as;refine zn (v:=.c _) ?_))|(apply f_w;first|refine zj ?_|refine zb ?_)|refine za fun C=>?_|refine zd ?_|refine zt ?_)
  refine zg ?_;refine ret0 rfl za1 ⟨?_,rfl⟩;rfl
theorem l8Words_c:Ctr Tryz.prog 31 [] [] (.c (.ow 9 kwL.length 1 (acL kwL))) []:=by
 refine zw Tryz.func31 rfl rfl ?_
 repeat' (first|(apply f_wo;first|(apply f_as;refine zn (v:=.c _) ?_)|refine n_bs ?_)|(apply f_w;first|refine zj ?_|refine zb ?_)|refine za fun C=>?_|refine zd ?_)
 refine zg ?_
 refine ret0 rfl (clV_c (zk2 rfl rfl rfl (by rfl) zy1)) ⟨?_,rfl⟩
 rfl
theorem l8Ops_c:Ctr Tryz.prog 84 [] [] (.c (.ow 9 opL2.length 1 (acL opL2))) []:=by
 refine zw Tryz.func84 rfl rfl ?_
 repeat' (first|(apply f_wo;first|(apply f_as;refine zn (v:=.c _) ?_)|refine n_bs ?_)|(apply f_w;first|refine zj ?_|refine zb ?_)|refine za fun C=>?_|refine zd ?_)
 refine zg ?_
 refine ret0 rfl (clV_c (zk2 rfl rfl rfl (by rfl) zy1)) ⟨?_,rfl⟩
 rfl
theorem binOps_c:Ctr Tryz.prog 90 [] [] (.c (.ow 9 opL2.length 1 (acL opL2))) []:=by
 refine zw Tryz.func90 rfl rfl ?_
 repeat' (first|(apply f_wo;first|(apply f_as;refine zn (v:=.c _) ?_)|refine n_bs ?_)|(apply f_w;first|refine zj ?_|refine zb ?_)|refine za fun C=>?_|refine zd ?_)
 refine zg ?_
 refine ret0 rfl (clV_c (zk2 rfl rfl rfl (by rfl) zy1)) ⟨?_,rfl⟩
 rfl
theorem zk3 {s:ByteArray}(hs:s.size≤1048576):Ctr Tryz.prog 40 [.c (.v (.string s))] [] (.c (.v (.bool (nameK s)))) []:=by
 have c1:=isName_c hs
 have c2:Ctr Tryz.prog 41 [.c (.ro kwL.length 1 (acL kwL)),.c (.v (.string s))] [] (.c (.v (.bool (hasB kwL s)))) []:=zi6 kwL_Ty zc14 (by decide) s
 unfold nameK
 generalize nameW s=b1 at c1 ⊢
 generalize hasB kwL s=b2 at c2 ⊢
 cases b1
 all_goals
  refine zw Tryz.func40 rfl rfl ?_
  repeat' (first|(apply f_wo;first|(apply f_gs;refine n_sk ?_)|(apply f_mv;first|(refine zo1 ?_ ?_<;>intro hG<;>(try cases hG))|refine zu (v:=.c _) ?_)|(apply f_as;refine zn (v:=.c _) ?_)|(apply f_ca;first|refine ze1 c1 ?_|refine ze1 c2 ?_)|(apply f_no;refine zq2 ?_)|(apply f_pk;refine zn1 (v:=.c _) ?_)|refine n_bs ?_)|(apply f_w;first|refine zj ?_|refine zb ?_)|refine za fun C=>?_|refine zd ?_)
  refine zg ?_;refine ret0 rfl za1 ⟨?_,rfl⟩;rfl
theorem zf3 {s:ByteArray}(hs:s.size≤1048576):Ctr Tryz.prog 12 [.c (.v (.string s))] [] (.c (.v (.bool (nameK s)))) []:=by
 have c1:=l7Word_c hs
 have c2:=zh16 kwL_Ty (by decide) s
 have c3:=l8Words_c
 unfold nameK
 generalize nameW s=b1 at c1 ⊢
 generalize hasB kwL s=b2 at c2 ⊢
 cases b1
 all_goals
  refine zw Tryz.func12 rfl rfl ?_
  repeat' (first|(apply f_wo;first|(apply f_gs;refine n_sk ?_)|(apply f_mv;first|(refine zo1 ?_ ?_<;>intro hG<;>(try cases hG))|refine zu (v:=.c _) ?_)|(apply f_as;refine zn (v:=.c _) ?_)|(apply f_ca;first|refine ze1 c1 ?_|refine ze1 c2 ?_|refine n_cak c3 ?_)|(apply f_no;refine zq2 ?_)|(apply f_pk;refine zn1 (v:=.c _) ?_))|(apply f_w;first|refine zj ?_|refine zb ?_)|refine za fun C=>?_|refine zd ?_)
  refine zg ?_;refine ret0 rfl za1 ⟨?_,rfl⟩;rfl
end Go.Proofs.YtchffnmegikgoaaGreat
