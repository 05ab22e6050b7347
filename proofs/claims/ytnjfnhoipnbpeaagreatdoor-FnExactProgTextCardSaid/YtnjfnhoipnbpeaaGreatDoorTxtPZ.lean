/- The type Prog, and slices of it: shape; the laws' own functions. -/
import Derived.Shelf.LaysM
import Derived.Shelf.Strconv.Itoa3
import Derived.Test.YtnjfnhoipnbpeaaGreatDoorTxtPY
namespace Go.Proofs.YtnjfnhoipnbpeaaGreatDoor
open Go.RowKit
theorem zg5 {e:E}(h:e.Ty Tryz.prog 25):∃(x0A:Option Addr) (x0c:Nat) (x0l:List E) (x1A:Option Addr) (x1c:Nat) (x1l:List E),e=(E.agg [.lst 6 60 x0A x0c x0l,.lst 3 63 x1A x1c x1l])∧((∀y∈x0l,y.Ty Tryz.prog 60)∧(∀y∈x0l,y.enc.length=6))∧((∀y∈x1l,y.Ty Tryz.prog 63)∧(∀y∈x1l,y.enc.length=3))∧True:=by
 obtain⟨fs,rfl,q0⟩:=h.agg_ Tryz.underlying25
 change E.TyF _ _ [22,23] at q0
 obtain⟨e0,r0,rfl,h0,q1⟩:=q0.cons_
 obtain⟨e1,r1,rfl,h1,q2⟩:=q1.cons_
 obtain rfl:=q2.nil_
 obtain⟨x0A,x0c,x0l,rfl,gx0,gx0'⟩:=h0.lst_ Tryz.underlying22 (k:=6) (by kernel_rfl)
 obtain⟨x1A,x1c,x1l,rfl,gx1,gx1'⟩:=h1.lst_ Tryz.underlying23 (k:=3) (by kernel_rfl)
 exact⟨x0A,x0c,x0l,x1A,x1c,x1l,rfl,⟨gx0,gx0'⟩,⟨gx1,gx1'⟩,trivial⟩
theorem zh3 {e:E}(h:e.Ty Tryz.prog 31):∃(x0A:Option Addr) (x0c:Nat) (x0l:List E) (x1A:Option Addr) (x1c:Nat) (x1l:List E),e=(E.agg [.lst 6 47 x0A x0c x0l,.lst 3 41 x1A x1c x1l])∧((∀y∈x0l,y.Ty Tryz.prog 47)∧(∀y∈x0l,y.enc.length=6))∧((∀y∈x1l,y.Ty Tryz.prog 41)∧(∀y∈x1l,y.enc.length=3))∧True:=by
 obtain⟨fs,rfl,q0⟩:=h.agg_ Tryz.underlying31
 change E.TyF _ _ [28,29] at q0
 obtain⟨e0,r0,rfl,h0,q1⟩:=q0.cons_
 obtain⟨e1,r1,rfl,h1,q2⟩:=q1.cons_
 obtain rfl:=q2.nil_
 obtain⟨x0A,x0c,x0l,rfl,gx0,gx0'⟩:=h0.lst_ Tryz.underlying28 (k:=6) (by kernel_rfl)
 obtain⟨x1A,x1c,x1l,rfl,gx1,gx1'⟩:=h1.lst_ Tryz.underlying29 (k:=3) (by kernel_rfl)
 exact⟨x0A,x0c,x0l,x1A,x1c,x1l,rfl,⟨gx0,gx0'⟩,⟨gx1,gx1'⟩,trivial⟩
set_option maxRecDepth 100000 in
set_option maxHeartbeats 1000000 in
theorem zy21 {e:E}(ht:e.Ty Tryz.prog 25):Sz 4 e:=by
 obtain⟨x0A,x0c,x0l,x1A,x1c,x1l,rfl,gx0,gx1,-⟩:=zg5 ht
 intro left w hr h0 h1
 have HSZ:Hid ((E.agg [.lst 6 60 x0A x0c x0l,.lst 3 63 x1A x1c x1l]).sz=((E.lst 6 60 x0A x0c x0l).sz+((E.lst 3 63 x1A x1c x1l).sz+0))):=rfl
 change Calls _ _ #[.agg #[.slice x0A x0l.length x0c,.slice x1A x1l.length x1c],.int .i64 left] w _
 have hr0:=(hr.fld (i:=0) rfl).alloc (.cells #[.slice x0A x0l.length x0c,.slice x1A x1l.length x1c] 25)
 have hr1:=(hr.fld (i:=1) rfl).alloc (.cells #[.slice x0A x0l.length x0c,.slice x1A x1l.length x1c] 25)
 go_enter Tryz.func4,Tryz.ntmps4
 go_wp2_with fail
 go_at_call 9
 refine ((zm18 (E.Ty.mk_lst Tryz.underlying22 (by kernel_rfl) gx0.1 gx0.2)) _ _ hr0 (by omega) (by omega)).mono ?_;rintro e w1 ⟨r1,rfl,hr1s,hl1,hb1⟩
 have hz1:=hb1.size;(try simp only [World.size_alloc] at hz1)
 have c1_1:w1.cell? ⟨w.heap.size,1,none⟩=some (.slice x1A x1l.length x1c):=(by repeat (first|(with_reducible assumption)|(with_reducible refine zb5 ?_)|(with_reducible refine zr4 ?_)|(with_reducible exact zg4 rfl)|(exact cell_new' rfl (by first|rfl|(simp;done)))|(with_reducible refine zo3 ?_ ?_)|(refine zo1 (by with_reducible assumption) ?_ ?_)|(refine zi8 (by with_reducible assumption) ?_ ?_)|omega|(·simp)|(·(simp;omega))))
 have hr1:=hr1.below hb1 (by first|exact Nat.le_refl _|simp)
 by_cases hn1:r1<0
 ·go_wp2
  go_ret
  exact⟨-1,rfl,.inl (by omega),by omega,by exact by0⟩
 have hq1:=hr1s.resolve_left hn1
 go_wp2_with fail
 go_at_call 10
 refine ((szFnS_all (E.Ty.mk_lst Tryz.underlying23 (by kernel_rfl) gx1.1 gx1.2)) _ _ hr1 (by omega) (by omega)).mono ?_;rintro e w2 ⟨r2,rfl,hr2s,hl2,hb2⟩
 have hz2:=hb2.size;(try simp only [World.size_alloc] at hz2)
 by_cases hn2:r2<0
 ·go_wp2
  go_ret
  exact⟨-1,rfl,.inl (by omega),by omega,by exact by0⟩
 have hq2:=hr2s.resolve_left hn2
 go_wp2
 go_ret
 refine⟨_,rfl,.inr ?_,by omega,by exact by0⟩
 show _=_
 rw [HSZ.out]
 have e1:=hq1.out
 have e2:=hq2.out
 push_cast
 omega
set_option maxRecDepth 100000 in
set_option maxHeartbeats 1000000 in
theorem zy8 {e:E}(ht:e.Ty Tryz.prog 25):To 6 31 e:=by
 have HT0:=Lib.hid ht
 obtain⟨x0A,x0c,x0l,x1A,x1c,x1l,rfl,gx0,gx1,-⟩:=zg5 ht
 intro w hr hsz
 have hsz':((E.lst 6 60 x0A x0c x0l).sz+((E.lst 3 63 x1A x1c x1l).sz+0))≤1048576:=hsz
 have hs0:(E.lst 6 60 x0A x0c x0l).sz≤1048576:=by omega
 have hs1:(E.lst 3 63 x1A x1c x1l).sz≤1048576:=by omega
 clear hsz hsz'
 have hr0:=hr.fld (i:=0) rfl
 have ty0:(E.lst 6 60 x0A x0c x0l).Ty Tryz.prog 22:=E.Ty.mk_lst Tryz.underlying22 (by kernel_rfl) gx0.1 gx0.2
 have HC0:=Lib.hid (zn18 ty0)
 clear ty0
 have hr1:=hr.fld (i:=1) rfl
 have ty1:(E.lst 3 63 x1A x1c x1l).Ty Tryz.prog 23:=E.Ty.mk_lst Tryz.underlying23 (by kernel_rfl) gx1.1 gx1.2
 have HC1:=Lib.hid (toFnS_all ty1)
 clear ty1
 change Calls _ _ #[.agg #[.slice x0A x0l.length x0c,.slice x1A x1l.length x1c]] w _
 go_enter Tryz.func6,Tryz.ntmps6
 go_wp2_with fail
 go_at_call 14
 refine (HC0.out _ (((hr0.alloc _).alloc _).alloc _) hs0).mono ?_;rintro e w1 ⟨v1,he,HD1,ht1,ho1,hn1,hb1⟩
 have HT1:=Lib.hid ht1
 have HN1:=Lib.hid hn1
 obtain⟨A1,q1,l1,rfl,-,-⟩:=ht1.lst_ Tryz.underlying28 (k:=6) (by kernel_rfl)
 obtain rfl:e=.returned (.slice A1 l1.length q1):=he
 clear hn1 ht1
 have B0_1:w1.heap[w.heap.size]? = some (.cells #[.slice x0A x0l.length x0c,.slice x1A x1l.length x1c] 25 (0,0)):=(hb1.block (w.heap.size) (by simp;omega)).trans zv6.1
 have B1_1:w1.heap[w.heap.size+1]? = some (.cells #[.slice none 0 0,.slice none 0 0] 31 (0,0)):=(hb1.block (w.heap.size+1) (by simp)).trans zv6.2.1
 have B2_1:w1.heap[w.heap.size+1+1]? = some (.cells #[.slice none 0 0,.slice none 0 0] 31 (0,0)):=(hb1.block (w.heap.size+1+1) (by simp)).trans zv6.2.2
 have hz1:=hb1.size;simp only [World.size_alloc] at hz1
 have hB1:Below w.heap.size w w1:=(by exact by0:Below w.heap.size w _).trans (hb1.mono (by simp;omega))
 have ho1:=ho1.wider (lo':=w.heap.size+1+1+1) (by simp) (Nat.le_refl _)
 have c1_0:w1.cell? ⟨w.heap.size,0,none⟩=some (.slice x0A x0l.length x0c):=zi1 B0_1 rfl
 have c1_1:w1.cell? ⟨w.heap.size,1,none⟩=some (.slice x1A x1l.length x1c):=zi1 B0_1 rfl
 have d1_0:w1.cell? ⟨w.heap.size+1+1,0,none⟩=some (.slice none 0 0):=zi1 B2_1 rfl
 have d1_1:w1.cell? ⟨w.heap.size+1+1,1,none⟩=some (.slice none 0 0):=zi1 B2_1 rfl
 have f1:=zc5 B2_1
 go_wp2_with fail
 have hK1:Kp (w.heap.size+1+1) (w.heap.size+1+1+1) w1 (w1.setCell ⟨w.heap.size+1+1,0,none⟩ (.slice A1 l1.length q1)):=(by repeat (first|(with_reducible exact Kp.refl _ _ _)|(refine Kp.set ?_ (by first|omega|(dsimp only;omega)|(simp;omega)) (by first|omega|(dsimp only;omega)|(simp;omega)) _)))
 have A0_1:=(hK1.block (w.heap.size) (by omega) (.inl (by omega))).trans B0_1
 have A1_1:=(hK1.block (w.heap.size+1) (by omega) (.inl (by omega))).trans B1_1
 have A2_1:(w1.setCell ⟨w.heap.size+1+1,0,none⟩ (.slice A1 l1.length q1)).heap[w.heap.size+1+1]? = some (.cells #[.slice A1 l1.length q1,.slice none 0 0] 31 (0,0)):=by simp only [zt4,B2_1];simp [setAt]
 have hW1:(w1.setCell ⟨w.heap.size+1+1,0,none⟩ (.slice A1 l1.length q1)).heap.size=w1.heap.size:=by simp
 have hBW1:Below w.heap.size w (w1.setCell ⟨w.heap.size+1+1,0,none⟩ (.slice A1 l1.length q1)):=hB1.trans (hK1.below (by omega) (by omega))
 have ho1:=ho1.kp hK1 (.inr (by omega))
 clear c1_0 c1_1 d1_0 d1_1 f1 B0_1 B1_1 B2_1 hK1 hB1
 generalize (w1.setCell ⟨w.heap.size+1+1,0,none⟩ (.slice A1 l1.length q1))=W1 at *
 go_at_call 15
 refine (HC1.out _ (E.In.below hr1 hBW1 (Nat.le_refl _)) hs1).mono ?_;rintro e w2 ⟨v2,he,HD2,ht2,ho2,hn2,hb2⟩
 have HT2:=Lib.hid ht2
 have HN2:=Lib.hid hn2
 obtain⟨A2,q2,l2,rfl,-,-⟩:=ht2.lst_ Tryz.underlying29 (k:=3) (by kernel_rfl)
 obtain rfl:e=.returned (.slice A2 l2.length q2):=he
 clear hn2 ht2
 have B0_2:=(hb2.block (w.heap.size) (by omega)).trans A0_1
 have B1_2:=(hb2.block (w.heap.size+1) (by omega)).trans A1_1
 have B2_2:=(hb2.block (w.heap.size+1+1) (by omega)).trans A2_1
 have hz2:=hb2.size
 have hB2:Below w.heap.size w w2:=hBW1.trans (hb2.mono (by omega))
 have ho1:=ho1.below hb2 (by omega)
 have ho2:=ho2.wider (lo':=w1.heap.size) (by omega) (Nat.le_refl _)
 clear A0_1 A1_1 A2_1
 have c2_0:w2.cell? ⟨w.heap.size,0,none⟩=some (.slice x0A x0l.length x0c):=zi1 B0_2 rfl
 have c2_1:w2.cell? ⟨w.heap.size,1,none⟩=some (.slice x1A x1l.length x1c):=zi1 B0_2 rfl
 have d2_0:w2.cell? ⟨w.heap.size+1+1,0,none⟩=some (.slice A1 l1.length q1):=zi1 B2_2 rfl
 have d2_1:w2.cell? ⟨w.heap.size+1+1,1,none⟩=some (.slice none 0 0):=zi1 B2_2 rfl
 have f2:=zc5 B2_2
 have r0':=zi1 B1_2 (o:=0) rfl;have r1':=zi1 B1_2 (o:=1) rfl
 have fr':=zc5 B1_2
 go_wp2
 have OWN:Owns w2 (w.heap.size+1+1+1) w2.heap.size [(E.lst 6 47 A1 q1 l1),(E.lst 3 41 A2 q2 l2)]:=(Owns.cons (mid:=w1.heap.size) ho1 HN1.out (Owns.cons (mid:=w2.heap.size) ho2 HN2.out Owns.nil (by omega) (by omega)) (by omega) (by omega))
 refine bodyPost_ret (v:=.agg #[.slice A1 l1.length q1,.slice A2 l2.length q2]) (zk7 (t:=31) (fr:=(0,0)) rfl rfl Tryz.underlying31 (by kernel_rfl) ?_) rfl ⟨(E.agg [(E.lst 6 47 A1 q1 l1),(E.lst 3 41 A2 q2 l2)]),rfl,?_,E.Ty.mk_agg Tryz.underlying31 (E.TyF.mk_cons HT1.out (E.TyF.mk_cons HT2.out (E.TyF.mk_nil))),?_,?_,?_⟩
 ·simp only [zt4,B1_2,B2_2];simp [setAt]
 ·show E.d _=E.d _
  simp only [E.d,E.dL]
  have y1:=HD1.out;simp only [E.d,E.dL] at y1
  have y2:=HD2.out;simp only [E.d,E.dL] at y2
  simp only [E.agg.injEq,List.cons.injEq,E.lst.injEq,E.int.injEq,E.str.injEq,E.bool.injEq,true_and,and_true] at *
  simp [*]
 ·exact ((E.Ho.mk_agg OWN.1).kp (lo':=w.heap.size+1) (hi':=w.heap.size+1+1+1) (by repeat (first|(with_reducible exact Kp.refl _ _ _)|(refine Kp.set ?_ (by first|omega|(dsimp only;omega)|(simp;omega)) (by first|omega|(dsimp only;omega)|(simp;omega)) _))) (.inr (by omega))).wider (by omega) (by simp)
 ·exact OWN.2
 ·exact hB2.trans (Kp.below (lo:=w.heap.size+1) (hi:=w.heap.size+1+1+1) (by repeat (first|(with_reducible exact Kp.refl _ _ _)|(refine Kp.set ?_ (by first|omega|(dsimp only;omega)|(simp;omega)) (by first|omega|(dsimp only;omega)|(simp;omega)) _))) (by omega) (by omega))
set_option maxRecDepth 100000 in
set_option maxHeartbeats 1000000 in
theorem zz21 {e e':E}(ht:e.Ty Tryz.prog 31)(ht':e'.Ty Tryz.prog 31):Eq 8 e e':=by
 obtain⟨x0A,x0c,x0l,x1A,x1c,x1l,rfl,gx0,gx1,-⟩:=zh3 ht
 obtain⟨y0A,y0c,y0l,y1A,y1c,y1l,rfl,gy0,gy1,-⟩:=zh3 ht'
 intro hd w hr hr'
 simp only [E.d,E.dL,E.agg.injEq,List.cons.injEq,E.int.injEq,E.str.injEq,E.bool.injEq,E.lst.injEq,true_and,and_true] at hd
 obtain⟨hd0,hd1⟩:=hd
 have hr0:=((hr.fld (i:=0) rfl).alloc (.cells #[.slice x0A x0l.length x0c,.slice x1A x1l.length x1c] 31)).alloc (.cells #[.slice y0A y0l.length y0c,.slice y1A y1l.length y1c] 31)
 have hs0:=((hr'.fld (i:=0) rfl).alloc (.cells #[.slice x0A x0l.length x0c,.slice x1A x1l.length x1c] 31)).alloc (.cells #[.slice y0A y0l.length y0c,.slice y1A y1l.length y1c] 31)
 have t0:(E.lst 6 47 x0A x0c x0l).Ty Tryz.prog 28:=E.Ty.mk_lst Tryz.underlying28 (by kernel_rfl) gx0.1 gx0.2
 have u0:(E.lst 6 47 y0A y0c y0l).Ty Tryz.prog 28:=E.Ty.mk_lst Tryz.underlying28 (by kernel_rfl) gy0.1 gy0.2
 have HC0:=Lib.hid (zo18 t0 u0 (by simp only [E.d,E.dL,E.agg.injEq,List.cons.injEq,E.int.injEq,E.str.injEq,E.bool.injEq,E.lst.injEq,true_and,and_true];exact hd0))
 clear t0 u0
 have hr1:=((hr.fld (i:=1) rfl).alloc (.cells #[.slice x0A x0l.length x0c,.slice x1A x1l.length x1c] 31)).alloc (.cells #[.slice y0A y0l.length y0c,.slice y1A y1l.length y1c] 31)
 have hs1:=((hr'.fld (i:=1) rfl).alloc (.cells #[.slice x0A x0l.length x0c,.slice x1A x1l.length x1c] 31)).alloc (.cells #[.slice y0A y0l.length y0c,.slice y1A y1l.length y1c] 31)
 have t1:(E.lst 3 41 x1A x1c x1l).Ty Tryz.prog 29:=E.Ty.mk_lst Tryz.underlying29 (by kernel_rfl) gx1.1 gx1.2
 have u1:(E.lst 3 41 y1A y1c y1l).Ty Tryz.prog 29:=E.Ty.mk_lst Tryz.underlying29 (by kernel_rfl) gy1.1 gy1.2
 have HC1:=Lib.hid (eqFnS_all t1 u1 (by simp only [E.d,E.dL,E.agg.injEq,List.cons.injEq,E.int.injEq,E.str.injEq,E.bool.injEq,E.lst.injEq,true_and,and_true];exact hd1))
 clear t1 u1
 clear hd0 hd1
 change Calls _ _ #[.agg #[.slice x0A x0l.length x0c,.slice x1A x1l.length x1c],.agg #[.slice y0A y0l.length y0c,.slice y1A y1l.length y1c]] w _
 go_enter Tryz.func8,Tryz.ntmps8
 go_wp2_with fail
 go_at_call 20
 refine (HC0.out _ hr0 hs0).mono ?_;rintro e w1 ⟨rfl,hb1⟩
 have hz1:=hb1.size;(try simp only [World.size_alloc] at hz1)
 have c1_1:w1.cell? ⟨w.heap.size,1,none⟩=some (.slice x1A x1l.length x1c):=zo1 hb1 (zo3 (zg4 rfl) (by simp)) (by simp;omega)
 have d1_1:w1.cell? ⟨w.heap.size+1,1,none⟩=some (.slice y1A y1l.length y1c):=zo1 hb1 (cell_new' rfl (by simp)) (by simp)
 have hr1:=hr1.below hb1 (by first|exact Nat.le_refl _|simp)
 have hs1:=hs1.below hb1 (by first|exact Nat.le_refl _|simp)
 go_wp2_with fail
 go_at_call 21
 refine (HC1.out _ hr1 hs1).mono ?_;rintro e w2 ⟨rfl,hb2⟩
 have hz2:=hb2.size;(try simp only [World.size_alloc] at hz2)
 clear c1_1 d1_1
 go_wp2
 go_ret
 exact⟨rfl,by0⟩
set_option maxRecDepth 100000
def strsL (ns:List ByteArray):List E:=ns.map fun n=>.str n
def kwL:List E:=strsL [⟨#[98,101,103,105,110]⟩,⟨#[101,110,100]⟩,⟨#[102,117,110,99]⟩,⟨#[112,114,105,110,116]⟩,⟨#[105,102]⟩,⟨#[101,108,115,101]⟩,⟨#[119,104,105,108,101]⟩,⟨#[102,111,114]⟩,⟨#[105,110]⟩,⟨#[110,101,120,116]⟩,⟨#[101,120,105,116]⟩,⟨#[114,101,116,117,114,110]⟩,⟨#[100,101,108,101,116,101]⟩,⟨#[108,101,110,103,116,104]⟩,⟨#[115,117,98,115,116,114]⟩,⟨#[105,110,100,101,120]⟩,⟨#[117,112,112,101,114]⟩,⟨#[103,115,117,98]⟩,⟨#[110,114]⟩,⟨#[110,102]⟩]
def opL2:List E:=strsL [⟨#[43]⟩,⟨#[45]⟩,⟨#[42]⟩,⟨#[47]⟩,⟨#[37]⟩,⟨#[46]⟩,⟨#[60]⟩,⟨#[60,61]⟩,⟨#[61,61]⟩,⟨#[33,61]⟩,⟨#[62]⟩,⟨#[62,61]⟩,⟨#[38,38]⟩,⟨#[124,124]⟩]
def hasB (l:List E)(s:ByteArray):Bool:=l.any fun e=>s.toList==(strB e).toList
def nameK (s:ByteArray):Bool:=nameW s&&!hasB kwL s
def emB (s:ByteArray):Bool:=s.toList==(ByteArray.mk #[]).toList
def headB (k n:Int)(s:ByteArray)(m:Int):Bool :=
 if k=1 then inR n 0 2147483647&&(emB s&&(m==0))
 else decide (n=0)&&(
  if k=2 then textB 39 s&&(m==0)
  else if k=3 then nameK s&&(m==0)
  else if k=4∨k=9 then nameK s&&(m==1)
  else if k=5∨k=7∨k=8∨k=12∨k=17 then emB s&&(m==1)
  else if k=6 then hasB opL2 s&&(m==2)
  else if k=10 then (m==1)&&rexN s
  else if k=18 then (m==2)&&rexN s
  else if k=11 then nameK s&&decide (m≤4)
  else if k=13 then emB s&&(m==3)
  else if k=14∨k=15 then emB s&&(m==0)
  else if k=16 then emB s&&(m==2)
  else false)
def headE (e:E):Bool:=match e with | .agg [.int _ k,.int _ n,.str s,.lst _ _ _ _ l]=>headB k n s l.length|_=>false
def partE (e:E):List E:=match e with | .agg [_,_,_,.lst _ _ _ _ l]=>l|_=>[]
theorem zr6 (e x:E)(h:x∈partE e):x.sz<e.sz:=by
 unfold partE at h
 split at h
 ·have:=E.szL_mem h
  simp only [E.sz,E.szL]
  have h2:0<List.length _:=List.length_pos_of_mem h
  omega
 ·cases h
def exprI (f:Nat)(e:E):Nat:=cntI 100 headE partE f e
def exprS (f:Nat)(e:E):Nat:=cntS 100 partE f e
def okX (e:E):Bool:=okE headE partE e
def exprB (e:E):Bool:=decide (exprS 10 e≤100)&&okX e
theorem exprB_I (e:E):exprB e=decide (exprI 10 e≤100):=(cnt_ok (by omega) zr6 10 e).symm
def kindX (e:E):Int:=match e with | .agg (.int _ k :: _)=>k|_=>0
def shp (n na nb j:Int)(a b:Bool):Bool:=(n==j)&&((a||(na==0))&&(b||(nb==0)))
def shapeB (k:Int)(s t:ByteArray)(n na nb:Int)(c:Bool):Bool :=
 (decide (k=7)||emB t)&&(
   if k=1 then inR n 1 5&&(emB s&&((na==0)&&(nb==0)))
   else if k=2∨k=11 then nameK s&&shp n na nb 1 false false
   else if k=3 then nameK s&&shp n na nb 2 false false
   else if k=4 then emB s&&shp n na nb 2 false false
   else if k=5 then emB s&&shp n na nb 1 true true
   else if k=6 then emB s&&shp n na nb 1 true false
   else if k=7 then nameK s&&(nameK t&&shp n na nb 0 true false)
   else if k=8 then emB s&&shp n na nb 0 false false
   else if k=9∨k=10 then emB s&&shp n na nb 1 false false
   else if k=12 then emB s&&(shp n na nb 1 false false&&c)
   else false)
def callX (xs:List E):Bool:=kindX (xs.headD (.int .i64 0))==11
def sheadB (k:Int)(s t:ByteArray)(xs:List E)(na nb:Nat):Bool:=xs.all exprB&&shapeB k s t xs.length na nb (callX xs)
def sheadE (e:E):Bool:=match e with | .agg [.int _ k,.str s,.str t,.lst _ _ _ _ xs,.lst _ _ _ _ la,.lst _ _ _ _ lb]=>sheadB k s t xs la.length lb.length|_=>false
def kidS (e:E):List E:=match e with | .agg [_,_,_,_,.lst _ _ _ _ la,.lst _ _ _ _ lb]=>la++lb|_=>[]
theorem zz8 (e x:E)(h:x∈kidS e):x.sz<e.sz:=by
 unfold kidS at h
 split at h
 ·simp only [E.sz,E.szL]
  rcases List.mem_append.1 h with h|h
  ·have:=E.szL_mem h
   have h2:0<List.length _:=List.length_pos_of_mem h
   omega
  ·have:=E.szL_mem h
   have h2:0<List.length _:=List.length_pos_of_mem h
   omega
 ·cases h
def stmtI (f:Nat)(e:E):Nat:=cntI 60 sheadE kidS f e
def stmtS (f:Nat)(e:E):Nat:=cntS 60 kidS f e
def okY (e:E):Bool:=okE sheadE kidS e
def stmtB (e:E):Bool:=decide (stmtS 5 e≤60)&&okY e
theorem stmtB_I (e:E):stmtB e=decide (stmtI 5 e≤60):=(cnt_ok (by omega) zz8 5 e).symm
def bodyB (l:List E):Bool:=decide (l.length≤20)&&l.all stmtB
def zeroX (e:E):Bool:=match e with | .agg [.int _ k,.int _ n,.str s,.lst _ _ _ _ l]=>decide (k=0)&&(decide (n=0)&&(emB s&&decide (l.length=0)))|_=>false
end Go.Proofs.YtnjfnhoipnbpeaaGreatDoor
namespace Go.Proofs.YtnjfnhoipnbpeaaGreatDoor
open Go.RowKit Go.Shelf
set_option maxRecDepth 100000
def laysM171_ren:Go.Shelf.Ren:=⟨fun|171=>72|243=>97|246=>108|283=>118|284=>119|285=>120|286=>121|129=>126|317=>125|318=>127|319=>128|320=>129|337=>135|338=>136|n=>n,fun|3=>3|9=>9|2=>2|4=>4|171=>132|0=>0|53=>133|37=>79|5=>5|173=>136|212=>145|51=>146|20=>20|213=>147|46=>148|232=>165|233=>166|n=>n,fun|17=>1|18=>2|19=>3|n=>n⟩
theorem laysM171:Go.Proofs.LaysM.n171 Tryz.prog laysM171_ren:={
 mixed:=by kernel_rfl
 f129:=Tryz.func126.trans (congrArg some (by kernel_rfl))
 f171:=Tryz.func72.trans (congrArg some (by kernel_rfl))
 f243:=Tryz.func97.trans (congrArg some (by kernel_rfl))
 f246:=Tryz.func108.trans (congrArg some (by kernel_rfl))
 f283:=Tryz.func118.trans (congrArg some (by kernel_rfl))
 f284:=Tryz.func119.trans (congrArg some (by kernel_rfl))
 f285:=Tryz.func120.trans (congrArg some (by kernel_rfl))
 f286:=Tryz.func121.trans (congrArg some (by kernel_rfl))
 f317:=Tryz.func125.trans (congrArg some (by kernel_rfl))
 f318:=Tryz.func127.trans (congrArg some (by kernel_rfl))
 f319:=Tryz.func128.trans (congrArg some (by kernel_rfl))
 f320:=Tryz.func129.trans (congrArg some (by kernel_rfl))
 f337:=Tryz.func135.trans (congrArg some (by kernel_rfl))
 f338:=Tryz.func136.trans (congrArg some (by kernel_rfl))
 t0:=Tryz.underlying0
 a0:=Tryz.isAgg0
 z0:=Tryz.sizeOf0
 v0:=Tryz.zeroValue0
 t2:=Tryz.underlying2
 a2:=Tryz.isAgg2
 z2:=Tryz.sizeOf2
 v2:=Tryz.zeroValue2
 t3:=Tryz.underlying3
 a3:=Tryz.isAgg3
 z3:=Tryz.sizeOf3
 v3:=Tryz.zeroValue3
 t4:=Tryz.underlying4
 a4:=Tryz.isAgg4
 z4:=Tryz.sizeOf4
 v4:=Tryz.zeroValue4
 t5:=Tryz.underlying5
 a5:=Tryz.isAgg5
 z5:=Tryz.sizeOf5
 v5:=Tryz.zeroValue5
 t9:=Tryz.underlying9
 a9:=Tryz.isAgg9
 z9:=Tryz.sizeOf9
 v9:=Tryz.zeroValue9
 t20:=Tryz.underlying20
 a20:=Tryz.isAgg20
 z20:=Tryz.sizeOf20
 v20:=Tryz.zeroValue20
 t37:=Tryz.underlying79
 a37:=Tryz.isAgg79
 z37:=Tryz.sizeOf79
 v37:=Tryz.zeroValue79
 t46:=Tryz.underlying148
 a46:=Tryz.isAgg148
 z46:=Tryz.sizeOf148
 v46:=Tryz.zeroValue148
 t51:=Tryz.underlying146
 a51:=Tryz.isAgg146
 z51:=Tryz.sizeOf146
 v51:=Tryz.zeroValue146
 t53:=Tryz.underlying133
 a53:=Tryz.isAgg133
 z53:=Tryz.sizeOf133
 v53:=Tryz.zeroValue133
 t171:=Tryz.underlying132
 a171:=Tryz.isAgg132
 z171:=Tryz.sizeOf132
 v171:=Tryz.zeroValue132
 t173:=Tryz.underlying136
 a173:=Tryz.isAgg136
 z173:=Tryz.sizeOf136
 v173:=Tryz.zeroValue136
 t212:=Tryz.underlying145
 a212:=Tryz.isAgg145
 z212:=Tryz.sizeOf145
 v212:=Tryz.zeroValue145
 t213:=Tryz.underlying147
 a213:=Tryz.isAgg147
 z213:=Tryz.sizeOf147
 t232:=Tryz.underlying165
 a232:=Tryz.isAgg165
 z232:=Tryz.sizeOf165
 v232:=Tryz.zeroValue165
 t233:=Tryz.underlying166
 a233:=Tryz.isAgg166
 z233:=Tryz.sizeOf166
 v233:=Tryz.zeroValue166
 g17:=by kernel_rfl
 g18:=by kernel_rfl
 g19:=by kernel_rfl
 i0:=by kernel_rfl
 i2:=by kernel_rfl
 i3:=by kernel_rfl
 i4:=by kernel_rfl
 i5:=by kernel_rfl
 i9:=by kernel_rfl
 i20:=by kernel_rfl
 i37:=by kernel_rfl
 i46:=by kernel_rfl
 i51:=by kernel_rfl
 i53:=by kernel_rfl
 i171:=by kernel_rfl
 i173:=by kernel_rfl
 i212:=by kernel_rfl
 i232:=by kernel_rfl
 i233:=by kernel_rfl
 m17:=by kernel_rfl
 m18:=by kernel_rfl
 m19:=by kernel_rfl }
theorem zn11 {P:Program}{f:FuncId}{ins:List AV}{us:List Value}{v:Value}(he:entB P f=true)(hv:scal v=true)(hin:∀(w:World) (St:Nat→Prop) (φ:Nat→Lc) (K:Nat→Prop) (us':List Value),VRL w St φ K ins us'→us'=us)
 (hc:∀w,Gl w→Calls P f us.toArray w fun e w'=>e=.returned v∧Below w.heap.size w w'):Ctr P f ins [] (.c (.v v)) []:=by
 refine⟨he,fun w St φ F us' hent=>?_⟩
 obtain rfl:=hin _ _ _ _ _ hent.args
 refine (hc w hent.gl.1).mono ?_
 rintro e w' ⟨rfl,hb⟩
 refine⟨_,_,v,fun _=>False,fun _=>[],[],⟨rfl,rfl⟩,rfl,⟨⟨hb.os,hb.tape,hb.output,hb.size,fun b hlt _=>.inl (hb.block b hlt)⟩,?_,by simp,rfl,fun i cs hi=>by simp at hi,fun i hi=>by simp at hi,fun i hi=>by simp at hi,fun i j hi=>by simp at hi,fun i b lo hi=>by simp at hi,fun b hb=>by simp at hb,fun b hb=>hb.elim⟩⟩
 simp only [VRF,CR]
 exact⟨trivial,hv,trivial⟩
def numT (n:Int):ByteArray:=⟨(Lib.itoa n).toArray⟩
theorem strItoa_c {n:Int}(h0 : -9223372036854775808≤n)(h1:n≤9223372036854775807):Ctr Tryz.prog 72 [.c (.v (.int .i64 n))] [] (.c (.v (.string (numT n)))) []:=by
 refine zn11 (us:=[.int .i64 n]) (by kernel_rfl) rfl (fun w St φ K us' h=>?_) fun w gw=>?_
 ·simp only [VRL,VR,CR] at h
  obtain⟨u,us1,rfl,⟨rfl,-⟩,rfl⟩:=h
  rfl
 ·refine (Go.Proofs.Any.strconv_Itoa laysM171 n h0 h1 w (zz22 gw)).mono ?_
  rintro e w' ⟨rfl,k,os,rfl⟩
  refine⟨rfl,rfl,rfl,rfl,by simp [Sort.grow],fun j hj=>?_⟩
  simp only [Sort.grow,World.heap_drewN]
  rw [Array.getElem?_append_left hj]
theorem digits_c {n:Int}(h0 : -9223372036854775808≤n)(h1:n≤9223372036854775807):Ctr Tryz.prog 43 [.c (.v (.int .i64 n))] [] (.c (.v (.string (numT n)))) []:=by
 have hc:=strItoa_c h0 h1
 refine ze1 Tryz.func43 rfl rfl ?_
 repeat' (first|refine zd ?_|refine za fun C=>?_|refine zb ?_|refine zm2 ?_|refine x_cal ?_)
 refine zh ?_
 exact ret0 rfl zg1 ⟨rfl,rfl⟩
end Go.Proofs.YtnjfnhoipnbpeaaGreatDoor
namespace Go.Proofs.YtnjfnhoipnbpeaaGreatDoor
open Go.RowKit
set_option maxRecDepth 100000
theorem tdiv_neg (k:Nat):(-(k:Int)).tdiv 10 = -((k / 10:Nat):Int):=by rw [Int.neg_tdiv];rfl
theorem tmod_neg (k:Nat):(-(k:Int)).tmod 10 = -((k % 10:Nat):Int):=by rw [Int.neg_tmod];rfl
theorem zd20 {k:Nat}(h:0<k):numT (-(k:Int))=⟨(45 :: Lib.decDigits k).toArray⟩:=by
 unfold numT Lib.itoa
 rw [if_pos (by omega)]
 simp
theorem zz9 (k:Nat):numT (k:Int)=⟨(Lib.decDigits k).toArray⟩:=by
 unfold numT Lib.itoa
 rw [if_neg (by omega)]
 simp
theorem zp18 {k:Nat}(h:¬k<10):Lib.decDigits k=Lib.decDigits (k / 10)++[UInt8.ofNat (48+k % 10)]:=by
 rw [Lib.decDigits,dif_neg h]
theorem ze8 {k:Nat}(h:k<10):Lib.decDigits k=[UInt8.ofNat (48+k)]:=by
 rw [Lib.decDigits,dif_pos h]
theorem zq18 {n:Int}(h0 : -9223372036854775808≤n)(h1:n≤9223372036854775807):(numT n).size≤20:=by
 have key:∀(f k:Nat),k<10 ^ (f+1)→(Lib.decDigits k).length≤f+1:=by
  intro f
  induction f with
  | zero=>intro k hk;rw [ze8 (by simpa using hk)];simp
  | succ f ih =>
   intro k hk
   by_cases h:k<10
   ·rw [ze8 h];simp
   ·rw [zp18 h,List.length_append]
    have:=ih (k / 10) (by rw [Nat.pow_succ] at hk;omega)
    simp only [List.length_cons,List.length_nil];omega
 unfold numT Lib.itoa
 show (List.toArray _).size≤20
 rw [List.size_toArray]
 split
 ·have:=key 18 n.natAbs (by omega)
  rw [List.length_cons];omega
 ·have:=key 18 n.toNat (by omega)
  omega
theorem u8of {z:Int}{d:Nat}(e:z=((48+d:Nat):Int))(h:d<10):UInt8.ofNat (IntKind.u8.wrap (IntKind.i64.wrap z)).toNat=UInt8.ofNat (48+d):=by
 subst e
 rw [zu9 (by omega) (by omega),IntKind.wrap_u8]
 have:(((48+d:Nat):Int) % 256).toNat=48+d:=by omega
 rw [this]
theorem cat45 (x:List UInt8)(b:UInt8):(ByteArray.mk #[45])++⟨x.toArray⟩++⟨[b].toArray⟩=⟨(45 :: (x++[b])).toArray⟩:=by
 rw [show (ByteArray.mk #[45])=⟨[45].toArray⟩ from rfl,ByteArray.mk_append_mk,ByteArray.mk_append_mk];rfl
theorem l2Num_n (m:Nat):∀n:Int,n.natAbs≤m→-9223372036854775808≤n→n≤9223372036854775807→Ctr Tryz.prog 30 [.c (.v (.int .i64 n))] [] (.c (.v (.string (numT n)))) []:=by
 induction m using Nat.strongRecOn with
 | _ m ih =>
 intro n hm h0 h1
 rcases Int.lt_or_le n (-9) with h|h
 ·obtain⟨k,rfl⟩:∃k:Nat,n = -(k:Int):=⟨n.natAbs,by omega⟩
  have hc:=ih (k / 10) (by omega) ((k / 10:Nat):Int) (by omega) (by omega) (by omega)
  clear ih
  have e1:IntKind.i64.wrap (0-IntKind.i64.wrap ((-(k:Int)).tdiv 10))=((k / 10:Nat):Int):=by
   rw [tdiv_neg,zu9 (z := -((k / 10:Nat):Int)) (by omega) (by omega),zu9 (by omega) (by omega)];omega
  have hc':Ctr Tryz.prog 30 [.c (.v (.int .i64 (IntKind.i64.wrap (0-IntKind.i64.wrap ((-(k:Int)).tdiv 10)))))] [] (.c (.v (.string (numT ((k / 10:Nat):Int))))) []:=by rw [e1];exact hc
  clear hc
  refine ze1 Tryz.func30 rfl rfl ?_
  have hz:=zq18 (n:=((k / 10:Nat):Int)) (by omega) (by omega)
  repeat' (first|refine zd ?_|refine ze ?_|refine zg ?_|refine za fun C=>?_|refine zn (by kernel_rfl) (by kernel_rfl) fun C=>?_|refine zb ?_|refine zm2 ?_|refine x_bs ?_|refine x_cat ?_|refine x_cal ?_|(refine zy2 (by rfl) ?_ ?_<;>intro hC<;>(try cases hC)))
  all_goals first
   | (exfalso;clear hc' e1;simp at *;omega)
   | skip
  refine zh ?_
  refine ret0 rfl zg1 ⟨?_,rfl⟩
  refine congrArg (fun s=>AV.c (AC.v (Value.string s))) ?_
  rw [u8of (d:=k % 10) (by rw [tmod_neg];omega) (by omega),zz9,cat45,zd20 (by omega),zp18 (k:=k) (by omega)]
 ·rcases Int.lt_or_le n 0 with h2|h2
  ·obtain⟨k,rfl⟩:∃k:Nat,n = -(k:Int):=⟨n.natAbs,by omega⟩
   clear ih
   refine ze1 Tryz.func30 rfl rfl ?_
   repeat' (first|refine zd ?_|refine ze ?_|refine zg ?_|refine za fun C=>?_|refine zn (by kernel_rfl) (by kernel_rfl) fun C=>?_|refine zb ?_|refine zm2 ?_|refine x_bs ?_|(refine zy2 (by rfl) ?_ ?_<;>intro hC<;>(try cases hC)))
   all_goals first
    | (exfalso;simp at *;omega)
    | skip
   refine zh ?_
   refine ret0 rfl zg1 ⟨?_,rfl⟩
   refine congrArg (fun s=>AV.c (AC.v (Value.string s))) ?_
   rw [u8of (d:=k) (by omega) (by omega),zd20 (by omega),ze8 (k:=k) (by omega)];rfl
  ·obtain⟨k,rfl⟩:∃k:Nat,n=(k:Int):=⟨n.natAbs,by omega⟩
   rcases Nat.lt_or_ge k 10 with h3|h3
   ·clear ih
    refine ze1 Tryz.func30 rfl rfl ?_
    repeat' (first|refine zd ?_|refine ze ?_|refine zg ?_|refine za fun C=>?_|refine zn (by kernel_rfl) (by kernel_rfl) fun C=>?_|refine zb ?_|refine zm2 ?_|refine x_bs ?_|(refine zy2 (by rfl) ?_ ?_<;>intro hC<;>(try cases hC)))
    all_goals first
     | (exfalso;simp at *;omega)
     | skip
    refine zh ?_
    refine ret0 rfl zg1 ⟨?_,rfl⟩
    refine congrArg (fun s=>AV.c (AC.v (Value.string s))) ?_
    rw [u8of (d:=k) (by omega) (by omega),zz9,ze8 (k:=k) (by omega)]
   ·have hc:=ih (k / 10) (by omega) ((k / 10:Nat):Int) (by omega) (by omega) (by omega)
    clear ih
    have e1:IntKind.i64.wrap ((k:Int).tdiv 10)=((k / 10:Nat):Int):=by
     rw [show ((k:Int).tdiv 10)=((k / 10:Nat):Int) from rfl,zu9 (by omega) (by omega)]
    have hc':Ctr Tryz.prog 30 [.c (.v (.int .i64 (IntKind.i64.wrap ((k:Int).tdiv 10))))] [] (.c (.v (.string (numT ((k / 10:Nat):Int))))) []:=by rw [e1];exact hc
    clear hc
    refine ze1 Tryz.func30 rfl rfl ?_
    have hz:=zq18 (n:=((k / 10:Nat):Int)) (by omega) (by omega)
    repeat' (first|refine zd ?_|refine ze ?_|refine zg ?_|refine za fun C=>?_|refine zn (by kernel_rfl) (by kernel_rfl) fun C=>?_|refine zb ?_|refine zm2 ?_|refine x_bs ?_|refine x_cat ?_|refine x_cal ?_|(refine zy2 (by rfl) ?_ ?_<;>intro hC<;>(try cases hC)))
    all_goals first
     | (exfalso;clear hc' e1;simp at *;omega)
     | skip
    refine zh ?_
    refine ret0 rfl zg1 ⟨?_,rfl⟩
    refine congrArg (fun s=>AV.c (AC.v (Value.string s))) ?_
    rw [u8of (d:=k % 10) (by rw [show ((k:Int).tmod 10)=((k % 10:Nat):Int) from rfl];omega) (by omega),zz9,zz9,zp18 (k:=k) (by omega)]
    exact ByteArray.mk_append_mk _ _
def joC (ts:List ByteArray):ByteArray:=joinB (ts.map E.str) ⟨#[44,32]⟩
def atB (ts:List ByteArray)(k:Nat):ByteArray:=ts.getD k ByteArray.empty
def tNode (k n:Int)(s:ByteArray)(ts:List ByteArray):ByteArray :=
 if k=1 then numT n
 else if k=2 then (⟨#[39]⟩++s)++⟨#[39]⟩
 else if k=3 then s
 else if k=4 then ((s++⟨#[91]⟩)++joC ts)++⟨#[93]⟩
 else if k=5 then ⟨#[36]⟩++joC ts
 else if k=6 then ((((((⟨#[40]⟩:ByteArray)++atB ts 0)++⟨#[32]⟩)++s)++⟨#[32]⟩)++atB ts 1)++⟨#[41]⟩
 else if k=7 then ⟨#[33]⟩++joC ts
 else if k=8 then ⟨#[45]⟩++joC ts
 else if k=9 then ((((⟨#[40]⟩:ByteArray)++joC ts)++⟨#[32,105,110,32]⟩)++s)++⟨#[41]⟩
 else if k=10 then ((((⟨#[40]⟩:ByteArray)++joC ts)++⟨#[32,126,32,47]⟩)++s)++⟨#[47,41]⟩
 else if k=11 then ((s++(⟨#[40]⟩:ByteArray))++joC ts)++⟨#[41]⟩
 else if k=12 then (⟨#[108,101,110,103,116,104,40]⟩++joC ts)++⟨#[41]⟩
 else if k=13 then (⟨#[115,117,98,115,116,114,40]⟩++joC ts)++⟨#[41]⟩
 else if k=14 then ⟨#[110,114]⟩
 else if k=15 then ⟨#[110,102]⟩
 else if k=16 then (⟨#[105,110,100,101,120,40]⟩++joC ts)++⟨#[41]⟩
 else if k=17 then (⟨#[117,112,112,101,114,40]⟩++joC ts)++⟨#[41]⟩
 else (((((⟨#[103,115,117,98,40]⟩++atB ts 0)++⟨#[32,126,32,47]⟩)++s)++⟨#[47,44,32]⟩)++atB ts 1)++⟨#[41]⟩
def txF:Nat→E→ByteArray
 | 0,_=>ByteArray.empty
 | f+1,e=>match e with
  | .agg [.int _ k,.int _ n,.str s,.lst _ _ _ _ l]=>tNode k n s (l.map (txF f))
  | _=>ByteArray.empty
def txE (e:E):ByteArray:=txF (e.sz+1) e
theorem txF_eq:∀(n f:Nat) (e:E),e.sz<n→e.sz<f→txF f e=txE e
 | 0,_,_,h,_=>absurd h (Nat.not_lt_zero _)
 | n+1,0,_,_,h=>absurd h (Nat.not_lt_zero _)
 | n+1,f+1,e,h1,h2=>by
  have key:∀x∈partE e,txF f x=txF e.sz x:=fun x hx=>by
   have hs:=zr6 e x hx
   rw [txF_eq n f x (by omega) (by omega),txF_eq n e.sz x (by omega) hs]
  unfold txE
  unfold txF
  split
  ·rename_i k n' s T A c m l
   congr 1
   exact List.map_congr_left key
  ·rfl
theorem zf14 (i j:IntKind)(k n:Int)(s:ByteArray)(w:Nat)(T:TypeId)(A:Option Addr)(c:Nat)(l:List E):txE (.agg [.int i k,.int j n,.str s,.lst w T A c l])=tNode k n s (l.map txE):=by
 show tNode k n s (l.map (txF (E.sz (.agg [.int i k,.int j n,.str s,.lst w T A c l]))))=_
 congr 1
 refine List.map_congr_left fun x hx=>?_
 exact txF_eq (x.sz+1) _ x (by omega) (zr6 _ x hx)
def smB:List ByteArray→Nat
 | []=>0
 | t :: r=>t.size+2+smB r
theorem joC_one (x:ByteArray):joC [x]=x:=by
 unfold joC joinB
 simp only [List.map_cons,List.map_nil,strB]
 rw [Lib.join_one,zz19]
theorem joC_cons2 (x y:ByteArray)(r:List ByteArray):joC (x :: y :: r)=(x++⟨#[44,32]⟩)++joC (y :: r):=by
 unfold joC joinB
 simp only [List.map_cons,strB]
 have hj:∀(sep u:List UInt8) (v:List (List UInt8)),Lib.joinTail sep (u :: v)=sep++(u++Lib.joinTail sep v):=fun sep u v=>by simp [Lib.joinTail]
 rw [Lib.join_cons,hj,Lib.join_cons,zs5,zs5,zz19,ByteArray.append_assoc]
theorem zc6:∀ts:List ByteArray,(joC ts).size≤smB ts
 | []=>Nat.zero_le _
 | [x]=>by rw [joC_one];simp only [smB];omega
 | x :: y :: r=>by
  rw [joC_cons2,ByteArray.size_append',ByteArray.size_append']
  have h:=zc6 (y :: r)
  have h2:(⟨#[44,32]⟩:ByteArray).size=2:=rfl
  simp only [smB] at h ⊢
  omega
theorem ze20:∀(ts:List ByteArray) (k:Nat),(atB ts k).size≤smB ts
 | [],_=>Nat.zero_le _
 | x :: r,0=>by simp only [smB];show x.size≤_;omega
 | x :: r,k+1=>by
  have:=ze20 r k
  simp only [smB]
  show (atB r k).size≤_;omega
theorem at_two:∀ts:List ByteArray,(atB ts 0).size+(atB ts 1).size≤smB ts
 | []=>Nat.zero_le _
 | x :: r=>by
  have:=ze20 r 0
  simp only [smB]
  show x.size+(atB r 0).size≤_;omega
theorem zg14 {c:Prop}[Decidable c]{a b:ByteArray}{n:Nat}(ha:a.size≤n)(hb:b.size≤n):(if c then a else b).size≤n:=by split<;>assumption
theorem za22 {k n:Int}(hn : -9223372036854775808≤n∧n≤9223372036854775807)(s:ByteArray)(ts:List ByteArray):(tNode k n s ts).size≤30+s.size+smB ts:=by
 have h1:=zc6 ts
 have h2:=at_two ts
 have h3:=zq18 hn.1 hn.2
 have hm:∀a:Array UInt8,(ByteArray.mk a).size=a.size:=fun _=>rfl
 unfold tNode
 repeat' refine zg14 ?_ ?_
 all_goals
  try simp only [ByteArray.size_append',ByteArray.size_mk',List.size_toArray,List.length_cons,List.length_nil]
  omega
theorem zh14:∀(n:Nat) (e:E),e.Ty Tryz.prog 45→e.sz<n→(txE e).size+2≤40*(1+e.sz)
 | 0,_,_,h=>absurd h (Nat.not_lt_zero _)
 | n+1,e,he,h=>by
  obtain⟨k,m,s,xA,xc,l,rfl,-,gm,-,⟨hl,hk⟩,-⟩:=zh1 he
  have h1:=za22 (k:=k) (zu20 gm) s (l.map txE)
  rw [zf14]
  simp only [E.sz,E.szL] at h ⊢
  have key:∀r:List E,(∀x∈r,x.Ty Tryz.prog 45)→E.szL r≤E.szL l→(∀x∈r,x∈l)→smB (r.map txE)≤40*(r.length+E.szL r):=fun r=>by
   induction r with
   | nil=>intros;exact Nat.zero_le _
   | cons x r ih =>
    intro a b c
    simp only [E.szL] at b
    have i1:=ih (fun y hy=>a y (List.mem_cons_of_mem _ hy)) (by omega) (fun y hy=>c y (List.mem_cons_of_mem _ hy))
    have hxm:=c x (List.mem_cons_self ..)
    have h0:0<l.length:=List.length_pos_of_mem hxm
    have i2:=zh14 n x (a x (List.mem_cons_self ..)) (by omega)
    simp only [List.map_cons,smB,List.length_cons,E.szL]
    omega
  have h2:=key l hl (Nat.le_refl _) (fun _ h=>h)
  omega
theorem zl4 {e:E}(he:e.Ty Tryz.prog 45):(txE e).size≤40*(1+e.sz):=by have:=zh14 (e.sz+1) e he (by omega);omega
theorem sum_tx:∀{l:List E},(∀x∈l,x.Ty Tryz.prog 45)→smB (l.map txE)≤40*(l.length+E.szL l)
 | [],_=>Nat.zero_le _
 | x :: r,h=>by
  have h1:=sum_tx (l:=r) fun y hy=>h y (List.mem_cons_of_mem _ hy)
  have h2:=zh14 (x.sz+1) x (h x (List.mem_cons_self ..)) (by omega)
  simp only [List.map_cons,smB,List.length_cons,E.szL]
  omega
end Go.Proofs.YtnjfnhoipnbpeaaGreatDoor
