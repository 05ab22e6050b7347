/- The type Module, and slices of it: shape; the laws' own functions. -/
import Derived.Deep.RegionHeld3
import Derived.Deep.DeepCutAuto
import Derived.Test.YtfdjognmechcfaaModuleOkA
import Derived.Test.YtfdjognmechcfaaModuleOkB
import Derived.Test.YtfdjognmechcfaaModuleOkC
import Derived.Test.YtfdjognmechcfaaModuleOkD
import Derived.Test.YtfdjognmechcfaaModuleOkE
namespace Go.Proofs.Ytfdjognmechcfaa
open Go.RowKit
theorem zv5 {e : E} (h : e.Ty Try.prog 36) : ∃ (x0A : Option Addr) (x0c : Nat) (x0l : List E) (x1A : Option Addr) (x1c : Nat) (x1l : List E) (x2 : Int) (x3 : Int) (x4A : Option Addr) (x4c : Nat) (x4l : List E), e = (E.agg [.lst 3 78 x0A x0c x0l, .lst 1 9 x1A x1c x1l, .int .i64 x2, .int .i64 x3, .lst 2 82 x4A x4c x4l]) ∧ ((∀ y ∈ x0l, y.Ty Try.prog 78) ∧ (∀ y ∈ x0l, y.enc.length = 3)) ∧ ((∀ y ∈ x1l, y.Ty Try.prog 9) ∧ (∀ y ∈ x1l, y.enc.length = 1)) ∧ ((Lit.int .i64 x2).wf = true) ∧ ((Lit.int .i64 x3).wf = true) ∧ ((∀ y ∈ x4l, y.Ty Try.prog 82) ∧ (∀ y ∈ x4l, y.enc.length = 2)) ∧ True := by
  obtain ⟨fs, rfl, q0⟩ := h.agg_ Try.underlying36
  change E.TyF _ _ [33, 22, 3, 3, 34] at q0
  obtain ⟨e0, r0, rfl, h0, q1⟩ := q0.cons_
  obtain ⟨e1, r1, rfl, h1, q2⟩ := q1.cons_
  obtain ⟨e2, r2, rfl, h2, q3⟩ := q2.cons_
  obtain ⟨e3, r3, rfl, h3, q4⟩ := q3.cons_
  obtain ⟨e4, r4, rfl, h4, q5⟩ := q4.cons_
  obtain rfl := q5.nil_
  obtain ⟨x0A, x0c, x0l, rfl, gx0, gx0'⟩ := h0.lst_ Try.underlying33 (k := 3) (by kernel_rfl)
  obtain ⟨x1A, x1c, x1l, rfl, gx1, gx1'⟩ := h1.lst_ Try.underlying22 (k := 1) (by kernel_rfl)
  obtain ⟨x2, rfl, gx2⟩ := h2.int_ Try.underlying3
  obtain ⟨x3, rfl, gx3⟩ := h3.int_ Try.underlying3
  obtain ⟨x4A, x4c, x4l, rfl, gx4, gx4'⟩ := h4.lst_ Try.underlying34 (k := 2) (by kernel_rfl)
  exact ⟨x0A, x0c, x0l, x1A, x1c, x1l, x2, x3, x4A, x4c, x4l, rfl, ⟨gx0, gx0'⟩, ⟨gx1, gx1'⟩, gx2, gx3, ⟨gx4, gx4'⟩, trivial⟩
theorem zk4 {e : E} (h : e.Ty Try.prog 42) : ∃ (x0A : Option Addr) (x0c : Nat) (x0l : List E) (x1A : Option Addr) (x1c : Nat) (x1l : List E) (x2 : Int) (x3 : Int) (x4A : Option Addr) (x4c : Nat) (x4l : List E), e = (E.agg [.lst 3 58 x0A x0c x0l, .lst 1 9 x1A x1c x1l, .int .i64 x2, .int .i64 x3, .lst 2 63 x4A x4c x4l]) ∧ ((∀ y ∈ x0l, y.Ty Try.prog 58) ∧ (∀ y ∈ x0l, y.enc.length = 3)) ∧ ((∀ y ∈ x1l, y.Ty Try.prog 9) ∧ (∀ y ∈ x1l, y.enc.length = 1)) ∧ ((Lit.int .i64 x2).wf = true) ∧ ((Lit.int .i64 x3).wf = true) ∧ ((∀ y ∈ x4l, y.Ty Try.prog 63) ∧ (∀ y ∈ x4l, y.enc.length = 2)) ∧ True := by
  obtain ⟨fs, rfl, q0⟩ := h.agg_ Try.underlying42
  change E.TyF _ _ [39, 22, 3, 3, 40] at q0
  obtain ⟨e0, r0, rfl, h0, q1⟩ := q0.cons_
  obtain ⟨e1, r1, rfl, h1, q2⟩ := q1.cons_
  obtain ⟨e2, r2, rfl, h2, q3⟩ := q2.cons_
  obtain ⟨e3, r3, rfl, h3, q4⟩ := q3.cons_
  obtain ⟨e4, r4, rfl, h4, q5⟩ := q4.cons_
  obtain rfl := q5.nil_
  obtain ⟨x0A, x0c, x0l, rfl, gx0, gx0'⟩ := h0.lst_ Try.underlying39 (k := 3) (by kernel_rfl)
  obtain ⟨x1A, x1c, x1l, rfl, gx1, gx1'⟩ := h1.lst_ Try.underlying22 (k := 1) (by kernel_rfl)
  obtain ⟨x2, rfl, gx2⟩ := h2.int_ Try.underlying3
  obtain ⟨x3, rfl, gx3⟩ := h3.int_ Try.underlying3
  obtain ⟨x4A, x4c, x4l, rfl, gx4, gx4'⟩ := h4.lst_ Try.underlying40 (k := 2) (by kernel_rfl)
  exact ⟨x0A, x0c, x0l, x1A, x1c, x1l, x2, x3, x4A, x4c, x4l, rfl, ⟨gx0, gx0'⟩, ⟨gx1, gx1'⟩, gx2, gx3, ⟨gx4, gx4'⟩, trivial⟩
set_option maxRecDepth 100000 in
set_option maxHeartbeats 1000000 in
theorem zm14 {e : E} (ht : e.Ty Try.prog 36) : Sz 12 e := by
  obtain ⟨x0A, x0c, x0l, x1A, x1c, x1l, x2, x3, x4A, x4c, x4l, rfl, gx0, gx1, gx2, gx3, gx4, -⟩ := zv5 ht
  intro left w hr h0 h1
  have HSZ : Hid ((E.agg [.lst 3 78 x0A x0c x0l, .lst 1 9 x1A x1c x1l, .int .i64 x2, .int .i64 x3, .lst 2 82 x4A x4c x4l]).sz = ((E.lst 3 78 x0A x0c x0l).sz + ((E.lst 1 9 x1A x1c x1l).sz + (0 + (0 + ((E.lst 2 82 x4A x4c x4l).sz + 0)))))) := rfl
  change Calls _ _ #[.agg #[.slice x0A x0l.length x0c, .slice x1A x1l.length x1c, .int .i64 x2, .int .i64 x3, .slice x4A x4l.length x4c], .int .i64 left] w _
  have hr0 := (hr.fld (i := 0) rfl).alloc (.cells #[.slice x0A x0l.length x0c, .slice x1A x1l.length x1c, .int .i64 x2, .int .i64 x3, .slice x4A x4l.length x4c] 36)
  have hr1 := (hr.fld (i := 1) rfl).alloc (.cells #[.slice x0A x0l.length x0c, .slice x1A x1l.length x1c, .int .i64 x2, .int .i64 x3, .slice x4A x4l.length x4c] 36)
  have hr4 := (hr.fld (i := 4) rfl).alloc (.cells #[.slice x0A x0l.length x0c, .slice x1A x1l.length x1c, .int .i64 x2, .int .i64 x3, .slice x4A x4l.length x4c] 36)
  go_enter Try.func12, Try.ntmps12
  go_wp2_with fail
  go_at_call 32
  refine ((zb18 (E.Ty.mk_lst Try.underlying33 (by kernel_rfl) gx0.1 gx0.2)) _ _ hr0 (by omega) (by omega)).mono ?_; rintro e w1 ⟨r1, rfl, hr1s, hl1, hb1⟩
  have hz1 := hb1.size; (try simp only [World.size_alloc] at hz1)
  have c1_1 : w1.cell? ⟨w.heap.size, 1, none⟩ = some (.slice x1A x1l.length x1c) := (by repeat (first | (with_reducible assumption) | (with_reducible refine za6 ?_) | (with_reducible refine zp5 ?_) | (with_reducible exact zl5 rfl) | (exact cell_new' rfl (by first | rfl | (simp; done))) | (with_reducible refine zu4 ?_ ?_) | (refine zf2 (by with_reducible assumption) ?_ ?_) | (refine zf7 (by with_reducible assumption) ?_ ?_) | omega | (· simp) | (· (simp; omega))))
  have c1_2 : w1.cell? ⟨w.heap.size, 2, none⟩ = some (.int .i64 x2) := (by repeat (first | (with_reducible assumption) | (with_reducible refine za6 ?_) | (with_reducible refine zp5 ?_) | (with_reducible exact zl5 rfl) | (exact cell_new' rfl (by first | rfl | (simp; done))) | (with_reducible refine zu4 ?_ ?_) | (refine zf2 (by with_reducible assumption) ?_ ?_) | (refine zf7 (by with_reducible assumption) ?_ ?_) | omega | (· simp) | (· (simp; omega))))
  have c1_3 : w1.cell? ⟨w.heap.size, 3, none⟩ = some (.int .i64 x3) := (by repeat (first | (with_reducible assumption) | (with_reducible refine za6 ?_) | (with_reducible refine zp5 ?_) | (with_reducible exact zl5 rfl) | (exact cell_new' rfl (by first | rfl | (simp; done))) | (with_reducible refine zu4 ?_ ?_) | (refine zf2 (by with_reducible assumption) ?_ ?_) | (refine zf7 (by with_reducible assumption) ?_ ?_) | omega | (· simp) | (· (simp; omega))))
  have c1_4 : w1.cell? ⟨w.heap.size, 4, none⟩ = some (.slice x4A x4l.length x4c) := (by repeat (first | (with_reducible assumption) | (with_reducible refine za6 ?_) | (with_reducible refine zp5 ?_) | (with_reducible exact zl5 rfl) | (exact cell_new' rfl (by first | rfl | (simp; done))) | (with_reducible refine zu4 ?_ ?_) | (refine zf2 (by with_reducible assumption) ?_ ?_) | (refine zf7 (by with_reducible assumption) ?_ ?_) | omega | (· simp) | (· (simp; omega))))
  have hr1 := hr1.below hb1 (by first | exact Nat.le_refl _ | simp)
  have hr4 := hr4.below hb1 (by first | exact Nat.le_refl _ | simp)
  by_cases hn1 : r1 < 0
  · go_wp2
    go_ret
    exact ⟨-1, rfl, .inl (by omega), by omega, by exact (by repeat (first | (with_reducible refine Below.setCell ?_ (by first | omega | (· simp) | (· (simp; omega))) _) | (with_reducible refine Below.alloc ?_ (by first | omega | (· simp) | (· (simp; omega))) _) | (with_reducible refine Below.drew ?_) | (with_reducible refine zx2 ?_ _) | (with_reducible exact Below.refl _ _) | (with_reducible assumption) | (with_reducible refine Below.trans ?_ (Below.mono (by assumption) (by first | omega | (· simp) | (· (simp; omega))))) | (with_reducible refine Below.trans ?_ (Kp.below (by assumption) (by first | omega | (· simp) | (· (simp; omega))) (by first | omega | (· simp) | (· (simp; omega)))))))⟩
  have hq1 := hr1s.resolve_left hn1
  go_wp2_with fail
  go_at_call 17
  refine ((zn12 (E.Ty.mk_lst Try.underlying22 (by kernel_rfl) gx1.1 gx1.2)) _ _ hr1 (by omega) (by omega)).mono ?_; rintro e w2 ⟨r2, rfl, hr2s, hl2, hb2⟩
  have hz2 := hb2.size; (try simp only [World.size_alloc] at hz2)
  have c2_2 : w2.cell? ⟨w.heap.size, 2, none⟩ = some (.int .i64 x2) := (by repeat (first | (with_reducible assumption) | (with_reducible refine za6 ?_) | (with_reducible refine zp5 ?_) | (with_reducible exact zl5 rfl) | (exact cell_new' rfl (by first | rfl | (simp; done))) | (with_reducible refine zu4 ?_ ?_) | (refine zf2 (by with_reducible assumption) ?_ ?_) | (refine zf7 (by with_reducible assumption) ?_ ?_) | omega | (· simp) | (· (simp; omega))))
  have c2_3 : w2.cell? ⟨w.heap.size, 3, none⟩ = some (.int .i64 x3) := (by repeat (first | (with_reducible assumption) | (with_reducible refine za6 ?_) | (with_reducible refine zp5 ?_) | (with_reducible exact zl5 rfl) | (exact cell_new' rfl (by first | rfl | (simp; done))) | (with_reducible refine zu4 ?_ ?_) | (refine zf2 (by with_reducible assumption) ?_ ?_) | (refine zf7 (by with_reducible assumption) ?_ ?_) | omega | (· simp) | (· (simp; omega))))
  have c2_4 : w2.cell? ⟨w.heap.size, 4, none⟩ = some (.slice x4A x4l.length x4c) := (by repeat (first | (with_reducible assumption) | (with_reducible refine za6 ?_) | (with_reducible refine zp5 ?_) | (with_reducible exact zl5 rfl) | (exact cell_new' rfl (by first | rfl | (simp; done))) | (with_reducible refine zu4 ?_ ?_) | (refine zf2 (by with_reducible assumption) ?_ ?_) | (refine zf7 (by with_reducible assumption) ?_ ?_) | omega | (· simp) | (· (simp; omega))))
  have hr4 := hr4.below hb2 (by first | exact Nat.le_refl _ | simp)
  by_cases hn2 : r2 < 0
  · go_wp2
    go_ret
    exact ⟨-1, rfl, .inl (by omega), by omega, by exact (by repeat (first | (with_reducible refine Below.setCell ?_ (by first | omega | (· simp) | (· (simp; omega))) _) | (with_reducible refine Below.alloc ?_ (by first | omega | (· simp) | (· (simp; omega))) _) | (with_reducible refine Below.drew ?_) | (with_reducible refine zx2 ?_ _) | (with_reducible exact Below.refl _ _) | (with_reducible assumption) | (with_reducible refine Below.trans ?_ (Below.mono (by assumption) (by first | omega | (· simp) | (· (simp; omega))))) | (with_reducible refine Below.trans ?_ (Kp.below (by assumption) (by first | omega | (· simp) | (· (simp; omega))) (by first | omega | (· simp) | (· (simp; omega)))))))⟩
  have hq2 := hr2s.resolve_left hn2
  go_wp2_with fail
  go_at_call 33
  refine ((ze18 (E.Ty.mk_lst Try.underlying34 (by kernel_rfl) gx4.1 gx4.2)) _ _ hr4 (by omega) (by omega)).mono ?_; rintro e w3 ⟨r3, rfl, hr3s, hl3, hb3⟩
  have hz3 := hb3.size; (try simp only [World.size_alloc] at hz3)
  by_cases hn3 : r3 < 0
  · go_wp2
    go_ret
    exact ⟨-1, rfl, .inl (by omega), by omega, by exact (by repeat (first | (with_reducible refine Below.setCell ?_ (by first | omega | (· simp) | (· (simp; omega))) _) | (with_reducible refine Below.alloc ?_ (by first | omega | (· simp) | (· (simp; omega))) _) | (with_reducible refine Below.drew ?_) | (with_reducible refine zx2 ?_ _) | (with_reducible exact Below.refl _ _) | (with_reducible assumption) | (with_reducible refine Below.trans ?_ (Below.mono (by assumption) (by first | omega | (· simp) | (· (simp; omega))))) | (with_reducible refine Below.trans ?_ (Kp.below (by assumption) (by first | omega | (· simp) | (· (simp; omega))) (by first | omega | (· simp) | (· (simp; omega)))))))⟩
  have hq3 := hr3s.resolve_left hn3
  go_wp2
  go_ret
  refine ⟨_, rfl, .inr ?_, by omega, by exact (by repeat (first | (with_reducible refine Below.setCell ?_ (by first | omega | (· simp) | (· (simp; omega))) _) | (with_reducible refine Below.alloc ?_ (by first | omega | (· simp) | (· (simp; omega))) _) | (with_reducible refine Below.drew ?_) | (with_reducible refine zx2 ?_ _) | (with_reducible exact Below.refl _ _) | (with_reducible assumption) | (with_reducible refine Below.trans ?_ (Below.mono (by assumption) (by first | omega | (· simp) | (· (simp; omega))))) | (with_reducible refine Below.trans ?_ (Kp.below (by assumption) (by first | omega | (· simp) | (· (simp; omega))) (by first | omega | (· simp) | (· (simp; omega)))))))⟩
  show _ = _
  rw [HSZ.out]
  have e1 := hq1.out
  have e2 := hq2.out
  have e3 := hq3.out
  push_cast
  omega
set_option maxRecDepth 100000 in
set_option maxHeartbeats 1000000 in
theorem za7 {e : E} (ht : e.Ty Try.prog 36) : To 14 42 e := by
  have HT0 := Lib.hid ht
  obtain ⟨x0A, x0c, x0l, x1A, x1c, x1l, x2, x3, x4A, x4c, x4l, rfl, gx0, gx1, gx2, gx3, gx4, -⟩ := zv5 ht
  intro w hr hsz
  have hsz' : ((E.lst 3 78 x0A x0c x0l).sz + ((E.lst 1 9 x1A x1c x1l).sz + (0 + (0 + ((E.lst 2 82 x4A x4c x4l).sz + 0))))) ≤ 1048576 := hsz
  have hs0 : (E.lst 3 78 x0A x0c x0l).sz ≤ 1048576 := by omega
  have hs1 : (E.lst 1 9 x1A x1c x1l).sz ≤ 1048576 := by omega
  have hs4 : (E.lst 2 82 x4A x4c x4l).sz ≤ 1048576 := by omega
  clear hsz hsz'
  have hr0 := hr.fld (i := 0) rfl
  have ty0 : (E.lst 3 78 x0A x0c x0l).Ty Try.prog 33 := E.Ty.mk_lst Try.underlying33 (by kernel_rfl) gx0.1 gx0.2
  have HC0 := Lib.hid (zc18 ty0)
  clear ty0
  have hr1 := hr.fld (i := 1) rfl
  have ty1 : (E.lst 1 9 x1A x1c x1l).Ty Try.prog 22 := E.Ty.mk_lst Try.underlying22 (by kernel_rfl) gx1.1 gx1.2
  have HC1 := Lib.hid (zo12 ty1)
  clear ty1
  have hr4 := hr.fld (i := 4) rfl
  have ty4 : (E.lst 2 82 x4A x4c x4l).Ty Try.prog 34 := E.Ty.mk_lst Try.underlying34 (by kernel_rfl) gx4.1 gx4.2
  have HC4 := Lib.hid (zf18 ty4)
  clear ty4
  change Calls _ _ #[.agg #[.slice x0A x0l.length x0c, .slice x1A x1l.length x1c, .int .i64 x2, .int .i64 x3, .slice x4A x4l.length x4c]] w _
  go_enter Try.func14, Try.ntmps14
  go_wp2_with fail
  go_at_call 37
  refine (HC0.out _ (((hr0.alloc _).alloc _).alloc _) hs0).mono ?_; rintro e w1 ⟨v1, he, HD1, ht1, ho1, hn1, hb1⟩
  have HT1 := Lib.hid ht1
  have HN1 := Lib.hid hn1
  obtain ⟨A1, q1, l1, rfl, -, -⟩ := ht1.lst_ Try.underlying39 (k := 3) (by kernel_rfl)
  obtain rfl : e = .returned (.slice A1 l1.length q1) := he
  clear hn1 ht1
  have B0_1 : w1.heap[w.heap.size]? = some (.cells #[.slice x0A x0l.length x0c, .slice x1A x1l.length x1c, .int .i64 x2, .int .i64 x3, .slice x4A x4l.length x4c] 36 (0, 0)) := (hb1.block (w.heap.size) (by simp; omega)).trans zz16.1
  have B1_1 : w1.heap[w.heap.size + 1]? = some (.cells #[.slice none 0 0, .slice none 0 0, .int .i64 0, .int .i64 0, .slice none 0 0] 42 (0, 0)) := (hb1.block (w.heap.size + 1) (by simp)).trans zz16.2.1
  have B2_1 : w1.heap[w.heap.size + 1 + 1]? = some (.cells #[.slice none 0 0, .slice none 0 0, .int .i64 0, .int .i64 0, .slice none 0 0] 42 (0, 0)) := (hb1.block (w.heap.size + 1 + 1) (by simp)).trans zz16.2.2
  have hz1 := hb1.size; simp only [World.size_alloc] at hz1
  have hB1 : Below w.heap.size w w1 := (by exact (by repeat (first | (with_reducible refine Below.setCell ?_ (by first | omega | (· simp) | (· (simp; omega))) _) | (with_reducible refine Below.alloc ?_ (by first | omega | (· simp) | (· (simp; omega))) _) | (with_reducible refine Below.drew ?_) | (with_reducible refine zx2 ?_ _) | (with_reducible exact Below.refl _ _) | (with_reducible assumption) | (with_reducible refine Below.trans ?_ (Below.mono (by assumption) (by first | omega | (· simp) | (· (simp; omega))))) | (with_reducible refine Below.trans ?_ (Kp.below (by assumption) (by first | omega | (· simp) | (· (simp; omega))) (by first | omega | (· simp) | (· (simp; omega))))))) : Below w.heap.size w _).trans (hb1.mono (by simp; omega))
  have ho1 := ho1.wider (lo' := w.heap.size + 1 + 1 + 1) (by simp) (Nat.le_refl _)
  have c1_0 : w1.cell? ⟨w.heap.size, 0, none⟩ = some (.slice x0A x0l.length x0c) := zj1 B0_1 rfl
  have c1_1 : w1.cell? ⟨w.heap.size, 1, none⟩ = some (.slice x1A x1l.length x1c) := zj1 B0_1 rfl
  have c1_2 : w1.cell? ⟨w.heap.size, 2, none⟩ = some (.int .i64 x2) := zj1 B0_1 rfl
  have c1_3 : w1.cell? ⟨w.heap.size, 3, none⟩ = some (.int .i64 x3) := zj1 B0_1 rfl
  have c1_4 : w1.cell? ⟨w.heap.size, 4, none⟩ = some (.slice x4A x4l.length x4c) := zj1 B0_1 rfl
  have d1_0 : w1.cell? ⟨w.heap.size + 1 + 1, 0, none⟩ = some (.slice none 0 0) := zj1 B2_1 rfl
  have d1_1 : w1.cell? ⟨w.heap.size + 1 + 1, 1, none⟩ = some (.slice none 0 0) := zj1 B2_1 rfl
  have d1_2 : w1.cell? ⟨w.heap.size + 1 + 1, 2, none⟩ = some (.int .i64 0) := zj1 B2_1 rfl
  have d1_3 : w1.cell? ⟨w.heap.size + 1 + 1, 3, none⟩ = some (.int .i64 0) := zj1 B2_1 rfl
  have d1_4 : w1.cell? ⟨w.heap.size + 1 + 1, 4, none⟩ = some (.slice none 0 0) := zj1 B2_1 rfl
  have f1 := zh11 B2_1
  go_wp2_with fail
  have hK1 : Kp (w.heap.size + 1 + 1) (w.heap.size + 1 + 1 + 1) w1 (w1.setCell ⟨w.heap.size + 1 + 1, 0, none⟩ (.slice A1 l1.length q1)) := (by repeat (first | (with_reducible exact Kp.refl _ _ _) | (refine Kp.set ?_ (by first | omega | (dsimp only; omega) | (simp; omega)) (by first | omega | (dsimp only; omega) | (simp; omega)) _)))
  have A0_1 := (hK1.block (w.heap.size) (by omega) (.inl (by omega))).trans B0_1
  have A1_1 := (hK1.block (w.heap.size + 1) (by omega) (.inl (by omega))).trans B1_1
  have A2_1 : (w1.setCell ⟨w.heap.size + 1 + 1, 0, none⟩ (.slice A1 l1.length q1)).heap[w.heap.size + 1 + 1]? = some (.cells #[.slice A1 l1.length q1, .slice none 0 0, .int .i64 0, .int .i64 0, .slice none 0 0] 42 (0, 0)) := by simp only [zj9, B2_1]; simp [setAt]
  have hW1 : (w1.setCell ⟨w.heap.size + 1 + 1, 0, none⟩ (.slice A1 l1.length q1)).heap.size = w1.heap.size := by simp
  have hBW1 : Below w.heap.size w (w1.setCell ⟨w.heap.size + 1 + 1, 0, none⟩ (.slice A1 l1.length q1)) := hB1.trans (hK1.below (by omega) (by omega))
  have ho1 := ho1.kp hK1 (.inr (by omega))
  clear c1_0 c1_1 c1_2 c1_3 c1_4 d1_0 d1_1 d1_2 d1_3 d1_4 f1 B0_1 B1_1 B2_1 hK1 hB1
  generalize (w1.setCell ⟨w.heap.size + 1 + 1, 0, none⟩ (.slice A1 l1.length q1)) = W1 at *
  go_at_call 23
  refine (HC1.out _ (E.In.below hr1 hBW1 (Nat.le_refl _)) hs1).mono ?_; rintro e w2 ⟨v2, he, HD2, ht2, ho2, hn2, hb2⟩
  have HT2 := Lib.hid ht2
  have HN2 := Lib.hid hn2
  obtain ⟨A2, q2, l2, rfl, -, -⟩ := ht2.lst_ Try.underlying22 (k := 1) (by kernel_rfl)
  obtain rfl : e = .returned (.slice A2 l2.length q2) := he
  clear hn2 ht2
  have B0_2 := (hb2.block (w.heap.size) (by omega)).trans A0_1
  have B1_2 := (hb2.block (w.heap.size + 1) (by omega)).trans A1_1
  have B2_2 := (hb2.block (w.heap.size + 1 + 1) (by omega)).trans A2_1
  have hz2 := hb2.size
  have hB2 : Below w.heap.size w w2 := hBW1.trans (hb2.mono (by omega))
  have ho1 := ho1.below hb2 (by omega)
  have ho2 := ho2.wider (lo' := w1.heap.size) (by omega) (Nat.le_refl _)
  clear A0_1 A1_1 A2_1
  have c2_0 : w2.cell? ⟨w.heap.size, 0, none⟩ = some (.slice x0A x0l.length x0c) := zj1 B0_2 rfl
  have c2_1 : w2.cell? ⟨w.heap.size, 1, none⟩ = some (.slice x1A x1l.length x1c) := zj1 B0_2 rfl
  have c2_2 : w2.cell? ⟨w.heap.size, 2, none⟩ = some (.int .i64 x2) := zj1 B0_2 rfl
  have c2_3 : w2.cell? ⟨w.heap.size, 3, none⟩ = some (.int .i64 x3) := zj1 B0_2 rfl
  have c2_4 : w2.cell? ⟨w.heap.size, 4, none⟩ = some (.slice x4A x4l.length x4c) := zj1 B0_2 rfl
  have d2_0 : w2.cell? ⟨w.heap.size + 1 + 1, 0, none⟩ = some (.slice A1 l1.length q1) := zj1 B2_2 rfl
  have d2_1 : w2.cell? ⟨w.heap.size + 1 + 1, 1, none⟩ = some (.slice none 0 0) := zj1 B2_2 rfl
  have d2_2 : w2.cell? ⟨w.heap.size + 1 + 1, 2, none⟩ = some (.int .i64 0) := zj1 B2_2 rfl
  have d2_3 : w2.cell? ⟨w.heap.size + 1 + 1, 3, none⟩ = some (.int .i64 0) := zj1 B2_2 rfl
  have d2_4 : w2.cell? ⟨w.heap.size + 1 + 1, 4, none⟩ = some (.slice none 0 0) := zj1 B2_2 rfl
  have f2 := zh11 B2_2
  go_wp2_with fail
  have hK2 : Kp (w.heap.size + 1 + 1) (w.heap.size + 1 + 1 + 1) w2 (((w2.setCell ⟨w.heap.size + 1 + 1, 1, none⟩ (.slice A2 l2.length q2)).setCell ⟨w.heap.size + 1 + 1, 2, none⟩ (.int .i64 x2)).setCell ⟨w.heap.size + 1 + 1, 3, none⟩ (.int .i64 x3)) := (by repeat (first | (with_reducible exact Kp.refl _ _ _) | (refine Kp.set ?_ (by first | omega | (dsimp only; omega) | (simp; omega)) (by first | omega | (dsimp only; omega) | (simp; omega)) _)))
  have A0_2 := (hK2.block (w.heap.size) (by omega) (.inl (by omega))).trans B0_2
  have A1_2 := (hK2.block (w.heap.size + 1) (by omega) (.inl (by omega))).trans B1_2
  have A2_2 : (((w2.setCell ⟨w.heap.size + 1 + 1, 1, none⟩ (.slice A2 l2.length q2)).setCell ⟨w.heap.size + 1 + 1, 2, none⟩ (.int .i64 x2)).setCell ⟨w.heap.size + 1 + 1, 3, none⟩ (.int .i64 x3)).heap[w.heap.size + 1 + 1]? = some (.cells #[.slice A1 l1.length q1, .slice A2 l2.length q2, .int .i64 x2, .int .i64 x3, .slice none 0 0] 42 (0, 0)) := by simp only [zj9, B2_2]; simp [setAt]
  have hW2 : (((w2.setCell ⟨w.heap.size + 1 + 1, 1, none⟩ (.slice A2 l2.length q2)).setCell ⟨w.heap.size + 1 + 1, 2, none⟩ (.int .i64 x2)).setCell ⟨w.heap.size + 1 + 1, 3, none⟩ (.int .i64 x3)).heap.size = w2.heap.size := by simp
  have hBW2 : Below w.heap.size w (((w2.setCell ⟨w.heap.size + 1 + 1, 1, none⟩ (.slice A2 l2.length q2)).setCell ⟨w.heap.size + 1 + 1, 2, none⟩ (.int .i64 x2)).setCell ⟨w.heap.size + 1 + 1, 3, none⟩ (.int .i64 x3)) := hB2.trans (hK2.below (by omega) (by omega))
  have ho1 := ho1.kp hK2 (.inr (by omega))
  have ho2 := ho2.kp hK2 (.inr (by omega))
  clear c2_0 c2_1 c2_2 c2_3 c2_4 d2_0 d2_1 d2_2 d2_3 d2_4 f2 B0_2 B1_2 B2_2 hK2 hB2
  generalize (((w2.setCell ⟨w.heap.size + 1 + 1, 1, none⟩ (.slice A2 l2.length q2)).setCell ⟨w.heap.size + 1 + 1, 2, none⟩ (.int .i64 x2)).setCell ⟨w.heap.size + 1 + 1, 3, none⟩ (.int .i64 x3)) = W2 at *
  go_at_call 38
  refine (HC4.out _ (E.In.below hr4 hBW2 (Nat.le_refl _)) hs4).mono ?_; rintro e w3 ⟨v3, he, HD3, ht3, ho3, hn3, hb3⟩
  have HT3 := Lib.hid ht3
  have HN3 := Lib.hid hn3
  obtain ⟨A3, q3, l3, rfl, -, -⟩ := ht3.lst_ Try.underlying40 (k := 2) (by kernel_rfl)
  obtain rfl : e = .returned (.slice A3 l3.length q3) := he
  clear hn3 ht3
  have B0_3 := (hb3.block (w.heap.size) (by omega)).trans A0_2
  have B1_3 := (hb3.block (w.heap.size + 1) (by omega)).trans A1_2
  have B2_3 := (hb3.block (w.heap.size + 1 + 1) (by omega)).trans A2_2
  have hz3 := hb3.size
  have hB3 : Below w.heap.size w w3 := hBW2.trans (hb3.mono (by omega))
  have ho1 := ho1.below hb3 (by omega)
  have ho2 := ho2.below hb3 (by omega)
  have ho3 := ho3.wider (lo' := w2.heap.size) (by omega) (Nat.le_refl _)
  clear A0_2 A1_2 A2_2
  have c3_0 : w3.cell? ⟨w.heap.size, 0, none⟩ = some (.slice x0A x0l.length x0c) := zj1 B0_3 rfl
  have c3_1 : w3.cell? ⟨w.heap.size, 1, none⟩ = some (.slice x1A x1l.length x1c) := zj1 B0_3 rfl
  have c3_2 : w3.cell? ⟨w.heap.size, 2, none⟩ = some (.int .i64 x2) := zj1 B0_3 rfl
  have c3_3 : w3.cell? ⟨w.heap.size, 3, none⟩ = some (.int .i64 x3) := zj1 B0_3 rfl
  have c3_4 : w3.cell? ⟨w.heap.size, 4, none⟩ = some (.slice x4A x4l.length x4c) := zj1 B0_3 rfl
  have d3_0 : w3.cell? ⟨w.heap.size + 1 + 1, 0, none⟩ = some (.slice A1 l1.length q1) := zj1 B2_3 rfl
  have d3_1 : w3.cell? ⟨w.heap.size + 1 + 1, 1, none⟩ = some (.slice A2 l2.length q2) := zj1 B2_3 rfl
  have d3_2 : w3.cell? ⟨w.heap.size + 1 + 1, 2, none⟩ = some (.int .i64 x2) := zj1 B2_3 rfl
  have d3_3 : w3.cell? ⟨w.heap.size + 1 + 1, 3, none⟩ = some (.int .i64 x3) := zj1 B2_3 rfl
  have d3_4 : w3.cell? ⟨w.heap.size + 1 + 1, 4, none⟩ = some (.slice none 0 0) := zj1 B2_3 rfl
  have f3 := zh11 B2_3
  have r0' := zj1 B1_3 (o := 0) rfl; have r1' := zj1 B1_3 (o := 1) rfl; have r2' := zj1 B1_3 (o := 2) rfl; have r3' := zj1 B1_3 (o := 3) rfl; have r4' := zj1 B1_3 (o := 4) rfl
  have fr' := zh11 B1_3
  go_wp2
  have OWN : Owns w3 (w.heap.size + 1 + 1 + 1) w3.heap.size [(E.lst 3 58 A1 q1 l1), (E.lst 1 9 A2 q2 l2), (E.int .i64 x2), (E.int .i64 x3), (E.lst 2 63 A3 q3 l3)] := (Owns.cons (mid := w1.heap.size) ho1 HN1.out (Owns.cons (mid := w2.heap.size) ho2 HN2.out (Owns.leaf rfl (by simp only [E.Ho]) (Owns.leaf rfl (by simp only [E.Ho]) (Owns.cons (mid := w3.heap.size) ho3 HN3.out Owns.nil (by omega) (by omega)))) (by omega) (by omega)) (by omega) (by omega))
  refine bodyPost_ret (v := .agg #[.slice A1 l1.length q1, .slice A2 l2.length q2, .int .i64 x2, .int .i64 x3, .slice A3 l3.length q3]) (zu15 (t := 42) (fr := (0, 0)) rfl rfl Try.underlying42 (by kernel_rfl) ?_) rfl ⟨(E.agg [(E.lst 3 58 A1 q1 l1), (E.lst 1 9 A2 q2 l2), (E.int .i64 x2), (E.int .i64 x3), (E.lst 2 63 A3 q3 l3)]), rfl, ?_, E.Ty.mk_agg Try.underlying42 (E.TyF.mk_cons HT1.out (E.TyF.mk_cons HT2.out (E.TyF.mk_cons (show E.Ty _ _ _ from ⟨Try.underlying3, gx2⟩) (E.TyF.mk_cons (show E.Ty _ _ _ from ⟨Try.underlying3, gx3⟩) (E.TyF.mk_cons HT3.out (E.TyF.mk_nil)))))), ?_, ?_, ?_⟩
  · simp only [zj9, B1_3, B2_3]; simp [setAt]
  · show E.d _ = E.d _
    simp only [E.d, E.dL]
    have y1 := HD1.out; simp only [E.d, E.dL] at y1
    have y2 := HD2.out; simp only [E.d, E.dL] at y2
    have y3 := HD3.out; simp only [E.d, E.dL] at y3
    simp only [E.agg.injEq, List.cons.injEq, E.lst.injEq, E.int.injEq, E.str.injEq, E.bool.injEq, true_and, and_true] at *
    simp [*]
  · exact ((E.Ho.mk_agg OWN.1).kp (lo' := w.heap.size + 1) (hi' := w.heap.size + 1 + 1 + 1) (by repeat (first | (with_reducible exact Kp.refl _ _ _) | (refine Kp.set ?_ (by first | omega | (dsimp only; omega) | (simp; omega)) (by first | omega | (dsimp only; omega) | (simp; omega)) _))) (.inr (by omega))).wider (by omega) (by simp)
  · exact OWN.2
  · exact hB3.trans (Kp.below (lo := w.heap.size + 1) (hi := w.heap.size + 1 + 1 + 1) (by repeat (first | (with_reducible exact Kp.refl _ _ _) | (refine Kp.set ?_ (by first | omega | (dsimp only; omega) | (simp; omega)) (by first | omega | (dsimp only; omega) | (simp; omega)) _))) (by omega) (by omega))
set_option maxRecDepth 100000 in
set_option maxHeartbeats 1000000 in
theorem zn14 {e e' : E} (ht : e.Ty Try.prog 42) (ht' : e'.Ty Try.prog 42) : Eq 16 e e' := by
  obtain ⟨x0A, x0c, x0l, x1A, x1c, x1l, x2, x3, x4A, x4c, x4l, rfl, gx0, gx1, gx2, gx3, gx4, -⟩ := zk4 ht
  obtain ⟨y0A, y0c, y0l, y1A, y1c, y1l, y2, y3, y4A, y4c, y4l, rfl, gy0, gy1, gy2, gy3, gy4, -⟩ := zk4 ht'
  intro hd w hr hr'
  simp only [E.d, E.dL, E.agg.injEq, List.cons.injEq, E.int.injEq, E.str.injEq, E.bool.injEq, E.lst.injEq, true_and, and_true] at hd
  obtain ⟨hd0, hd1, rfl, rfl, hd4⟩ := hd
  have hr0 := ((hr.fld (i := 0) rfl).alloc (.cells #[.slice x0A x0l.length x0c, .slice x1A x1l.length x1c, .int .i64 x2, .int .i64 x3, .slice x4A x4l.length x4c] 42)).alloc (.cells #[.slice y0A y0l.length y0c, .slice y1A y1l.length y1c, .int .i64 x2, .int .i64 x3, .slice y4A y4l.length y4c] 42)
  have hs0 := ((hr'.fld (i := 0) rfl).alloc (.cells #[.slice x0A x0l.length x0c, .slice x1A x1l.length x1c, .int .i64 x2, .int .i64 x3, .slice x4A x4l.length x4c] 42)).alloc (.cells #[.slice y0A y0l.length y0c, .slice y1A y1l.length y1c, .int .i64 x2, .int .i64 x3, .slice y4A y4l.length y4c] 42)
  have t0 : (E.lst 3 58 x0A x0c x0l).Ty Try.prog 39 := E.Ty.mk_lst Try.underlying39 (by kernel_rfl) gx0.1 gx0.2
  have u0 : (E.lst 3 58 y0A y0c y0l).Ty Try.prog 39 := E.Ty.mk_lst Try.underlying39 (by kernel_rfl) gy0.1 gy0.2
  have HC0 := Lib.hid (zd18 t0 u0 (by simp only [E.d, E.dL, E.agg.injEq, List.cons.injEq, E.int.injEq, E.str.injEq, E.bool.injEq, E.lst.injEq, true_and, and_true]; exact hd0))
  clear t0 u0
  have hr1 := ((hr.fld (i := 1) rfl).alloc (.cells #[.slice x0A x0l.length x0c, .slice x1A x1l.length x1c, .int .i64 x2, .int .i64 x3, .slice x4A x4l.length x4c] 42)).alloc (.cells #[.slice y0A y0l.length y0c, .slice y1A y1l.length y1c, .int .i64 x2, .int .i64 x3, .slice y4A y4l.length y4c] 42)
  have hs1 := ((hr'.fld (i := 1) rfl).alloc (.cells #[.slice x0A x0l.length x0c, .slice x1A x1l.length x1c, .int .i64 x2, .int .i64 x3, .slice x4A x4l.length x4c] 42)).alloc (.cells #[.slice y0A y0l.length y0c, .slice y1A y1l.length y1c, .int .i64 x2, .int .i64 x3, .slice y4A y4l.length y4c] 42)
  have t1 : (E.lst 1 9 x1A x1c x1l).Ty Try.prog 22 := E.Ty.mk_lst Try.underlying22 (by kernel_rfl) gx1.1 gx1.2
  have u1 : (E.lst 1 9 y1A y1c y1l).Ty Try.prog 22 := E.Ty.mk_lst Try.underlying22 (by kernel_rfl) gy1.1 gy1.2
  have HC1 := Lib.hid (zp12 t1 u1 (by simp only [E.d, E.dL, E.agg.injEq, List.cons.injEq, E.int.injEq, E.str.injEq, E.bool.injEq, E.lst.injEq, true_and, and_true]; exact hd1))
  clear t1 u1
  have hr4 := ((hr.fld (i := 4) rfl).alloc (.cells #[.slice x0A x0l.length x0c, .slice x1A x1l.length x1c, .int .i64 x2, .int .i64 x3, .slice x4A x4l.length x4c] 42)).alloc (.cells #[.slice y0A y0l.length y0c, .slice y1A y1l.length y1c, .int .i64 x2, .int .i64 x3, .slice y4A y4l.length y4c] 42)
  have hs4 := ((hr'.fld (i := 4) rfl).alloc (.cells #[.slice x0A x0l.length x0c, .slice x1A x1l.length x1c, .int .i64 x2, .int .i64 x3, .slice x4A x4l.length x4c] 42)).alloc (.cells #[.slice y0A y0l.length y0c, .slice y1A y1l.length y1c, .int .i64 x2, .int .i64 x3, .slice y4A y4l.length y4c] 42)
  have t4 : (E.lst 2 63 x4A x4c x4l).Ty Try.prog 40 := E.Ty.mk_lst Try.underlying40 (by kernel_rfl) gx4.1 gx4.2
  have u4 : (E.lst 2 63 y4A y4c y4l).Ty Try.prog 40 := E.Ty.mk_lst Try.underlying40 (by kernel_rfl) gy4.1 gy4.2
  have HC4 := Lib.hid (zg18 t4 u4 (by simp only [E.d, E.dL, E.agg.injEq, List.cons.injEq, E.int.injEq, E.str.injEq, E.bool.injEq, E.lst.injEq, true_and, and_true]; exact hd4))
  clear t4 u4
  clear hd0 hd1 hd4
  change Calls _ _ #[.agg #[.slice x0A x0l.length x0c, .slice x1A x1l.length x1c, .int .i64 x2, .int .i64 x3, .slice x4A x4l.length x4c], .agg #[.slice y0A y0l.length y0c, .slice y1A y1l.length y1c, .int .i64 x2, .int .i64 x3, .slice y4A y4l.length y4c]] w _
  go_enter Try.func16, Try.ntmps16
  go_wp2_with fail
  go_at_call 48
  refine (HC0.out _ hr0 hs0).mono ?_; rintro e w1 ⟨rfl, hb1⟩
  have hz1 := hb1.size; (try simp only [World.size_alloc] at hz1)
  have c1_1 : w1.cell? ⟨w.heap.size, 1, none⟩ = some (.slice x1A x1l.length x1c) := zf2 hb1 (zu4 (zl5 rfl) (by simp)) (by simp; omega)
  have d1_1 : w1.cell? ⟨w.heap.size + 1, 1, none⟩ = some (.slice y1A y1l.length y1c) := zf2 hb1 (cell_new' rfl (by simp)) (by simp)
  have c1_2 : w1.cell? ⟨w.heap.size, 2, none⟩ = some (.int .i64 x2) := zf2 hb1 (zu4 (zl5 rfl) (by simp)) (by simp; omega)
  have d1_2 : w1.cell? ⟨w.heap.size + 1, 2, none⟩ = some (.int .i64 x2) := zf2 hb1 (cell_new' rfl (by simp)) (by simp)
  have c1_3 : w1.cell? ⟨w.heap.size, 3, none⟩ = some (.int .i64 x3) := zf2 hb1 (zu4 (zl5 rfl) (by simp)) (by simp; omega)
  have d1_3 : w1.cell? ⟨w.heap.size + 1, 3, none⟩ = some (.int .i64 x3) := zf2 hb1 (cell_new' rfl (by simp)) (by simp)
  have c1_4 : w1.cell? ⟨w.heap.size, 4, none⟩ = some (.slice x4A x4l.length x4c) := zf2 hb1 (zu4 (zl5 rfl) (by simp)) (by simp; omega)
  have d1_4 : w1.cell? ⟨w.heap.size + 1, 4, none⟩ = some (.slice y4A y4l.length y4c) := zf2 hb1 (cell_new' rfl (by simp)) (by simp)
  have hr1 := hr1.below hb1 (by first | exact Nat.le_refl _ | simp)
  have hs1 := hs1.below hb1 (by first | exact Nat.le_refl _ | simp)
  have hr4 := hr4.below hb1 (by first | exact Nat.le_refl _ | simp)
  have hs4 := hs4.below hb1 (by first | exact Nat.le_refl _ | simp)
  go_wp2_with fail
  go_at_call 29
  refine (HC1.out _ hr1 hs1).mono ?_; rintro e w2 ⟨rfl, hb2⟩
  have hz2 := hb2.size; (try simp only [World.size_alloc] at hz2)
  have c2_2 := zf2 hb2 c1_2 (by omega)
  have d2_2 := zf2 hb2 d1_2 (by omega)
  have c2_3 := zf2 hb2 c1_3 (by omega)
  have d2_3 := zf2 hb2 d1_3 (by omega)
  have c2_4 := zf2 hb2 c1_4 (by omega)
  have d2_4 := zf2 hb2 d1_4 (by omega)
  clear c1_1 d1_1 c1_2 d1_2 c1_3 d1_3 c1_4 d1_4
  have hr4 := hr4.below hb2 (by first | exact Nat.le_refl _ | simp)
  have hs4 := hs4.below hb2 (by first | exact Nat.le_refl _ | simp)
  go_wp2_with fail
  go_at_call 49
  refine (HC4.out _ hr4 hs4).mono ?_; rintro e w3 ⟨rfl, hb3⟩
  have hz3 := hb3.size; (try simp only [World.size_alloc] at hz3)
  clear c2_2 d2_2 c2_3 d2_3 c2_4 d2_4
  go_wp2
  go_ret
  exact ⟨rfl, (by repeat (first | (with_reducible refine Below.setCell ?_ (by first | omega | (· simp) | (· (simp; omega))) _) | (with_reducible refine Below.alloc ?_ (by first | omega | (· simp) | (· (simp; omega))) _) | (with_reducible refine Below.drew ?_) | (with_reducible refine zx2 ?_ _) | (with_reducible exact Below.refl _ _) | (with_reducible assumption) | (with_reducible refine Below.trans ?_ (Below.mono (by assumption) (by first | omega | (· simp) | (· (simp; omega))))) | (with_reducible refine Below.trans ?_ (Kp.below (by assumption) (by first | omega | (· simp) | (· (simp; omega))) (by first | omega | (· simp) | (· (simp; omega)))))))⟩
set_option maxRecDepth 100000
def rexN (s : ByteArray) : Bool := parI s && decide (s.size ≤ 200)
theorem zo14 {s : ByteArray} (hs : s.size ≤ 1048576) : Fine (rexR s) := by
  unfold rexR
  split
  · exact (zp8 hs).1
  · exact Fine.zero
theorem zh18 {s : ByteArray} (hs : s.size ≤ 1048576) : Ctr Try.prog 44 [.c (.v (.string s))] [] (.c (.v (.bool (rexN s)))) [] := by
  have hc := za11 hs
  have hf := zo14 hs
  generalize rexR s = e at hc hf
  cases hf with
  | mk k t l hk ht hl2 =>
  refine zm2 Try.func44 rfl rfl ?_
  unfold rexN
  generalize parI s = b at *
  repeat' (first | ((apply f_wo); first | ((apply f_gs); first | refine n_sk ?_) | ((apply f_mv); first | (refine zw1 ?_ ?_ <;> intro hG <;> (try cases hG)) | refine zg1 (v := .c _) ?_ | refine zg1 (v := .tu _) ?_ | refine za ?_) | ((apply f_as); first | refine zf1 (v := .c _) ?_ | refine zf1 (v := .tu _) ?_ | refine za ?_) | ((apply f_ca); first | refine zr2 (hc) ?_ | refine zp2 (hc) ?_) | ((apply f_bi); first | refine zd1 ?_ | refine zc1 ?_ | refine ze1 ?_ | refine za ?_) | ((apply f_st); first | refine n_st ?_ | refine zt1 ?_) | ((apply zb6); first | refine zj3 ?_ | refine za ?_) | ((apply f_pk); first | refine zu1 (v := .c _) ?_ | refine zu1 (v := .tu _) ?_ | refine za ?_) | ((apply f_ex); first | refine n_exv (v := .c _) ?_ | refine n_exv (v := .tu _) ?_ | refine za ?_) | refine n_al ?_ | refine za ?_) | ((apply f_w); first | refine zy ?_ | refine zc ?_) | refine zb fun C => ?_ | refine zn ?_ | refine ze ?_ | refine zh ?_ | refine zi ?_ | (refine zt (by rfl) ?_ ?_ <;> intro hC <;> (try cases hC)))
  all_goals
    (first | refine zu ?_ | skip); refine ret0 rfl zn2 ⟨?_, rfl⟩; refine congrArg (fun s => AV.c (AC.v (Value.bool s))) ?_
    first
      | rfl
      | (simp only [Bool.true_and]; (rw [Bool.eq_iff_iff]; (try simp only [Bool.and_eq_true, Bool.or_eq_true, Bool.not_eq_true', decide_eq_true_iff, decide_eq_false_iff_not, beq_iff_eq, Bool.and_eq_false_iff, Bool.or_eq_false_iff, bne_iff_ne, ne_eq, Bool.true_eq_false, Bool.false_eq_true, true_iff, false_iff, iff_true, iff_false] at *); first | omega | (simp at *; omega)))
theorem zg22 {s : ByteArray} (hs : s.size ≤ 1048576) : Ctr Try.prog 35 [.c (.v (.string s))] [] (.c (.v (.bool (rexN s)))) [] := by
  have hc := zb11 hs
  have hf := zo14 hs
  generalize rexR s = e at hc hf
  cases hf with
  | mk k t l hk ht hl2 =>
  refine zm2 Try.func35 rfl rfl ?_
  unfold rexN
  generalize parI s = b at *
  repeat' (first | ((apply f_wo); first | ((apply f_gs); first | refine n_sk ?_) | ((apply f_mv); first | (refine zw1 ?_ ?_ <;> intro hG <;> (try cases hG)) | refine zg1 (v := .c _) ?_ | refine zg1 (v := .tu _) ?_ | refine za ?_) | ((apply f_as); first | refine zf1 (v := .c _) ?_ | refine zf1 (v := .tu _) ?_ | refine za ?_) | ((apply f_ca); first | refine zr2 (hc) ?_ | refine zp2 (hc) ?_) | ((apply f_bi); first | refine zd1 ?_ | refine zc1 ?_ | refine ze1 ?_ | refine za ?_) | ((apply f_st); first | refine n_st ?_ | refine zt1 ?_) | ((apply zb6); first | refine zj3 ?_ | refine za ?_) | ((apply f_pk); first | refine zu1 (v := .c _) ?_ | refine zu1 (v := .tu _) ?_ | refine za ?_) | ((apply f_ex); first | refine n_exv (v := .c _) ?_ | refine n_exv (v := .tu _) ?_ | refine za ?_) | refine n_al ?_ | refine za ?_) | ((apply f_w); first | refine zy ?_ | refine zc ?_) | refine zb fun C => ?_ | refine zn ?_ | refine ze ?_ | refine zh ?_ | refine zi ?_ | (refine zt (by rfl) ?_ ?_ <;> intro hC <;> (try cases hC)))
  all_goals
    (first | refine zu ?_ | skip); refine ret0 rfl zn2 ⟨?_, rfl⟩; refine congrArg (fun s => AV.c (AC.v (Value.bool s))) ?_
    first
      | rfl
      | (simp only [Bool.true_and]; (rw [Bool.eq_iff_iff]; (try simp only [Bool.and_eq_true, Bool.or_eq_true, Bool.not_eq_true', decide_eq_true_iff, decide_eq_false_iff_not, beq_iff_eq, Bool.and_eq_false_iff, Bool.or_eq_false_iff, bne_iff_ne, ne_eq, Bool.true_eq_false, Bool.false_eq_true, true_iff, false_iff, iff_true, iff_false] at *); first | omega | (simp at *; omega)))
def rexNE (e : E) : Bool := rexN (strB e)
def insE : E → Bool
  | .agg [.int _ x, .int _ n] => insOkS x n
  | _ => false
def fnOkE (n i : Nat) : E → Bool
  | .agg [.int _ pp, .lst _ _ _ _ code] => inR pp 0 4 && !(decide (n ≤ i + 3) && !(pp == 0)) && inR code.length 1 3000 && code.all insE
  | _ => false
def fnsOk (n : Nat) : Nat → List E → Bool
  | _, [] => true
  | i, f :: r => fnOkE n i f && fnsOk n (i + 1) r
def modHead (l0 l1 : List E) (x2 x3 : Int) (l4 : List E) : Bool := decide (l0.length ≤ 400) && decide (l1.length ≤ 100) && inR x2 0 400 && inR x3 0 400 && inR l4.length 3 9
def modOkL (l0 l1 : List E) (x2 x3 : Int) (l4 : List E) : Bool := modHead l0 l1 x2 x3 l4 && (l0.all valE && l1.all rexNE && fnsOk l4.length 0 l4)
def modOkE : E → Bool
  | .agg [.lst _ _ _ _ l0, .lst _ _ _ _ l1, .int _ x2, .int _ x3, .lst _ _ _ _ l4] => modOkL l0 l1 x2 x3 l4
  | _ => false
theorem clo1_c {x : E} (hx : x.Ty Try.prog 58) : Ctr Try.prog 40 [.ag (acE x)] [] (.c (.v (.bool (!(valE x))))) [] := by
  have hc := zs15 hx
  obtain ⟨x0, x1, x2, rfl, -⟩ := zy3 hx
  refine zm2 Try.func40 rfl rfl ?_
  repeat' (first | ((apply f_wo); first | ((apply f_as); first | refine zf1 (v := .c _) ?_ | refine za ?_) | ((apply f_ld); first | refine zw ?_ | refine zi1 ?_ | refine n_ld ?_) | ((apply f_ca); first | refine zr2 (hc) ?_ | refine zp2 (hc) ?_) | ((apply f_no); first | refine zj2 ?_ | refine za ?_) | refine n_bo ?_ | refine za ?_) | ((apply f_w); first | refine zy ?_ | refine zc ?_) | refine zb fun C => ?_ | refine zn ?_ | refine ze ?_ | refine zh ?_ | refine zi ?_ | (refine zt (by rfl) ?_ ?_ <;> intro hC <;> (try cases hC)))
  refine zu ?_; refine ret0 rfl zn2 ⟨?_, rfl⟩
  rfl
theorem clo2_c {s : ByteArray} (hs : s.size ≤ 1048576) : Ctr Try.prog 43 [.c (.v (.string s))] [] (.c (.v (.bool (!(rexN s))))) [] := by
  have hc := zh18 hs
  refine zm2 Try.func43 rfl rfl ?_
  repeat' (first | ((apply f_wo); first | ((apply f_mv); first | refine zg1 (v := .c _) ?_ | refine za ?_) | ((apply f_as); first | refine zf1 (v := .c _) ?_ | refine za ?_) | ((apply f_ca); first | refine zr2 (hc) ?_ | refine zp2 (hc) ?_) | ((apply f_no); first | refine zj2 ?_ | refine za ?_) | refine za ?_) | ((apply f_w); first | refine zy ?_ | refine zc ?_) | refine zb fun C => ?_ | refine zn ?_ | refine ze ?_ | refine zh ?_ | refine zi ?_ | (refine zt (by rfl) ?_ ?_ <;> intro hC <;> (try cases hC)))
  refine zu ?_; refine ret0 rfl zn2 ⟨?_, rfl⟩
  rfl
theorem clo3_c {x : E} (hx : x.Ty Try.prog 70) : Ctr Try.prog 46 [.ag (acE x)] [] (.c (.v (.bool (!(insE x))))) [] := by
  obtain ⟨x0, x1, rfl, -⟩ := zs4 hx
  refine zm2 Try.func46 rfl rfl ?_
  repeat' (first | ((apply f_wo); first | ((apply f_as); first | refine zf1 (v := .c _) ?_ | refine za ?_) | ((apply f_ld); first | refine zw ?_ | refine zi1 ?_ | refine n_ld ?_) | ((apply f_ca); first | refine zr2 ((zr10 _ _)) ?_ | refine zp2 ((zr10 _ _)) ?_) | ((apply f_no); first | refine zj2 ?_ | refine za ?_) | refine n_bo ?_ | refine za ?_) | ((apply f_w); first | refine zy ?_ | refine zc ?_) | refine zb fun C => ?_ | refine zn ?_ | refine ze ?_ | refine zh ?_ | refine zi ?_ | (refine zt (by rfl) ?_ ?_ <;> intro hC <;> (try cases hC)))
  refine zu ?_; refine ret0 rfl zn2 ⟨?_, rfl⟩
  rfl
theorem zh22 {p : E → Bool} (l : List E) : (l.any fun x => !(p x)) = !(l.all p) := by
  rw [List.not_all_eq_any_not]
theorem strsz {l : List E} (hl : ∀ x ∈ l, x.Ty Try.prog 9) (hz : E.szL l ≤ 1048576) : ∀ x ∈ l, (strB x).size ≤ 1048576 := fun x hx => by
  have := E.szL_mem hx
  obtain ⟨s, rfl, -⟩ := (hl x hx).str_ Try.underlying9
  simp only [E.sz] at this
  show s.size ≤ _; omega
set_option maxHeartbeats 8000000 in
theorem zc11 {e : E} (he : e.Ty Try.prog 42) (hsz : e.sz ≤ 1048576) : Ctr Try.prog 15 [.ag (acE e)] [] (.c (.v (.bool (modOkE e)))) [] := by
  obtain ⟨x0A, x0c, l0, x1A, x1c, l1, x2, x3, x4A, x4c, l4, rfl, ⟨a0, ka0⟩, ⟨a1, ka1⟩, -, -, ⟨a4, ka4⟩, -⟩ := zk4 he
  simp only [E.sz, E.szL] at hsz
  have hl0 : l0.length ≤ 1048576 := by omega
  have hl1 : l1.length ≤ 1048576 := by omega
  have hl4 : l4.length ≤ 1048576 := by omega
  have hs1 := strsz a1 (by omega)
  show Ctr _ _ _ _ (.c (.v (.bool (modOkL l0 l1 x2 x3 l4)))) _
  have c1 := za22 a0 ka0 (by omega) (fun x => !(valE x)) 40 fun x hx => clo1_c (a0 x hx)
  have c2 := zl14 a1 ka1 (by omega) (fun x => !(rexNE x)) 43 fun x hx => clo2_c (hs1 x hx)
  rw [zh22] at c1 c2
  refine zm2 Try.func15 rfl rfl ?_
  unfold modOkL
  cases hh : modHead l0 l1 x2 x3 l4 with
  | false =>
    unfold modHead at hh
    repeat' (first | ((apply f_wo); first | ((apply f_gs); first | refine n_sk ?_) | ((apply f_mv); first | (refine zw1 ?_ ?_ <;> intro hG <;> (try cases hG)) | refine zg1 (v := .c _) ?_ | refine za ?_) | ((apply f_as); first | refine zf1 (v := .c _) ?_ | refine za ?_) | ((apply f_fa); first | refine n_fa ?_ | refine zk1 ?_) | ((apply f_ld); first | refine zp1 ?_ | refine zb1 ?_ | refine zw ?_ | refine zi1 ?_ | refine n_ld ?_) | ((apply f_ca); first | refine zr2 ((zs5 _ _ _)) ?_ | refine zp2 ((zs5 _ _ _)) ?_) | ((apply f_bi); first | refine zd1 ?_ | refine zc1 ?_ | refine ze1 ?_ | refine za ?_) | ((apply f_st); first | refine n_st ?_ | refine zt1 ?_) | ((apply f_ia); first | refine n_ix ?_ | refine zc2 ?_ | refine za ?_) | ((apply zy2); first | refine zk2 ?_ | refine za ?_) | ((apply za2); first | refine zq ?_ | refine za ?_) | ((apply zq3); first | refine zh1 ?_ | refine za ?_) | ((apply zs3); first | refine zo1 ?_ | refine za ?_) | ((apply zs1); first | refine zo ?_ | refine zr1 ?_ | refine za ?_) | ((apply f_no); first | refine zj2 ?_ | refine za ?_) | ((apply f_pk); first | refine zu1 (v := .c _) ?_ | refine za ?_) | ((apply f_bb); first | refine zg2 ?_ | refine zh2 ?_ | refine za ?_) | refine n_al ?_ | refine n_bo ?_ | refine za ?_) | ((apply f_w); first | refine zy ?_ | refine zc ?_) | refine zb fun C => ?_ | refine zn ?_ | refine ze ?_ | refine zh ?_ | refine zi ?_)
    all_goals first
      | refine zx rfl ?_
      | refine zt (by rfl) (fun hC => ?_) fun hC => by exfalso; clear c1 c2 a0 a1 a4 ka0 ka1 ka4 hs1 he; simp only [inR, Bool.and_eq_true, Bool.and_eq_false_iff, Bool.not_eq_true', Bool.not_eq_false', decide_eq_true_iff, decide_eq_false_iff_not] at *; omega
    all_goals
      repeat' (first | ((apply f_wo); first | ((apply f_gs); first | refine n_sk ?_) | ((apply f_mv); first | (refine zw1 ?_ ?_ <;> intro hG <;> (try cases hG)) | refine zg1 (v := .c _) ?_ | refine za ?_) | ((apply f_as); first | refine zf1 (v := .c _) ?_ | refine za ?_) | ((apply f_fa); first | refine n_fa ?_ | refine zk1 ?_) | ((apply f_ld); first | refine zp1 ?_ | refine zb1 ?_ | refine zw ?_ | refine zi1 ?_ | refine n_ld ?_) | ((apply f_bi); first | refine zd1 ?_ | refine zc1 ?_ | refine ze1 ?_ | refine za ?_) | ((apply f_st); first | refine n_st ?_ | refine zt1 ?_) | ((apply f_ia); first | refine n_ix ?_ | refine zc2 ?_ | refine za ?_) | ((apply zy2); first | refine zk2 ?_ | refine za ?_) | ((apply za2); first | refine zq ?_ | refine za ?_) | ((apply zq3); first | refine zh1 ?_ | refine za ?_) | ((apply zs3); first | refine zo1 ?_ | refine za ?_) | ((apply zs1); first | refine zo ?_ | refine zr1 ?_ | refine za ?_) | ((apply f_no); first | refine zj2 ?_ | refine za ?_) | ((apply f_pk); first | refine zu1 (v := .c _) ?_ | refine za ?_) | ((apply f_bb); first | refine zg2 ?_ | refine zh2 ?_ | refine za ?_) | refine n_al ?_ | refine n_bo ?_ | refine za ?_) | ((apply f_w); first | refine zy ?_ | refine zc ?_) | refine zb fun C => ?_ | refine zn ?_ | refine ze ?_ | refine zh ?_ | refine zi ?_ | refine zx rfl ?_ | refine zv rfl ?_)
      refine zu ?_; refine ret0 rfl zn2 ⟨?_, rfl⟩
      rfl
  | true =>
    simp only [Bool.true_and]
    have hh2 := hh
    unfold modHead at hh2
    simp only [Bool.and_eq_true, decide_eq_true_iff] at hh2
    obtain ⟨⟨⟨⟨q0, q1⟩, q2⟩, q3⟩, q4⟩ := hh2
    have w2 := zs5 x2 0 400
    have w3 := zs5 x3 0 400
    have w4 := zs5 (l4.length : Int) 3 9
    rw [q2] at w2
    rw [q3] at w3
    rw [q4] at w4
    clear hh
    repeat' (first | ((apply f_wo); first | ((apply f_gs); first | refine n_sk ?_) | ((apply f_mv); first | (refine zw1 ?_ ?_ <;> intro hG <;> (try cases hG)) | refine zg1 (v := .c _) ?_ | refine za ?_) | ((apply f_as); first | refine zf1 (v := .c _) ?_ | refine za ?_) | ((apply f_fa); first | refine n_fa ?_ | refine zk1 ?_) | ((apply f_ld); first | refine zp1 ?_ | refine zb1 ?_ | refine zw ?_ | refine zi1 ?_ | refine n_ld ?_) | ((apply f_ca); first | refine zr2 (w2) ?_ | refine zp2 (w2) ?_ | refine zr2 (w3) ?_ | refine zp2 (w3) ?_ | refine zr2 (w4) ?_ | refine zp2 (w4) ?_) | ((apply f_bi); first | refine zd1 ?_ | refine zc1 ?_ | refine ze1 ?_ | refine za ?_) | ((apply f_st); first | refine n_st ?_ | refine zt1 ?_) | ((apply f_ia); first | refine n_ix ?_ | refine zc2 ?_ | refine za ?_) | ((apply zy2); first | refine zk2 ?_ | refine za ?_) | ((apply za2); first | refine zq ?_ | refine za ?_) | ((apply zq3); first | refine zh1 ?_ | refine za ?_) | ((apply zs3); first | refine zo1 ?_ | refine za ?_) | ((apply zs1); first | refine zo ?_ | refine zr1 ?_ | refine za ?_) | ((apply f_no); first | refine zj2 ?_ | refine za ?_) | ((apply f_pk); first | refine zu1 (v := .c _) ?_ | refine za ?_) | ((apply f_bb); first | refine zg2 ?_ | refine zh2 ?_ | refine za ?_) | refine n_al ?_ | refine n_bo ?_ | refine za ?_) | ((apply f_w); first | refine zy ?_ | refine zc ?_) | refine zb fun C => ?_ | refine zn ?_ | refine ze ?_ | refine zh ?_ | refine zi ?_)
    all_goals first
      | (exfalso; simp only [decide_eq_true_iff] at hG; omega)
      | skip
    refine zv rfl ?_
    cases hv : l0.all valE with
    | false =>
      rw [hv] at c1
      repeat' (first | ((apply f_wo); first | ((apply f_gs); first | refine n_sk ?_) | ((apply f_mv); first | (refine zw1 ?_ ?_ <;> intro hG <;> (try cases hG)) | refine zg1 (v := .c _) ?_ | refine za ?_) | ((apply f_as); first | refine zf1 (v := .c _) ?_ | refine za ?_) | ((apply f_fa); first | refine n_fa ?_ | refine zk1 ?_) | ((apply f_ld); first | refine zp1 ?_ | refine zb1 ?_ | refine zw ?_ | refine zi1 ?_ | refine n_ld ?_) | ((apply f_ca); first | refine zr2 (c1) ?_ | refine zp2 (c1) ?_ | refine zr2 (c2) ?_ | refine zp2 (c2) ?_) | ((apply f_bi); first | refine zd1 ?_ | refine zc1 ?_ | refine ze1 ?_ | refine za ?_) | ((apply f_st); first | refine n_st ?_ | refine zt1 ?_) | ((apply f_ia); first | refine n_ix ?_ | refine zc2 ?_ | refine za ?_) | ((apply zy2); first | refine zk2 ?_ | refine za ?_) | ((apply za2); first | refine zq ?_ | refine za ?_) | ((apply zq3); first | refine zh1 ?_ | refine za ?_) | ((apply zs3); first | refine zo1 ?_ | refine za ?_) | ((apply zs1); first | refine zo ?_ | refine zr1 ?_ | refine za ?_) | ((apply f_no); first | refine zj2 ?_ | refine za ?_) | ((apply f_pk); first | refine zu1 (v := .c _) ?_ | refine za ?_) | ((apply f_bb); first | refine zg2 ?_ | refine zh2 ?_ | refine za ?_) | refine n_al ?_ | refine n_bo ?_ | refine za ?_) | ((apply f_w); first | refine zy ?_ | refine zc ?_) | refine zb fun C => ?_ | refine zn ?_ | refine ze ?_ | refine zh ?_ | refine zi ?_ | refine zx rfl ?_ | refine zv rfl ?_)
      refine zu ?_; refine ret0 rfl zn2 ⟨?_, rfl⟩
      rfl
    | true =>
    rw [hv] at c1
    cases hv2 : l1.all rexNE with
    | false =>
      rw [hv2] at c2
      repeat' (first | ((apply f_wo); first | ((apply f_gs); first | refine n_sk ?_) | ((apply f_mv); first | (refine zw1 ?_ ?_ <;> intro hG <;> (try cases hG)) | refine zg1 (v := .c _) ?_ | refine za ?_) | ((apply f_as); first | refine zf1 (v := .c _) ?_ | refine za ?_) | ((apply f_fa); first | refine n_fa ?_ | refine zk1 ?_) | ((apply f_ld); first | refine zp1 ?_ | refine zb1 ?_ | refine zw ?_ | refine zi1 ?_ | refine n_ld ?_) | ((apply f_ca); first | refine zr2 (c1) ?_ | refine zp2 (c1) ?_ | refine zr2 (c2) ?_ | refine zp2 (c2) ?_) | ((apply f_bi); first | refine zd1 ?_ | refine zc1 ?_ | refine ze1 ?_ | refine za ?_) | ((apply f_st); first | refine n_st ?_ | refine zt1 ?_) | ((apply f_ia); first | refine n_ix ?_ | refine zc2 ?_ | refine za ?_) | ((apply zy2); first | refine zk2 ?_ | refine za ?_) | ((apply za2); first | refine zq ?_ | refine za ?_) | ((apply zq3); first | refine zh1 ?_ | refine za ?_) | ((apply zs3); first | refine zo1 ?_ | refine za ?_) | ((apply zs1); first | refine zo ?_ | refine zr1 ?_ | refine za ?_) | ((apply f_no); first | refine zj2 ?_ | refine za ?_) | ((apply f_pk); first | refine zu1 (v := .c _) ?_ | refine za ?_) | ((apply f_bb); first | refine zg2 ?_ | refine zh2 ?_ | refine za ?_) | refine n_al ?_ | refine n_bo ?_ | refine za ?_) | ((apply f_w); first | refine zy ?_ | refine zc ?_) | refine zb fun C => ?_ | refine zn ?_ | refine ze ?_ | refine zh ?_ | refine zi ?_ | refine zx rfl ?_ | refine zv rfl ?_)
      refine zu ?_; refine ret0 rfl zn2 ⟨?_, rfl⟩
      rfl
    | true =>
    rw [hv2] at c2
    simp only [Bool.true_and]
    repeat' (first | ((apply f_wo); first | ((apply f_gs); first | refine n_sk ?_) | ((apply f_mv); first | (refine zw1 ?_ ?_ <;> intro hG <;> (try cases hG)) | refine zg1 (v := .c _) ?_ | refine za ?_) | ((apply f_as); first | refine zf1 (v := .c _) ?_ | refine za ?_) | ((apply f_fa); first | refine n_fa ?_ | refine zk1 ?_) | ((apply f_ld); first | refine zp1 ?_ | refine zb1 ?_ | refine zw ?_ | refine zi1 ?_ | refine n_ld ?_) | ((apply f_ca); first | refine zr2 (c1) ?_ | refine zp2 (c1) ?_ | refine zr2 (c2) ?_ | refine zp2 (c2) ?_) | ((apply f_bi); first | refine zd1 ?_ | refine zc1 ?_ | refine ze1 ?_ | refine za ?_) | ((apply f_st); first | refine n_st ?_ | refine zt1 ?_) | ((apply f_ia); first | refine n_ix ?_ | refine zc2 ?_ | refine za ?_) | ((apply zy2); first | refine zk2 ?_ | refine za ?_) | ((apply za2); first | refine zq ?_ | refine za ?_) | ((apply zq3); first | refine zh1 ?_ | refine za ?_) | ((apply zs3); first | refine zo1 ?_ | refine za ?_) | ((apply zs1); first | refine zo ?_ | refine zr1 ?_ | refine za ?_) | ((apply f_no); first | refine zj2 ?_ | refine za ?_) | ((apply f_pk); first | refine zu1 (v := .c _) ?_ | refine za ?_) | ((apply f_bb); first | refine zg2 ?_ | refine zh2 ?_ | refine za ?_) | refine n_al ?_ | refine n_bo ?_ | refine za ?_) | ((apply f_w); first | refine zy ?_ | refine zc ?_) | refine zb fun C => ?_ | refine zn ?_ | refine ze ?_ | refine zh ?_ | refine zi ?_ | refine zx rfl ?_ | refine zv rfl ?_)
    clear c1 c2 w2 w3 w4 hs1
    generalize htot : fnsOk l4.length 0 l4 = tot
    refine zp3 (fun k : Nat => ⟨tmsF [(1, .c (.pt 1 0)), (43, .c (.ro l4.length 2 (acL l4))), (44, .c (.v (.int .i64 l4.length))), (45, .c (.v (.int .i64 k)))], hpsF [(1, 1, ⟨42, 0, 0, true, [.ro l0.length 3 (acL l0), .ro l1.length 1 (acL l1), .v (.int .i64 x2), .v (.int .i64 x3), .ro l4.length 2 (acL l4)]⟩)], 0, [1], 78⟩)
      (fun N k => k + N = l4.length ∧ fnsOk l4.length k (l4.drop k) = tot) l4.length 0 ⟨by omega, htot⟩ ?_ ?_
    · (refine zo2 _ _ rfl rfl ?_ ?_ <;> (repeat' (first | exact TmOk.nil | exact RwOk.nil | refine TmOk.cons ?_ ?_ | refine RwOk.cons ?_ ?_ | rfl | (refine rnV_id' rfl ?_; (first | rfl | (simp [cloV, cloL, clo, zj, zf, zk, zg, zd]; done))) | (refine zd3 ?_; first | rfl | omega | (rw [zb2 (by omega) (by omega)]; omega)) | (refine zi2 rfl ?_; (first | rfl | (simp [cloV, cloL, clo, zj, zf, zk, zg, zd]; done))) | exact zj4 rfl rfl | (refine ze3 (by rfl) (by rfl) ?_ ?_ <;> (first | rfl | (simp [cloV, cloL, clo, zj, zf, zk, zg, zd]; done))) | (refine rw_rn' rfl rfl ?_; simp; done))))
    rintro N k ⟨hN, ht⟩
    repeat' (first | ((apply f_wo); first | ((apply f_gs); first | refine n_sk ?_) | ((apply f_mv); first | (refine zw1 ?_ ?_ <;> intro hG <;> (try cases hG)) | refine zg1 (v := .c _) ?_ | refine za ?_) | ((apply f_as); first | refine zf1 (v := .c _) ?_ | refine za ?_) | ((apply f_fa); first | refine n_fa ?_ | refine zk1 ?_) | ((apply f_ld); first | refine zp1 ?_ | refine zb1 ?_ | refine zw ?_ | refine zi1 ?_ | refine n_ld ?_) | ((apply f_bi); first | refine zd1 ?_ | refine zc1 ?_ | refine ze1 ?_ | refine za ?_) | ((apply f_st); first | refine n_st ?_ | refine zt1 ?_) | ((apply f_ia); first | refine n_ix ?_ | refine zc2 ?_ | refine za ?_) | ((apply zy2); first | refine zk2 ?_ | refine za ?_) | ((apply za2); first | refine zq ?_ | refine za ?_) | ((apply zq3); first | refine zh1 ?_ | refine za ?_) | ((apply zs3); first | refine zo1 ?_ | refine za ?_) | ((apply zs1); first | refine zo ?_ | refine zr1 ?_ | refine za ?_) | ((apply f_no); first | refine zj2 ?_ | refine za ?_) | ((apply f_pk); first | refine zu1 (v := .c _) ?_ | refine za ?_) | ((apply f_bb); first | refine zg2 ?_ | refine zh2 ?_ | refine za ?_) | refine n_al ?_ | refine n_bo ?_ | refine za ?_) | ((apply f_w); first | refine zy ?_ | refine zc ?_) | refine zb fun C => ?_ | refine zn ?_ | refine ze ?_ | refine zh ?_ | refine zi ?_)
    refine zt (by rfl) (fun hk1 => ?_) fun hk1 => ?_
    · have hk' : k < l4.length := by simpa using hk1
      obtain ⟨x, hx⟩ : ∃ x, l4[k]? = some x := ⟨_, List.getElem?_eq_getElem hk'⟩
      have hd1 : l4.drop k = x :: l4.drop (k + 1) := by rw [List.drop_eq_getElem_cons hk']; congr 1; rw [List.getElem?_eq_getElem hk'] at hx; exact Option.some.inj hx
      rw [hd1] at ht
      have hxm := List.mem_of_getElem? hx
      have hxz := E.szL_mem hxm
      have hgk := ka4
      obtain ⟨pp, pA, pc, code, rfl, -, ⟨hc, hck⟩, -⟩ := zt4 (a4 x hxm)
      simp only [E.sz, E.szL] at hxz
      have c3 := zc22 hc hck (by omega) (fun x => !(insE x)) 46 fun x hx => clo3_c (hc x hx)
      rw [zh22] at c3
      have hst : fnOkE l4.length k (E.agg [E.int .i64 pp, E.lst 2 70 pA pc code]) = (inR pp 0 4 && !(decide (l4.length ≤ k + 3) && !(pp == 0)) && inR code.length 1 3000 && code.all insE) := rfl
      unfold fnsOk at ht
      rw [hst] at ht
      repeat' (first | ((apply f_wo); first | ((apply f_gs); first | refine n_sk ?_) | ((apply f_mv); first | (refine zw1 ?_ ?_ <;> intro hG <;> (try cases hG)) | refine zg1 (v := .c _) ?_ | refine za ?_) | ((apply f_as); first | refine zf1 (v := .c _) ?_ | refine za ?_) | ((apply f_fa); first | refine n_fa ?_ | refine zk1 ?_) | ((apply f_ld); first | refine zp1 ?_ | refine zb1 ?_ | refine zw ?_ | refine zi1 ?_ | refine n_ld ?_) | ((apply f_ca); first | refine zr2 ((zs5 _ _ _)) ?_ | refine zp2 ((zs5 _ _ _)) ?_ | refine zr2 (c3) ?_ | refine zp2 (c3) ?_) | ((apply f_bi); first | refine zd1 ?_ | refine zc1 ?_ | refine ze1 ?_ | refine za ?_) | ((apply f_st); first | refine n_st ?_ | refine zt1 ?_) | ((apply f_ia); first | refine n_ix ?_ | refine zc2 ?_ | refine za ?_) | ((apply zy2); first | refine zk2 ?_ | refine za ?_) | ((apply za2); first | refine zq ?_ | refine za ?_) | ((apply zq3); first | refine zh1 ?_ | refine za ?_) | ((apply zs3); first | refine zo1 ?_ | refine za ?_) | ((apply zs1); first | refine zo ?_ | refine zr1 ?_ | refine za ?_) | ((apply f_no); first | refine zj2 ?_ | refine za ?_) | ((apply f_pk); first | refine zu1 (v := .c _) ?_ | refine za ?_) | ((apply f_bb); first | refine zg2 ?_ | refine zh2 ?_ | refine za ?_) | refine n_al ?_ | refine n_bo ?_ | refine za ?_) | ((apply f_w); first | refine zy ?_ | refine zc ?_) | refine zb fun C => ?_ | refine zn ?_ | refine ze ?_ | refine zh ?_ | refine zi ?_ | (refine zt (by rfl) ?_ ?_ <;> intro hC <;> (try cases hC)))
      all_goals first
        | (refine zu ?_; refine ret0 rfl zn2 ⟨?_, rfl⟩
           rw [← ht]
           clear c3 a0 a1 a4 ka0 ka1 ka4 he hc hck hgk hst ht
           simp only [inR, Bool.not_eq_true', Bool.not_eq_false', bne_iff_ne, ne_eq, bne_eq_false_iff_eq, decide_eq_true_iff, decide_eq_false_iff_not, Bool.and_eq_true, Bool.and_eq_false_iff] at *
           first
             | (simp_all; done)
             | (rw [show (decide ((0 : Int) ≤ pp) && decide (pp ≤ 4)) = false by simp; omega]; rfl)
             | (simp [*]; omega))
        | skip
      all_goals first
        | (refine zu ?_; refine ret0 rfl zn2 ⟨?_, rfl⟩
           have hD : code.all insE = false := by simpa using hC
           rw [← ht, hD, Bool.and_false, Bool.false_and]; done)
        | (refine ⟨N - 1, k + 1, by omega, ⟨by omega, ?_⟩, ?_⟩
           · have hD : code.all insE = true := by simpa using hC
             have hA : (inR pp 0 4 && !(decide (l4.length ≤ k + 3) && !(pp == 0)) && inR code.length 1 3000) = true := by
               clear c3 a0 a1 a4 ka0 ka1 ka4 he hc hck hgk hst ht hD
               simp only [inR, Bool.not_eq_true', Bool.not_eq_false', bne_iff_ne, ne_eq, bne_eq_false_iff_eq, decide_eq_true_iff, decide_eq_false_iff_not, Bool.and_eq_true, Bool.and_eq_false_iff, beq_iff_eq, beq_eq_false_iff_ne] at *
               omega
             rw [← ht, hD, hA]; rfl
           · (refine zo2 _ _ rfl rfl ?_ ?_ <;> (repeat' (first | exact TmOk.nil | exact RwOk.nil | refine TmOk.cons ?_ ?_ | refine RwOk.cons ?_ ?_ | rfl | (refine rnV_id' rfl ?_; (first | rfl | (simp [cloV, cloL, clo, zj, zf, zk, zg, zd]; done))) | (refine zd3 ?_; first | rfl | omega | (rw [zb2 (by omega) (by omega)]; omega)) | (refine zi2 rfl ?_; (first | rfl | (simp [cloV, cloL, clo, zj, zf, zk, zg, zd]; done))) | exact zj4 rfl rfl | (refine ze3 (by rfl) (by rfl) ?_ ?_ <;> (first | rfl | (simp [cloV, cloL, clo, zj, zf, zk, zg, zd]; done))) | (refine rw_rn' rfl rfl ?_; simp; done)))))
    · have hk' : ¬ k < l4.length := by simpa using hk1
      obtain rfl : k = l4.length := by omega
      rw [List.drop_length] at ht
      repeat' (first | ((apply f_wo); first | ((apply f_gs); first | refine n_sk ?_) | ((apply f_mv); first | (refine zw1 ?_ ?_ <;> intro hG <;> (try cases hG)) | refine zg1 (v := .c _) ?_ | refine za ?_) | ((apply f_as); first | refine zf1 (v := .c _) ?_ | refine za ?_) | ((apply f_fa); first | refine n_fa ?_ | refine zk1 ?_) | ((apply f_ld); first | refine zp1 ?_ | refine zb1 ?_ | refine zw ?_ | refine zi1 ?_ | refine n_ld ?_) | ((apply f_bi); first | refine zd1 ?_ | refine zc1 ?_ | refine ze1 ?_ | refine za ?_) | ((apply f_st); first | refine n_st ?_ | refine zt1 ?_) | ((apply f_ia); first | refine n_ix ?_ | refine zc2 ?_ | refine za ?_) | ((apply zy2); first | refine zk2 ?_ | refine za ?_) | ((apply za2); first | refine zq ?_ | refine za ?_) | ((apply zq3); first | refine zh1 ?_ | refine za ?_) | ((apply zs3); first | refine zo1 ?_ | refine za ?_) | ((apply zs1); first | refine zo ?_ | refine zr1 ?_ | refine za ?_) | ((apply f_no); first | refine zj2 ?_ | refine za ?_) | ((apply f_pk); first | refine zu1 (v := .c _) ?_ | refine za ?_) | ((apply f_bb); first | refine zg2 ?_ | refine zh2 ?_ | refine za ?_) | refine n_al ?_ | refine n_bo ?_ | refine za ?_) | ((apply f_w); first | refine zy ?_ | refine zc ?_) | refine zb fun C => ?_ | refine zn ?_ | refine ze ?_ | refine zh ?_ | refine zi ?_ | refine zx rfl ?_ | refine zv rfl ?_)
      refine zu ?_; refine ret0 rfl zn2 ⟨?_, rfl⟩
      rw [← ht]; rfl
def fnS : E → Bool
  | .agg [.int _ pp, .lst _ _ _ _ code] => code.all insE && (inR pp 0 4 && inR code.length 1 3000)
  | _ => false
theorem l18Fn_c {f : E} (hf : f.Ty Try.prog 63) (hsz : f.sz ≤ 1048576) : Ctr Try.prog 36 [.ag (acE f)] [] (.c (.v (.bool (fnS f)))) [] := by
  obtain ⟨pp, pA, pc, code, rfl, -, ⟨hc, hck⟩, -⟩ := zt4 hf
  simp only [E.sz, E.szL] at hsz
  have hlen : code.length ≤ 1048576 := by omega
  show Ctr _ _ _ _ (.c (.v (.bool (code.all insE && (inR pp 0 4 && inR code.length 1 3000))))) _
  refine zm2 Try.func36 rfl rfl ?_
  repeat' (first | ((apply f_wo); first | ((apply f_gs); first | refine n_sk ?_) | ((apply f_mv); first | (refine zw1 ?_ ?_ <;> intro hG <;> (try cases hG)) | refine zg1 (v := .c _) ?_ | refine za ?_) | ((apply f_as); first | refine zf1 (v := .c _) ?_ | refine za ?_) | ((apply f_fa); first | refine n_fa ?_ | refine zk1 ?_) | ((apply f_ld); first | refine zp1 ?_ | refine zb1 ?_ | refine zw ?_ | refine zi1 ?_ | refine n_ld ?_) | ((apply f_bi); first | refine zd1 ?_ | refine zc1 ?_ | refine ze1 ?_ | refine za ?_) | ((apply f_ia); first | refine n_ix ?_ | refine zc2 ?_ | refine za ?_) | ((apply za2); first | refine zq ?_ | refine za ?_) | ((apply zs1); first | refine zo ?_ | refine zr1 ?_ | refine za ?_) | ((apply f_no); first | refine zj2 ?_ | refine za ?_) | ((apply f_pk); first | refine zu1 (v := .c _) ?_ | refine za ?_) | refine n_bo ?_ | refine za ?_) | ((apply f_w); first | refine zy ?_ | refine zc ?_) | refine zb fun C => ?_ | refine zn ?_ | refine ze ?_ | refine zh ?_ | refine zi ?_)
  refine zp3 (fun k : Nat => ⟨tmsF [(1, .c (.pt 1 0)), (3, .c (.v (.int .i64 k)))], hpsF [(1, 1, ⟨63, 0, 0, true, [.v (.int .i64 pp), .ro code.length 2 (acL code)]⟩)], 0, [1], 27⟩)
    (fun N k => k + N = code.length ∧ ∀ j y, j < k → code[j]? = some y → insE y = true) code.length 0 ⟨by omega, by omega⟩ ?_ ?_
  · (refine zo2 _ _ rfl rfl ?_ ?_ <;> (repeat' (first | exact TmOk.nil | exact RwOk.nil | refine TmOk.cons ?_ ?_ | refine RwOk.cons ?_ ?_ | rfl | (refine rnV_id' rfl ?_; (first | rfl | (simp [cloV, cloL, clo, zj, zf, zk, zg, zd]; done))) | (refine zd3 ?_; first | rfl | omega | (rw [zb2 (by omega) (by omega)]; omega)) | (refine zi2 rfl ?_; (first | rfl | (simp [cloV, cloL, clo, zj, zf, zk, zg, zd]; done))) | exact zj4 rfl rfl | (refine ze3 (by rfl) (by rfl) ?_ ?_ <;> (first | rfl | (simp [cloV, cloL, clo, zj, zf, zk, zg, zd]; done))) | (refine rw_rn' rfl rfl ?_; simp; done))))
  rintro N k ⟨hN, hno⟩
  repeat' (first | ((apply f_wo); first | ((apply f_gs); first | refine n_sk ?_) | ((apply f_mv); first | (refine zw1 ?_ ?_ <;> intro hG <;> (try cases hG)) | refine zg1 (v := .c _) ?_ | refine za ?_) | ((apply f_as); first | refine zf1 (v := .c _) ?_ | refine za ?_) | ((apply f_fa); first | refine n_fa ?_ | refine zk1 ?_) | ((apply f_ld); first | refine zp1 ?_ | refine zb1 ?_ | refine zw ?_ | refine zi1 ?_ | refine n_ld ?_) | ((apply f_bi); first | refine zd1 ?_ | refine zc1 ?_ | refine ze1 ?_ | refine za ?_) | ((apply f_ia); first | refine n_ix ?_ | refine zc2 ?_ | refine za ?_) | ((apply za2); first | refine zq ?_ | refine za ?_) | ((apply zs1); first | refine zo ?_ | refine zr1 ?_ | refine za ?_) | ((apply f_no); first | refine zj2 ?_ | refine za ?_) | ((apply f_pk); first | refine zu1 (v := .c _) ?_ | refine za ?_) | refine n_bo ?_ | refine za ?_) | ((apply f_w); first | refine zy ?_ | refine zc ?_) | refine zb fun C => ?_ | refine zn ?_ | refine ze ?_ | refine zh ?_ | refine zi ?_)
  refine zt (by rfl) (fun h1 => ?_) fun h1 => ?_
  · have hk' : k < code.length := by simpa using h1
    obtain ⟨x, hx⟩ : ∃ x, code[k]? = some x := ⟨_, List.getElem?_eq_getElem hk'⟩
    obtain ⟨y0, y1, rfl, -⟩ := zs4 (hc x (List.mem_of_getElem? hx))
    have hie : insE (E.agg [E.int .i64 y0, E.int .i64 y1]) = insOkS y0 y1 := rfl
    have hgk := hck
    cases hb : insE (E.agg [E.int .i64 y0, E.int .i64 y1]) with
    | false =>
      rw [hie] at hb
      have ci := zs10 y0 y1
      rw [hb] at ci
      repeat' (first | ((apply f_wo); first | ((apply f_gs); first | refine n_sk ?_) | ((apply f_mv); first | (refine zw1 ?_ ?_ <;> intro hG <;> (try cases hG)) | refine zg1 (v := .c _) ?_ | refine za ?_) | ((apply f_as); first | refine zf1 (v := .c _) ?_ | refine za ?_) | ((apply f_fa); first | refine n_fa ?_ | refine zk1 ?_) | ((apply f_ld); first | refine zp1 ?_ | refine zb1 ?_ | refine zw ?_ | refine zi1 ?_ | refine n_ld ?_) | ((apply f_ca); first | refine zr2 (ci) ?_ | refine zp2 (ci) ?_) | ((apply f_bi); first | refine zd1 ?_ | refine zc1 ?_ | refine ze1 ?_ | refine za ?_) | ((apply f_ia); first | refine n_ix ?_ | refine zc2 ?_ | refine za ?_) | ((apply za2); first | refine zq ?_ | refine za ?_) | ((apply zs1); first | refine zo ?_ | refine zr1 ?_ | refine za ?_) | ((apply f_no); first | refine zj2 ?_ | refine za ?_) | ((apply f_pk); first | refine zu1 (v := .c _) ?_ | refine za ?_) | refine n_bo ?_ | refine za ?_) | ((apply f_w); first | refine zy ?_ | refine zc ?_) | refine zb fun C => ?_ | refine zn ?_ | refine ze ?_ | refine zh ?_ | refine zi ?_ | refine zx rfl ?_ | refine zv rfl ?_)
      refine zu ?_; refine ret0 rfl zn2 ⟨?_, rfl⟩
      rw [zw16 hx (by rw [← hb]; rfl)]; rfl
    | true =>
      rw [hie] at hb
      have ci := zs10 y0 y1
      rw [hb] at ci
      repeat' (first | ((apply f_wo); first | ((apply f_gs); first | refine n_sk ?_) | ((apply f_mv); first | (refine zw1 ?_ ?_ <;> intro hG <;> (try cases hG)) | refine zg1 (v := .c _) ?_ | refine za ?_) | ((apply f_as); first | refine zf1 (v := .c _) ?_ | refine za ?_) | ((apply f_fa); first | refine n_fa ?_ | refine zk1 ?_) | ((apply f_ld); first | refine zp1 ?_ | refine zb1 ?_ | refine zw ?_ | refine zi1 ?_ | refine n_ld ?_) | ((apply f_ca); first | refine zr2 (ci) ?_ | refine zp2 (ci) ?_) | ((apply f_bi); first | refine zd1 ?_ | refine zc1 ?_ | refine ze1 ?_ | refine za ?_) | ((apply f_ia); first | refine n_ix ?_ | refine zc2 ?_ | refine za ?_) | ((apply za2); first | refine zq ?_ | refine za ?_) | ((apply zs1); first | refine zo ?_ | refine zr1 ?_ | refine za ?_) | ((apply f_no); first | refine zj2 ?_ | refine za ?_) | ((apply f_pk); first | refine zu1 (v := .c _) ?_ | refine za ?_) | refine n_bo ?_ | refine za ?_) | ((apply f_w); first | refine zy ?_ | refine zc ?_) | refine zb fun C => ?_ | refine zn ?_ | refine ze ?_ | refine zh ?_ | refine zi ?_ | refine zx rfl ?_ | refine zv rfl ?_)
      refine ⟨N - 1, k + 1, by omega, ⟨by omega, fun j z hj hz => ?_⟩, ?_⟩
      · by_cases e : j = k
        · rw [e, hx] at hz; injection hz with hz; subst hz; exact hb
        · exact hno j z (by omega) hz
      · (refine zo2 _ _ rfl rfl ?_ ?_ <;> (repeat' (first | exact TmOk.nil | exact RwOk.nil | refine TmOk.cons ?_ ?_ | refine RwOk.cons ?_ ?_ | rfl | (refine rnV_id' rfl ?_; (first | rfl | (simp [cloV, cloL, clo, zj, zf, zk, zg, zd]; done))) | (refine zd3 ?_; first | rfl | omega | (rw [zb2 (by omega) (by omega)]; omega)) | (refine zi2 rfl ?_; (first | rfl | (simp [cloV, cloL, clo, zj, zf, zk, zg, zd]; done))) | exact zj4 rfl rfl | (refine ze3 (by rfl) (by rfl) ?_ ?_ <;> (first | rfl | (simp [cloV, cloL, clo, zj, zf, zk, zg, zd]; done))) | (refine rw_rn' rfl rfl ?_; simp; done))))
  · have hk' : ¬ k < code.length := by simpa using h1
    rw [zu12 (p := insE) fun j y hj hy => hno j y (by omega) hy, Bool.true_and]
    repeat' (first | ((apply f_wo); first | ((apply f_gs); first | refine n_sk ?_) | ((apply f_mv); first | (refine zw1 ?_ ?_ <;> intro hG <;> (try cases hG)) | refine zg1 (v := .c _) ?_ | refine za ?_) | ((apply f_as); first | refine zf1 (v := .c _) ?_ | refine za ?_) | ((apply f_fa); first | refine n_fa ?_ | refine zk1 ?_) | ((apply f_ld); first | refine zp1 ?_ | refine zb1 ?_ | refine zw ?_ | refine zi1 ?_ | refine n_ld ?_) | ((apply f_ca); first | refine zr2 ((zk6 _ _ _)) ?_ | refine zp2 ((zk6 _ _ _)) ?_) | ((apply f_bi); first | refine zd1 ?_ | refine zc1 ?_ | refine ze1 ?_ | refine za ?_) | ((apply f_ia); first | refine n_ix ?_ | refine zc2 ?_ | refine za ?_) | ((apply za2); first | refine zq ?_ | refine za ?_) | ((apply zs1); first | refine zo ?_ | refine zr1 ?_ | refine za ?_) | ((apply f_no); first | refine zj2 ?_ | refine za ?_) | ((apply f_pk); first | refine zu1 (v := .c _) ?_ | refine za ?_) | refine n_bo ?_ | refine za ?_) | ((apply f_w); first | refine zy ?_ | refine zc ?_) | refine zb fun C => ?_ | refine zn ?_ | refine ze ?_ | refine zh ?_ | refine zi ?_ | (refine zt (by rfl) ?_ ?_ <;> intro hC <;> (try cases hC)))
    all_goals
      (first | refine zu ?_ | skip); refine ret0 rfl zn2 ⟨?_, rfl⟩; refine congrArg (fun s => AV.c (AC.v (Value.bool s))) ?_
      first | rfl | simp_all
theorem fnOk_S {n i : Nat} {pp : Int} {A : Option Addr} {c : Nat} {code : List E} : fnOkE n i (E.agg [E.int .i64 pp, E.lst 2 70 A c code]) = (fnS (E.agg [E.int .i64 pp, E.lst 2 70 A c code]) && !(decide (n ≤ i + 3) && !(pp == 0))) := by
  show (inR pp 0 4 && !(decide (n ≤ i + 3) && !(pp == 0)) && inR code.length 1 3000 && code.all insE) = (code.all insE && (inR pp 0 4 && inR code.length 1 3000) && !(decide (n ≤ i + 3) && !(pp == 0)))
  cases inR pp 0 4 <;> cases inR code.length 1 3000 <;> cases code.all insE <;> simp
set_option maxHeartbeats 8000000 in
theorem zd11 {e : E} (he : e.Ty Try.prog 42) (hsz : e.sz ≤ 1048576) : Ctr Try.prog 13 [.ag (acE e)] [] (.c (.v (.bool (modOkE e)))) [] := by
  obtain ⟨x0A, x0c, l0, x1A, x1c, l1, x2, x3, x4A, x4c, l4, rfl, ⟨a0, ka0⟩, ⟨a1, ka1⟩, -, -, ⟨a4, ka4⟩, -⟩ := zk4 he
  simp only [E.sz, E.szL] at hsz
  have hl0 : l0.length ≤ 1048576 := by omega
  have hl1 : l1.length ≤ 1048576 := by omega
  have hl4 : l4.length ≤ 1048576 := by omega
  have hs1 := strsz a1 (by omega)
  show Ctr _ _ _ _ (.c (.v (.bool (modOkL l0 l1 x2 x3 l4)))) _
  unfold modOkL
  refine zm2 Try.func13 rfl rfl ?_
  repeat' (first | ((apply f_wo); first | ((apply f_gs); first | refine n_sk ?_) | ((apply f_mv); first | (refine zw1 ?_ ?_ <;> intro hG <;> (try cases hG)) | refine zg1 (v := .c _) ?_ | refine za ?_) | ((apply f_as); first | refine zf1 (v := .c _) ?_ | refine za ?_) | ((apply f_fa); first | refine n_fa ?_ | refine zk1 ?_) | ((apply f_ld); first | refine zp1 ?_ | refine zb1 ?_ | refine zw ?_ | refine zi1 ?_ | refine n_ld ?_) | ((apply f_bi); first | refine zd1 ?_ | refine zc1 ?_ | refine ze1 ?_ | refine za ?_) | ((apply f_ia); first | refine n_ix ?_ | refine zc2 ?_ | refine za ?_) | ((apply zy2); first | refine zk2 ?_ | refine za ?_) | ((apply za2); first | refine zq ?_ | refine za ?_) | ((apply zb6); first | refine zj3 ?_ | refine za ?_) | ((apply zs3); first | refine zo1 ?_ | refine za ?_) | ((apply zs1); first | refine zo ?_ | refine zr1 ?_ | refine za ?_) | ((apply f_no); first | refine zj2 ?_ | refine za ?_) | ((apply f_pk); first | refine zu1 (v := .c _) ?_ | refine za ?_) | ((apply f_bb); first | refine zg2 ?_ | refine zh2 ?_ | refine za ?_) | refine n_bo ?_ | refine za ?_) | ((apply f_w); first | refine zy ?_ | refine zc ?_) | refine zb fun C => ?_ | refine zn ?_ | refine ze ?_ | refine zh ?_ | refine zi ?_)
  refine zp3 (fun k : Nat => ⟨tmsF [(1, .c (.pt 1 0)), (3, .c (.v (.int .i64 k)))], hpsF [(1, 1, ⟨42, 0, 0, true, [.ro l0.length 3 (acL l0), .ro l1.length 1 (acL l1), .v (.int .i64 x2), .v (.int .i64 x3), .ro l4.length 2 (acL l4)]⟩)], 0, [1], 91⟩)
    (fun N k => k + N = l0.length ∧ ∀ j y, j < k → l0[j]? = some y → valE y = true) l0.length 0 ⟨by omega, by omega⟩ ?_ ?_
  · (refine zo2 _ _ rfl rfl ?_ ?_ <;> (repeat' (first | exact TmOk.nil | exact RwOk.nil | refine TmOk.cons ?_ ?_ | refine RwOk.cons ?_ ?_ | rfl | (refine rnV_id' rfl ?_; (first | rfl | (simp [cloV, cloL, clo, zj, zf, zk, zg, zd]; done))) | (refine zd3 ?_; first | rfl | omega | (rw [zb2 (by omega) (by omega)]; omega)) | (refine zi2 rfl ?_; (first | rfl | (simp [cloV, cloL, clo, zj, zf, zk, zg, zd]; done))) | exact zj4 rfl rfl | (refine ze3 (by rfl) (by rfl) ?_ ?_ <;> (first | rfl | (simp [cloV, cloL, clo, zj, zf, zk, zg, zd]; done))) | (refine rw_rn' rfl rfl ?_; simp; done))))
  rintro N k ⟨hN, hno⟩
  repeat' (first | ((apply f_wo); first | ((apply f_gs); first | refine n_sk ?_) | ((apply f_mv); first | (refine zw1 ?_ ?_ <;> intro hG <;> (try cases hG)) | refine zg1 (v := .c _) ?_ | refine za ?_) | ((apply f_as); first | refine zf1 (v := .c _) ?_ | refine za ?_) | ((apply f_fa); first | refine n_fa ?_ | refine zk1 ?_) | ((apply f_ld); first | refine zp1 ?_ | refine zb1 ?_ | refine zw ?_ | refine zi1 ?_ | refine n_ld ?_) | ((apply f_bi); first | refine zd1 ?_ | refine zc1 ?_ | refine ze1 ?_ | refine za ?_) | ((apply f_ia); first | refine n_ix ?_ | refine zc2 ?_ | refine za ?_) | ((apply zy2); first | refine zk2 ?_ | refine za ?_) | ((apply za2); first | refine zq ?_ | refine za ?_) | ((apply zb6); first | refine zj3 ?_ | refine za ?_) | ((apply zs3); first | refine zo1 ?_ | refine za ?_) | ((apply zs1); first | refine zo ?_ | refine zr1 ?_ | refine za ?_) | ((apply f_no); first | refine zj2 ?_ | refine za ?_) | ((apply f_pk); first | refine zu1 (v := .c _) ?_ | refine za ?_) | ((apply f_bb); first | refine zg2 ?_ | refine zh2 ?_ | refine za ?_) | refine n_bo ?_ | refine za ?_) | ((apply f_w); first | refine zy ?_ | refine zc ?_) | refine zb fun C => ?_ | refine zn ?_ | refine ze ?_ | refine zh ?_ | refine zi ?_)
  refine zt (by rfl) (fun h1 => ?_) fun h1 => ?_
  · have hk' : k < l0.length := by simpa using h1
    obtain ⟨x, hx⟩ : ∃ x, l0[k]? = some x := ⟨_, List.getElem?_eq_getElem hk'⟩
    have hxt := a0 x (List.mem_of_getElem? hx)
    have ci := zt15 hxt
    have hgk := ka0
    cases hb : valE x with
    | false =>
      rw [hb] at ci
      have hf := zw16 hx hb
      rw [hf, Bool.false_and, Bool.false_and, Bool.and_false]
      clear hf hno
      obtain ⟨v0, v1, v2, rfl, -⟩ := zy3 hxt
      repeat' (first | ((apply f_wo); first | ((apply f_gs); first | refine n_sk ?_) | ((apply f_mv); first | (refine zw1 ?_ ?_ <;> intro hG <;> (try cases hG)) | refine zg1 (v := .c _) ?_ | refine za ?_) | ((apply f_as); first | refine zf1 (v := .c _) ?_ | refine za ?_) | ((apply f_fa); first | refine n_fa ?_ | refine zk1 ?_) | ((apply f_ld); first | refine zp1 ?_ | refine zb1 ?_ | refine zw ?_ | refine zi1 ?_ | refine n_ld ?_) | ((apply f_ca); first | refine zr2 (ci) ?_ | refine zp2 (ci) ?_) | ((apply f_bi); first | refine zd1 ?_ | refine zc1 ?_ | refine ze1 ?_ | refine za ?_) | ((apply f_ia); first | refine n_ix ?_ | refine zc2 ?_ | refine za ?_) | ((apply zy2); first | refine zk2 ?_ | refine za ?_) | ((apply za2); first | refine zq ?_ | refine za ?_) | ((apply zb6); first | refine zj3 ?_ | refine za ?_) | ((apply zs3); first | refine zo1 ?_ | refine za ?_) | ((apply zs1); first | refine zo ?_ | refine zr1 ?_ | refine za ?_) | ((apply f_no); first | refine zj2 ?_ | refine za ?_) | ((apply f_pk); first | refine zu1 (v := .c _) ?_ | refine za ?_) | ((apply f_bb); first | refine zg2 ?_ | refine zh2 ?_ | refine za ?_) | refine n_bo ?_ | refine za ?_) | ((apply f_w); first | refine zy ?_ | refine zc ?_) | refine zb fun C => ?_ | refine zn ?_ | refine ze ?_ | refine zh ?_ | refine zi ?_ | refine zx rfl ?_ | refine zv rfl ?_)
      refine zu ?_; refine ret0 rfl zn2 ⟨?_, rfl⟩
      rfl
    | true =>
      rw [hb] at ci
      have hno2 : ∀ j z, j < k + 1 → l0[j]? = some z → valE z = true := fun j z hj hz => by
        by_cases e : j = k
        · rw [e, hx] at hz; injection hz with hz; subst hz; exact hb
        · exact hno j z (by omega) hz
      clear hno hb
      obtain ⟨v0, v1, v2, rfl, -⟩ := zy3 hxt
      repeat' (first | ((apply f_wo); first | ((apply f_gs); first | refine n_sk ?_) | ((apply f_mv); first | (refine zw1 ?_ ?_ <;> intro hG <;> (try cases hG)) | refine zg1 (v := .c _) ?_ | refine za ?_) | ((apply f_as); first | refine zf1 (v := .c _) ?_ | refine za ?_) | ((apply f_fa); first | refine n_fa ?_ | refine zk1 ?_) | ((apply f_ld); first | refine zp1 ?_ | refine zb1 ?_ | refine zw ?_ | refine zi1 ?_ | refine n_ld ?_) | ((apply f_ca); first | refine zr2 (ci) ?_ | refine zp2 (ci) ?_) | ((apply f_bi); first | refine zd1 ?_ | refine zc1 ?_ | refine ze1 ?_ | refine za ?_) | ((apply f_ia); first | refine n_ix ?_ | refine zc2 ?_ | refine za ?_) | ((apply zy2); first | refine zk2 ?_ | refine za ?_) | ((apply za2); first | refine zq ?_ | refine za ?_) | ((apply zb6); first | refine zj3 ?_ | refine za ?_) | ((apply zs3); first | refine zo1 ?_ | refine za ?_) | ((apply zs1); first | refine zo ?_ | refine zr1 ?_ | refine za ?_) | ((apply f_no); first | refine zj2 ?_ | refine za ?_) | ((apply f_pk); first | refine zu1 (v := .c _) ?_ | refine za ?_) | ((apply f_bb); first | refine zg2 ?_ | refine zh2 ?_ | refine za ?_) | refine n_bo ?_ | refine za ?_) | ((apply f_w); first | refine zy ?_ | refine zc ?_) | refine zb fun C => ?_ | refine zn ?_ | refine ze ?_ | refine zh ?_ | refine zi ?_ | refine zx rfl ?_ | refine zv rfl ?_)
      refine ⟨N - 1, k + 1, by omega, ⟨by omega, hno2⟩, ?_⟩
      (refine zo2 _ _ rfl rfl ?_ ?_ <;> (repeat' (first | exact TmOk.nil | exact RwOk.nil | refine TmOk.cons ?_ ?_ | refine RwOk.cons ?_ ?_ | rfl | (refine rnV_id' rfl ?_; (first | rfl | (simp [cloV, cloL, clo, zj, zf, zk, zg, zd]; done))) | (refine zd3 ?_; first | rfl | omega | (rw [zb2 (by omega) (by omega)]; omega)) | (refine zi2 rfl ?_; (first | rfl | (simp [cloV, cloL, clo, zj, zf, zk, zg, zd]; done))) | exact zj4 rfl rfl | (refine ze3 (by rfl) (by rfl) ?_ ?_ <;> (first | rfl | (simp [cloV, cloL, clo, zj, zf, zk, zg, zd]; done))) | (refine rw_rn' rfl rfl ?_; simp; done))))
  have hk' : ¬ k < l0.length := by simpa using h1
  rw [zu12 (p := valE) fun j y hj hy => hno j y (by omega) hy, Bool.true_and]
  clear hno hN h1
  repeat' (first | ((apply f_wo); first | ((apply f_gs); first | refine n_sk ?_) | ((apply f_mv); first | (refine zw1 ?_ ?_ <;> intro hG <;> (try cases hG)) | refine zg1 (v := .c _) ?_ | refine za ?_) | ((apply f_as); first | refine zf1 (v := .c _) ?_ | refine za ?_) | ((apply f_fa); first | refine n_fa ?_ | refine zk1 ?_) | ((apply f_ld); first | refine zp1 ?_ | refine zb1 ?_ | refine zw ?_ | refine zi1 ?_ | refine n_ld ?_) | ((apply f_bi); first | refine zd1 ?_ | refine zc1 ?_ | refine ze1 ?_ | refine za ?_) | ((apply f_ia); first | refine n_ix ?_ | refine zc2 ?_ | refine za ?_) | ((apply zy2); first | refine zk2 ?_ | refine za ?_) | ((apply za2); first | refine zq ?_ | refine za ?_) | ((apply zb6); first | refine zj3 ?_ | refine za ?_) | ((apply zs3); first | refine zo1 ?_ | refine za ?_) | ((apply zs1); first | refine zo ?_ | refine zr1 ?_ | refine za ?_) | ((apply f_no); first | refine zj2 ?_ | refine za ?_) | ((apply f_pk); first | refine zu1 (v := .c _) ?_ | refine za ?_) | ((apply f_bb); first | refine zg2 ?_ | refine zh2 ?_ | refine za ?_) | refine n_bo ?_ | refine za ?_) | ((apply f_w); first | refine zy ?_ | refine zc ?_) | refine zb fun C => ?_ | refine zn ?_ | refine ze ?_ | refine zh ?_ | refine zi ?_)
  refine zp3 (fun k : Nat => ⟨tmsF [(1, .c (.pt 1 0)), (4, .c (.v (.int .i64 k)))], hpsF [(1, 1, ⟨42, 0, 0, true, [.ro l0.length 3 (acL l0), .ro l1.length 1 (acL l1), .v (.int .i64 x2), .v (.int .i64 x3), .ro l4.length 2 (acL l4)]⟩)], 0, [1], 91⟩)
    (fun N k => k + N = l1.length ∧ ∀ j y, j < k → l1[j]? = some y → rexNE y = true) l1.length 0 ⟨by omega, by omega⟩ ?_ ?_
  · (refine zo2 _ _ rfl rfl ?_ ?_ <;> (repeat' (first | exact TmOk.nil | exact RwOk.nil | refine TmOk.cons ?_ ?_ | refine RwOk.cons ?_ ?_ | rfl | (refine rnV_id' rfl ?_; (first | rfl | (simp [cloV, cloL, clo, zj, zf, zk, zg, zd]; done))) | (refine zd3 ?_; first | rfl | omega | (rw [zb2 (by omega) (by omega)]; omega)) | (refine zi2 rfl ?_; (first | rfl | (simp [cloV, cloL, clo, zj, zf, zk, zg, zd]; done))) | exact zj4 rfl rfl | (refine ze3 (by rfl) (by rfl) ?_ ?_ <;> (first | rfl | (simp [cloV, cloL, clo, zj, zf, zk, zg, zd]; done))) | (refine rw_rn' rfl rfl ?_; simp; done))))
  rintro N k ⟨hN, hno⟩
  repeat' (first | ((apply f_wo); first | ((apply f_gs); first | refine n_sk ?_) | ((apply f_mv); first | (refine zw1 ?_ ?_ <;> intro hG <;> (try cases hG)) | refine zg1 (v := .c _) ?_ | refine za ?_) | ((apply f_as); first | refine zf1 (v := .c _) ?_ | refine za ?_) | ((apply f_fa); first | refine n_fa ?_ | refine zk1 ?_) | ((apply f_ld); first | refine zp1 ?_ | refine zb1 ?_ | refine zw ?_ | refine zi1 ?_ | refine n_ld ?_) | ((apply f_bi); first | refine zd1 ?_ | refine zc1 ?_ | refine ze1 ?_ | refine za ?_) | ((apply f_ia); first | refine n_ix ?_ | refine zc2 ?_ | refine za ?_) | ((apply zy2); first | refine zk2 ?_ | refine za ?_) | ((apply za2); first | refine zq ?_ | refine za ?_) | ((apply zb6); first | refine zj3 ?_ | refine za ?_) | ((apply zs3); first | refine zo1 ?_ | refine za ?_) | ((apply zs1); first | refine zo ?_ | refine zr1 ?_ | refine za ?_) | ((apply f_no); first | refine zj2 ?_ | refine za ?_) | ((apply f_pk); first | refine zu1 (v := .c _) ?_ | refine za ?_) | ((apply f_bb); first | refine zg2 ?_ | refine zh2 ?_ | refine za ?_) | refine n_bo ?_ | refine za ?_) | ((apply f_w); first | refine zy ?_ | refine zc ?_) | refine zb fun C => ?_ | refine zn ?_ | refine ze ?_ | refine zh ?_ | refine zi ?_)
  refine zt (by rfl) (fun h1 => ?_) fun h1 => ?_
  · have hk' : k < l1.length := by simpa using h1
    obtain ⟨x, hx⟩ : ∃ x, l1[k]? = some x := ⟨_, List.getElem?_eq_getElem hk'⟩
    have hxm := List.mem_of_getElem? hx
    have hgk := ka1
    have hxz := hs1 x hxm
    cases hb : rexNE x with
    | false =>
      have hf := zw16 hx hb
      rw [hf, Bool.false_and, Bool.and_false]
      obtain ⟨s, rfl, -⟩ := (a1 x hxm).str_ Try.underlying9
      have ci := zg22 hxz
      have hb : rexN s = false := hb
      rw [show rexN (strB (E.str s)) = false from hb] at ci
      repeat' (first | ((apply f_wo); first | ((apply f_gs); first | refine n_sk ?_) | ((apply f_mv); first | (refine zw1 ?_ ?_ <;> intro hG <;> (try cases hG)) | refine zg1 (v := .c _) ?_ | refine za ?_) | ((apply f_as); first | refine zf1 (v := .c _) ?_ | refine za ?_) | ((apply f_fa); first | refine n_fa ?_ | refine zk1 ?_) | ((apply f_ld); first | refine zp1 ?_ | refine zb1 ?_ | refine zw ?_ | refine zi1 ?_ | refine n_ld ?_) | ((apply f_ca); first | refine zr2 (ci) ?_ | refine zp2 (ci) ?_) | ((apply f_bi); first | refine zd1 ?_ | refine zc1 ?_ | refine ze1 ?_ | refine za ?_) | ((apply f_ia); first | refine n_ix ?_ | refine zc2 ?_ | refine za ?_) | ((apply zy2); first | refine zk2 ?_ | refine za ?_) | ((apply za2); first | refine zq ?_ | refine za ?_) | ((apply zb6); first | refine zj3 ?_ | refine za ?_) | ((apply zs3); first | refine zo1 ?_ | refine za ?_) | ((apply zs1); first | refine zo ?_ | refine zr1 ?_ | refine za ?_) | ((apply f_no); first | refine zj2 ?_ | refine za ?_) | ((apply f_pk); first | refine zu1 (v := .c _) ?_ | refine za ?_) | ((apply f_bb); first | refine zg2 ?_ | refine zh2 ?_ | refine za ?_) | refine n_bo ?_ | refine za ?_) | ((apply f_w); first | refine zy ?_ | refine zc ?_) | refine zb fun C => ?_ | refine zn ?_ | refine ze ?_ | refine zh ?_ | refine zi ?_ | refine zx rfl ?_ | refine zv rfl ?_)
      refine zu ?_; refine ret0 rfl zn2 ⟨?_, rfl⟩
      rfl
    | true =>
      have hno2 : ∀ j z, j < k + 1 → l1[j]? = some z → rexNE z = true := fun j z hj hz => by
        by_cases e : j = k
        · rw [e, hx] at hz; injection hz with hz; subst hz; exact hb
        · exact hno j z (by omega) hz
      obtain ⟨s, rfl, -⟩ := (a1 x hxm).str_ Try.underlying9
      have ci := zg22 hxz
      have hb : rexN s = true := hb
      rw [show rexN (strB (E.str s)) = true from hb] at ci
      repeat' (first | ((apply f_wo); first | ((apply f_gs); first | refine n_sk ?_) | ((apply f_mv); first | (refine zw1 ?_ ?_ <;> intro hG <;> (try cases hG)) | refine zg1 (v := .c _) ?_ | refine za ?_) | ((apply f_as); first | refine zf1 (v := .c _) ?_ | refine za ?_) | ((apply f_fa); first | refine n_fa ?_ | refine zk1 ?_) | ((apply f_ld); first | refine zp1 ?_ | refine zb1 ?_ | refine zw ?_ | refine zi1 ?_ | refine n_ld ?_) | ((apply f_ca); first | refine zr2 (ci) ?_ | refine zp2 (ci) ?_) | ((apply f_bi); first | refine zd1 ?_ | refine zc1 ?_ | refine ze1 ?_ | refine za ?_) | ((apply f_ia); first | refine n_ix ?_ | refine zc2 ?_ | refine za ?_) | ((apply zy2); first | refine zk2 ?_ | refine za ?_) | ((apply za2); first | refine zq ?_ | refine za ?_) | ((apply zb6); first | refine zj3 ?_ | refine za ?_) | ((apply zs3); first | refine zo1 ?_ | refine za ?_) | ((apply zs1); first | refine zo ?_ | refine zr1 ?_ | refine za ?_) | ((apply f_no); first | refine zj2 ?_ | refine za ?_) | ((apply f_pk); first | refine zu1 (v := .c _) ?_ | refine za ?_) | ((apply f_bb); first | refine zg2 ?_ | refine zh2 ?_ | refine za ?_) | refine n_bo ?_ | refine za ?_) | ((apply f_w); first | refine zy ?_ | refine zc ?_) | refine zb fun C => ?_ | refine zn ?_ | refine ze ?_ | refine zh ?_ | refine zi ?_ | refine zx rfl ?_ | refine zv rfl ?_)
      refine ⟨N - 1, k + 1, by omega, ⟨by omega, hno2⟩, ?_⟩
      (refine zo2 _ _ rfl rfl ?_ ?_ <;> (repeat' (first | exact TmOk.nil | exact RwOk.nil | refine TmOk.cons ?_ ?_ | refine RwOk.cons ?_ ?_ | rfl | (refine rnV_id' rfl ?_; (first | rfl | (simp [cloV, cloL, clo, zj, zf, zk, zg, zd]; done))) | (refine zd3 ?_; first | rfl | omega | (rw [zb2 (by omega) (by omega)]; omega)) | (refine zi2 rfl ?_; (first | rfl | (simp [cloV, cloL, clo, zj, zf, zk, zg, zd]; done))) | exact zj4 rfl rfl | (refine ze3 (by rfl) (by rfl) ?_ ?_ <;> (first | rfl | (simp [cloV, cloL, clo, zj, zf, zk, zg, zd]; done))) | (refine rw_rn' rfl rfl ?_; simp; done))))
  have hk' : ¬ k < l1.length := by simpa using h1
  rw [zu12 (p := rexNE) fun j y hj hy => hno j y (by omega) hy, Bool.true_and]
  clear hno hN h1 hs1
  repeat' (first | ((apply f_wo); first | ((apply f_gs); first | refine n_sk ?_) | ((apply f_mv); first | (refine zw1 ?_ ?_ <;> intro hG <;> (try cases hG)) | refine zg1 (v := .c _) ?_ | refine za ?_) | ((apply f_as); first | refine zf1 (v := .c _) ?_ | refine za ?_) | ((apply f_fa); first | refine n_fa ?_ | refine zk1 ?_) | ((apply f_ld); first | refine zp1 ?_ | refine zb1 ?_ | refine zw ?_ | refine zi1 ?_ | refine n_ld ?_) | ((apply f_bi); first | refine zd1 ?_ | refine zc1 ?_ | refine ze1 ?_ | refine za ?_) | ((apply f_ia); first | refine n_ix ?_ | refine zc2 ?_ | refine za ?_) | ((apply zy2); first | refine zk2 ?_ | refine za ?_) | ((apply za2); first | refine zq ?_ | refine za ?_) | ((apply zb6); first | refine zj3 ?_ | refine za ?_) | ((apply zs3); first | refine zo1 ?_ | refine za ?_) | ((apply zs1); first | refine zo ?_ | refine zr1 ?_ | refine za ?_) | ((apply f_no); first | refine zj2 ?_ | refine za ?_) | ((apply f_pk); first | refine zu1 (v := .c _) ?_ | refine za ?_) | ((apply f_bb); first | refine zg2 ?_ | refine zh2 ?_ | refine za ?_) | refine n_bo ?_ | refine za ?_) | ((apply f_w); first | refine zy ?_ | refine zc ?_) | refine zb fun C => ?_ | refine zn ?_ | refine ze ?_ | refine zh ?_ | refine zi ?_)
  generalize htot : fnsOk l4.length 0 l4 = tot
  refine zp3 (fun k : Nat => ⟨tmsF [(1, .c (.pt 1 0)), (5, .c (.v (.int .i64 k)))], hpsF [(1, 1, ⟨42, 0, 0, true, [.ro l0.length 3 (acL l0), .ro l1.length 1 (acL l1), .v (.int .i64 x2), .v (.int .i64 x3), .ro l4.length 2 (acL l4)]⟩)], 0, [1], 91⟩)
    (fun N k => k + N = l4.length ∧ fnsOk l4.length k (l4.drop k) = tot) l4.length 0 ⟨by omega, htot⟩ ?_ ?_
  · (refine zo2 _ _ rfl rfl ?_ ?_ <;> (repeat' (first | exact TmOk.nil | exact RwOk.nil | refine TmOk.cons ?_ ?_ | refine RwOk.cons ?_ ?_ | rfl | (refine rnV_id' rfl ?_; (first | rfl | (simp [cloV, cloL, clo, zj, zf, zk, zg, zd]; done))) | (refine zd3 ?_; first | rfl | omega | (rw [zb2 (by omega) (by omega)]; omega)) | (refine zi2 rfl ?_; (first | rfl | (simp [cloV, cloL, clo, zj, zf, zk, zg, zd]; done))) | exact zj4 rfl rfl | (refine ze3 (by rfl) (by rfl) ?_ ?_ <;> (first | rfl | (simp [cloV, cloL, clo, zj, zf, zk, zg, zd]; done))) | (refine rw_rn' rfl rfl ?_; simp; done))))
  rintro N k ⟨hN, ht⟩
  repeat' (first | ((apply f_wo); first | ((apply f_gs); first | refine n_sk ?_) | ((apply f_mv); first | (refine zw1 ?_ ?_ <;> intro hG <;> (try cases hG)) | refine zg1 (v := .c _) ?_ | refine za ?_) | ((apply f_as); first | refine zf1 (v := .c _) ?_ | refine za ?_) | ((apply f_fa); first | refine n_fa ?_ | refine zk1 ?_) | ((apply f_ld); first | refine zp1 ?_ | refine zb1 ?_ | refine zw ?_ | refine zi1 ?_ | refine n_ld ?_) | ((apply f_bi); first | refine zd1 ?_ | refine zc1 ?_ | refine ze1 ?_ | refine za ?_) | ((apply f_ia); first | refine n_ix ?_ | refine zc2 ?_ | refine za ?_) | ((apply zy2); first | refine zk2 ?_ | refine za ?_) | ((apply za2); first | refine zq ?_ | refine za ?_) | ((apply zb6); first | refine zj3 ?_ | refine za ?_) | ((apply zs3); first | refine zo1 ?_ | refine za ?_) | ((apply zs1); first | refine zo ?_ | refine zr1 ?_ | refine za ?_) | ((apply f_no); first | refine zj2 ?_ | refine za ?_) | ((apply f_pk); first | refine zu1 (v := .c _) ?_ | refine za ?_) | ((apply f_bb); first | refine zg2 ?_ | refine zh2 ?_ | refine za ?_) | refine n_bo ?_ | refine za ?_) | ((apply f_w); first | refine zy ?_ | refine zc ?_) | refine zb fun C => ?_ | refine zn ?_ | refine ze ?_ | refine zh ?_ | refine zi ?_)
  refine zt (by rfl) (fun hk1 => ?_) fun hk1 => ?_
  · have hk' : k < l4.length := by simpa using hk1
    obtain ⟨x, hx⟩ : ∃ x, l4[k]? = some x := ⟨_, List.getElem?_eq_getElem hk'⟩
    have hd1 : l4.drop k = x :: l4.drop (k + 1) := by rw [List.drop_eq_getElem_cons hk']; congr 1; rw [List.getElem?_eq_getElem hk'] at hx; exact Option.some.inj hx
    rw [hd1] at ht
    have hxm := List.mem_of_getElem? hx
    have hxz := E.szL_mem hxm
    have hgk := ka4
    have ci := l18Fn_c (a4 x hxm) (by omega)
    obtain ⟨pp, pA, pc, code, rfl, -, ⟨hc, hck⟩, -⟩ := zt4 (a4 x hxm)
    unfold fnsOk at ht
    rw [fnOk_S] at ht
    generalize fnS (E.agg [E.int IntKind.i64 pp, E.lst 2 70 pA pc code]) = fb at ci ht
    repeat' (first | ((apply f_wo); first | ((apply f_gs); first | refine n_sk ?_) | ((apply f_mv); first | (refine zw1 ?_ ?_ <;> intro hG <;> (try cases hG)) | refine zg1 (v := .c _) ?_ | refine za ?_) | ((apply f_as); first | refine zf1 (v := .c _) ?_ | refine za ?_) | ((apply f_fa); first | refine n_fa ?_ | refine zk1 ?_) | ((apply f_ld); first | refine zp1 ?_ | refine zb1 ?_ | refine zw ?_ | refine zi1 ?_ | refine n_ld ?_) | ((apply f_ca); first | refine zr2 (ci) ?_ | refine zp2 (ci) ?_) | ((apply f_bi); first | refine zd1 ?_ | refine zc1 ?_ | refine ze1 ?_ | refine za ?_) | ((apply f_ia); first | refine n_ix ?_ | refine zc2 ?_ | refine za ?_) | ((apply zy2); first | refine zk2 ?_ | refine za ?_) | ((apply za2); first | refine zq ?_ | refine za ?_) | ((apply zb6); first | refine zj3 ?_ | refine za ?_) | ((apply zs3); first | refine zo1 ?_ | refine za ?_) | ((apply zs1); first | refine zo ?_ | refine zr1 ?_ | refine za ?_) | ((apply f_no); first | refine zj2 ?_ | refine za ?_) | ((apply f_pk); first | refine zu1 (v := .c _) ?_ | refine za ?_) | ((apply f_bb); first | refine zg2 ?_ | refine zh2 ?_ | refine za ?_) | refine n_bo ?_ | refine za ?_) | ((apply f_w); first | refine zy ?_ | refine zc ?_) | refine zb fun C => ?_ | refine zn ?_ | refine ze ?_ | refine zh ?_ | refine zi ?_ | (refine zt (by rfl) ?_ ?_ <;> intro hC <;> (try cases hC)))
    all_goals first
      | (refine zu ?_; refine ret0 rfl zn2 ⟨?_, rfl⟩
         rw [← ht]
         clear ci a0 a1 a4 ka0 ka1 ka4 he hc hck hgk ht
         simp only [Bool.not_eq_true', Bool.not_eq_false', bne_iff_ne, ne_eq, bne_eq_false_iff_eq, decide_eq_true_iff, decide_eq_false_iff_not] at *
         simp [*]
         try omega)
      | (refine ⟨N - 1, k + 1, by omega, ⟨by omega, ?_⟩, ?_⟩
         · have hA : (fb && !(decide (l4.length ≤ k + 3) && !(pp == 0))) = true := by
             clear ci a0 a1 a4 ka0 ka1 ka4 he hc hck hgk ht
             simp only [Bool.not_eq_true', Bool.not_eq_false', bne_iff_ne, ne_eq, bne_eq_false_iff_eq, decide_eq_true_iff, decide_eq_false_iff_not] at *
             simp [*]
             try omega
           rw [← ht, hA]; rfl
         · (refine zo2 _ _ rfl rfl ?_ ?_ <;> (repeat' (first | exact TmOk.nil | exact RwOk.nil | refine TmOk.cons ?_ ?_ | refine RwOk.cons ?_ ?_ | rfl | (refine rnV_id' rfl ?_; (first | rfl | (simp [cloV, cloL, clo, zj, zf, zk, zg, zd]; done))) | (refine zd3 ?_; first | rfl | omega | (rw [zb2 (by omega) (by omega)]; omega)) | (refine zi2 rfl ?_; (first | rfl | (simp [cloV, cloL, clo, zj, zf, zk, zg, zd]; done))) | exact zj4 rfl rfl | (refine ze3 (by rfl) (by rfl) ?_ ?_ <;> (first | rfl | (simp [cloV, cloL, clo, zj, zf, zk, zg, zd]; done))) | (refine rw_rn' rfl rfl ?_; simp; done)))))
  · have hk' : ¬ k < l4.length := by simpa using hk1
    obtain rfl : k = l4.length := by omega
    rw [List.drop_length] at ht
    rw [← ht]
    show AWp _ _ _ _
    repeat' (first | ((apply f_wo); first | ((apply f_gs); first | refine n_sk ?_) | ((apply f_mv); first | (refine zw1 ?_ ?_ <;> intro hG <;> (try cases hG)) | refine zg1 (v := .c _) ?_ | refine za ?_) | ((apply f_as); first | refine zf1 (v := .c _) ?_ | refine za ?_) | ((apply f_fa); first | refine n_fa ?_ | refine zk1 ?_) | ((apply f_ld); first | refine zp1 ?_ | refine zb1 ?_ | refine zw ?_ | refine zi1 ?_ | refine n_ld ?_) | ((apply f_ca); first | refine zr2 ((zk6 _ _ _)) ?_ | refine zp2 ((zk6 _ _ _)) ?_) | ((apply f_bi); first | refine zd1 ?_ | refine zc1 ?_ | refine ze1 ?_ | refine za ?_) | ((apply f_ia); first | refine n_ix ?_ | refine zc2 ?_ | refine za ?_) | ((apply zy2); first | refine zk2 ?_ | refine za ?_) | ((apply za2); first | refine zq ?_ | refine za ?_) | ((apply zb6); first | refine zj3 ?_ | refine za ?_) | ((apply zs3); first | refine zo1 ?_ | refine za ?_) | ((apply zs1); first | refine zo ?_ | refine zr1 ?_ | refine za ?_) | ((apply f_no); first | refine zj2 ?_ | refine za ?_) | ((apply f_pk); first | refine zu1 (v := .c _) ?_ | refine za ?_) | ((apply f_bb); first | refine zg2 ?_ | refine zh2 ?_ | refine za ?_) | refine n_bo ?_ | refine za ?_) | ((apply f_w); first | refine zy ?_ | refine zc ?_) | refine zb fun C => ?_ | refine zn ?_ | refine ze ?_ | refine zh ?_ | refine zi ?_ | (refine zt (by rfl) ?_ ?_ <;> intro hC <;> (try cases hC)))
    all_goals
      (first | refine zu ?_ | skip); refine ret0 rfl zn2 ⟨?_, rfl⟩; refine congrArg (fun s => AV.c (AC.v (Value.bool s))) ?_
      show _ = (modHead l0 l1 x2 x3 l4 && true)
      rw [Bool.and_true]
      clear a0 a1 a4 ka0 ka1 ka4 he ht htot
      unfold modHead
      simp only [inR] at *
      (rw [Bool.eq_iff_iff]; (try simp only [Bool.and_eq_true, Bool.or_eq_true, Bool.not_eq_true', decide_eq_true_iff, decide_eq_false_iff_not, beq_iff_eq, Bool.and_eq_false_iff, Bool.or_eq_false_iff, bne_iff_ne, ne_eq, Bool.true_eq_false, Bool.false_eq_true, true_iff, false_iff, iff_true, iff_false] at *); first | omega | (simp at *; omega))
noncomputable def modOkP (m : E) : Bool := liftS (fun q : E => (q.Ty Try.prog 42 ∧ q.d = m)) (fun q => (modOkE q)) false
noncomputable def modOkD (m : E) : Bool := (modOkP m)
theorem zp14 {f : FuncId} (hf : ∀ {m : E} (_ : m.Ty Try.prog 42) (_ : m.sz ≤ 1048576), Ctr Try.prog f [avI m] [] (.c (.v (.bool (modOkE m)))) []) {m : E} (hm : m.Ty Try.prog 42) (w : World) (im : m.In w) (zm : m.sz ≤ 1048576) :
    Calls Try.prog f #[m.val] w fun r w' => r = .returned (.bool (modOkD m.d)) ∧ Below w.heap.size w w' := by
  obtain ⟨q, hq, hl⟩ := ze23 (R := fun q : E => (q.Ty Try.prog 42 ∧ q.d = m.d)) (f := fun q => (modOkE q)) (z := false) (a := m) ⟨hm, rfl⟩
  obtain ⟨tm, dm⟩ := hq
  try dsimp only at hl tm dm
  have hc := hf tm (by rw [← E.sz_d, dm, E.sz_d]; exact zm)
  rw [avI_of_d tm hm dm] at hc
  have hP : modOkP m.d = (modOkE q) := hl
  have hr0 : modOkD m.d = (modOkE q) := by unfold modOkD; rw [hP]
  rw [hr0]
  exact ctr_val hc (us := [m.val]) (VRL_cons (avI_VR hm im) VRL_nil)
theorem ze11 {m : E} (hm : m.Ty Try.prog 42) (w : World) (im : m.In w) (zm : m.sz ≤ 1048576) :
    Calls Try.prog 13 #[m.val] w fun r w' => r = .returned (.bool (modOkD m.d)) ∧ Below w.heap.size w w' :=
  (zp14 (f := 13) (fun hm zm => by have hcc := zd11 hm zm; obtain ⟨mF, rfl, -⟩ := hm.agg_ Try.underlying42; exact hcc) hm w im zm).mono fun _ _ h => h
theorem zf11 {m : E} (hm : m.Ty Try.prog 42) (w : World) (im : m.In w) (zm : m.sz ≤ 1048576) :
    Calls Try.prog 15 #[m.val] w fun r w' => r = .returned (.bool (modOkD m.d)) ∧ Below w.heap.size w w' :=
  (zp14 (f := 15) (fun hm zm => by have hcc := zc11 hm zm; obtain ⟨mF, rfl, -⟩ := hm.agg_ Try.underlying42; exact hcc) hm w im zm).mono fun _ _ h => h
set_option maxRecDepth 100000 in
set_option maxHeartbeats 8000000 in
theorem zq14 (w : World) {a0 : E} (ta0 : a0.Ty Try.prog 36) (ra0 : a0.In w) :
    Calls Try.prog 4 #[a0.val] w fun e w' => e = .returned (.bool true) ∧ Below w.heap.size w w' := by
  have TA0 := Lib.hid ta0
  obtain ⟨D0, HDa0⟩ : ∃ D : E, Hid (a0.d = D) := ⟨_, rfl⟩
  obtain ⟨a0_0A, a0_0c, a0_0l, a0_1A, a0_1c, a0_1l, a0_2, a0_3, a0_4A, a0_4c, a0_4l, rfl, ga0_0, ga0_1, ga0_2, ga0_3, ga0_4, -⟩ := zv5 ta0
  change Calls _ _ #[.agg #[.slice a0_0A a0_0l.length a0_0c, .slice a0_1A a0_1l.length a0_1c, .int .i64 a0_2, .int .i64 a0_3, .slice a0_4A a0_4l.length a0_4c]] w _
  go_enter Try.func4, Try.ntmps4
  go_upto_region 0 with fail
  go_cut [1, 2] (fun s1 s2 wx => ∃ (g0 : Nat), s1 = .pointer (some ⟨g0, 0, none⟩) ∧ s2 = .bool false ∧ wx.heap[g0]? = some (.cells #[.slice a0_0A a0_0l.length a0_0c, .slice a0_1A a0_1l.length a0_1c, .int .i64 a0_2, .int .i64 a0_3, .slice a0_4A a0_4l.length a0_4c] 36 (0, 0)) ∧ w.heap.size ≤ g0 ∧ Below w.heap.size w wx)
  case first =>
    go_wp2_with fail
    go_meet
    refine ⟨_, rfl, rfl, ?_, ?_, ?_⟩
    · (repeat (first | (with_reducible assumption) | (with_reducible refine zv3 ?_) | (with_reducible refine zh3 ?_) | (refine hp_new ?_; first | rfl | (simp; done)) | (with_reducible refine zf3 ?_ ?_) | (refine zg3 (by with_reducible assumption) ?_ ?_) | omega | (· simp) | (· (simp; omega))))
    · first | omega | (simp; done) | (simp; omega)
    · exact (by repeat (first | (with_reducible refine Below.setCell ?_ (by first | omega | (· simp) | (· (simp; omega))) _) | (with_reducible refine Below.alloc ?_ (by first | omega | (· simp) | (· (simp; omega))) _) | (with_reducible refine Below.drew ?_) | (with_reducible refine zx2 ?_ _) | (with_reducible exact Below.refl _ _) | (with_reducible assumption) | (with_reducible refine Below.trans ?_ (Below.mono (by assumption) (by first | omega | (· simp) | (· (simp; omega))))) | (with_reducible refine Below.trans ?_ (Kp.below (by assumption) (by first | omega | (· simp) | (· (simp; omega))) (by first | omega | (· simp) | (· (simp; omega)))))))
  case rest =>
    obtain ⟨g0, rfl, rfl, B1_0, lb0, hb1⟩ := hcut
    obtain ⟨W1, hWeq⟩ : ∃ W : World, W = wc := ⟨_, rfl⟩
    subst hWeq
    have hs1 := hb1.size
    have lu0 := blk_lt B1_0
    have RA1_0 : (E.agg [.lst 3 78 a0_0A a0_0c a0_0l, .lst 1 9 a0_1A a0_1c a0_1l, .int .i64 a0_2, .int .i64 a0_3, .lst 2 82 a0_4A a0_4c a0_4l]).Re W1 0 w.heap.size := (show (E.agg [.lst 3 78 a0_0A a0_0c a0_0l, .lst 1 9 a0_1A a0_1c a0_1l, .int .i64 a0_2, .int .i64 a0_3, .lst 2 82 a0_4A a0_4c a0_4l]).Re w 0 w.heap.size from ra0).below hb1 (by omega)
    have hB1 : Below w.heap.size w W1 := hb1
    go_upto_region 2 with fail
    go_cut [3] (fun s3 wx => ∃ (r1 : Int), s3 = .int .i64 r1 ∧ (r1 < 0 ∨ Hid (r1 + (E.agg [.lst 3 78 a0_0A a0_0c a0_0l, .lst 1 9 a0_1A a0_1c a0_1l, .int .i64 a0_2, .int .i64 a0_3, .lst 2 82 a0_4A a0_4c a0_4l]).sz = 1048576)) ∧ r1 ≤ 1048576 ∧ Below W1.heap.size W1 wx)
    case first =>
      have hwW := hB1.size
      have ltW0 : g0 < W1.heap.size := by omega
      clear hs1 lu0 lb0
      have z0_0_0 : W1.cell? ⟨g0, 0, none⟩ = some (.slice a0_0A a0_0l.length a0_0c) := zj1 B1_0 rfl
      have z0_0_1 : W1.cell? ⟨g0, 1, none⟩ = some (.slice a0_1A a0_1l.length a0_1c) := zj1 B1_0 rfl
      have z0_0_2 : W1.cell? ⟨g0, 2, none⟩ = some (.int .i64 a0_2) := zj1 B1_0 rfl
      have z0_0_3 : W1.cell? ⟨g0, 3, none⟩ = some (.int .i64 a0_3) := zj1 B1_0 rfl
      have z0_0_4 : W1.cell? ⟨g0, 4, none⟩ = some (.slice a0_4A a0_4l.length a0_4c) := zj1 B1_0 rfl
      go_wp2_with fail
      go_at_call 12
      refine (zm14 TA0.out _ _ (by have h : (E.agg [.lst 3 78 a0_0A a0_0c a0_0l, .lst 1 9 a0_1A a0_1c a0_1l, .int .i64 a0_2, .int .i64 a0_3, .lst 2 82 a0_4A a0_4c a0_4l]).In W1 := E.Re.inn RA1_0 (by omega); exact (by repeat (first | (with_reducible assumption) | (with_reducible refine E.In.drew ?_) | (with_reducible refine E.In.drewN ?_ _) | (with_reducible refine E.In.alloc ?_ _) | (refine E.In.below ?_ (by with_reducible assumption) ?_) | omega | (· simp) | (· (simp; omega))))) (by omega) (by omega)).mono ?_; rintro e w1 ⟨r1, rfl, hr1, hl1, hb1⟩
      go_wp2_with fail
      go_meet
      refine ⟨r1, rfl, ?_, ?_, ?_⟩
      · exact hr1
      · exact hl1
      · exact (by repeat (first | (with_reducible refine Below.setCell ?_ (by first | omega | (· simp) | (· (simp; omega))) _) | (with_reducible refine Below.alloc ?_ (by first | omega | (· simp) | (· (simp; omega))) _) | (with_reducible refine Below.drew ?_) | (with_reducible refine zx2 ?_ _) | (with_reducible exact Below.refl _ _) | (with_reducible assumption) | (with_reducible refine Below.trans ?_ (Below.mono (by assumption) (by first | omega | (· simp) | (· (simp; omega))))) | (with_reducible refine Below.trans ?_ (Kp.below (by assumption) (by first | omega | (· simp) | (· (simp; omega))) (by first | omega | (· simp) | (· (simp; omega)))))))
    case rest =>
      obtain ⟨r1, rfl, hr1, hl1, hb2⟩ := hcut
      obtain ⟨W2, hWeq⟩ : ∃ W : World, W = wc := ⟨_, rfl⟩
      subst hWeq
      have hs2 := hb2.size
      have B2_0 := (hb2.block g0 (by omega)).trans B1_0
      clear B1_0
      have RA2_0 : (E.agg [.lst 3 78 a0_0A a0_0c a0_0l, .lst 1 9 a0_1A a0_1c a0_1l, .int .i64 a0_2, .int .i64 a0_3, .lst 2 82 a0_4A a0_4c a0_4l]).Re W2 0 w.heap.size := RA1_0.below hb2 (by omega)
      clear RA1_0
      have hB2 : Below w.heap.size w W2 := hB1.trans (hb2.mono (by omega))
      by_cases hn1 : r1 < 0
      · go_wp2
        go_ret
        exact ⟨rfl, hB2⟩
      have HR1 := hr1.resolve_left hn1
      clear hr1
      have hz1 : (E.agg [.lst 3 78 a0_0A a0_0c a0_0l, .lst 1 9 a0_1A a0_1c a0_1l, .int .i64 a0_2, .int .i64 a0_3, .lst 2 82 a0_4A a0_4c a0_4l]).sz ≤ 1048576 := by have := HR1.out; omega
      have hD0 : D0.sz ≤ 1048576 := by rw [← HDa0.out, E.sz_d]; exact hz1
      go_upto_region 5 with fail
      go_cut [4] (fun s4 wx => s4 = .bool (modOkD D0) ∧ Below W2.heap.size W2 wx)
      case first =>
        have hwW := hB2.size
        have ltW0 : g0 < W2.heap.size := by omega
        clear hs1 lu0 lb0 hs2
        have z0_0_0 : W2.cell? ⟨g0, 0, none⟩ = some (.slice a0_0A a0_0l.length a0_0c) := zj1 B2_0 rfl
        have z0_0_1 : W2.cell? ⟨g0, 1, none⟩ = some (.slice a0_1A a0_1l.length a0_1c) := zj1 B2_0 rfl
        have z0_0_2 : W2.cell? ⟨g0, 2, none⟩ = some (.int .i64 a0_2) := zj1 B2_0 rfl
        have z0_0_3 : W2.cell? ⟨g0, 3, none⟩ = some (.int .i64 a0_3) := zj1 B2_0 rfl
        have z0_0_4 : W2.cell? ⟨g0, 4, none⟩ = some (.slice a0_4A a0_4l.length a0_4c) := zj1 B2_0 rfl
        go_wp2_with fail
        go_at_call 14
        (with_reducible change Calls _ _ #[.agg #[.slice a0_0A a0_0l.length a0_0c, .slice a0_1A a0_1l.length a0_1c, .int .i64 a0_2, .int .i64 a0_3, .slice a0_4A a0_4l.length a0_4c]] _ _); refine (za7 TA0.out _ (by have h : (E.agg [.lst 3 78 a0_0A a0_0c a0_0l, .lst 1 9 a0_1A a0_1c a0_1l, .int .i64 a0_2, .int .i64 a0_3, .lst 2 82 a0_4A a0_4c a0_4l]).In W2 := E.Re.inn RA2_0 (by omega); exact (by repeat (first | (with_reducible assumption) | (with_reducible refine E.In.drew ?_) | (with_reducible refine E.In.drewN ?_ _) | (with_reducible refine E.In.alloc ?_ _) | (refine E.In.below ?_ (by with_reducible assumption) ?_) | omega | (· simp) | (· (simp; omega))))) (by omega)).mono ?_; rintro e2 w2 ⟨x2, e2h, HD2, ht2, ho2, hn2, hb2⟩; have HT2 := Lib.hid ht2; have HD2 := Lib.hid (HD2.out.trans HDa0.out); obtain ⟨x2_0A, x2_0c, x2_0l, x2_1A, x2_1c, x2_1l, x2_2, x2_3, x2_4A, x2_4c, x2_4l, rfl, -, -, -, -, -, -⟩ := zk4 ht2; obtain rfl : e2 = .returned (.agg #[.slice x2_0A x2_0l.length x2_0c, .slice x2_1A x2_1l.length x2_1c, .int .i64 x2_2, .int .i64 x2_3, .slice x2_4A x2_4l.length x2_4c]) := e2h; have HO2 := Lib.hid ho2; have HN2 := Lib.hid hn2; clear ht2 ho2 hn2; have hz2 := hb2.size; (try simp only [World.size_alloc, World.size_drew, World.heap_drewN, World.size_setCell] at hz2)
        have z2_0_0 : w2.cell? ⟨g0, 0, none⟩ = some (.slice a0_0A a0_0l.length a0_0c) := zj1 (by exact (by repeat (first | (with_reducible assumption) | (with_reducible refine zv3 ?_) | (with_reducible refine zh3 ?_) | (with_reducible refine zf3 ?_ ?_) | (refine zg3 (by with_reducible assumption) ?_ ?_) | omega | (· simp) | (· (simp; omega)))) : w2.heap[g0]? = some (.cells #[.slice a0_0A a0_0l.length a0_0c, .slice a0_1A a0_1l.length a0_1c, .int .i64 a0_2, .int .i64 a0_3, .slice a0_4A a0_4l.length a0_4c] 36 (0, 0))) rfl
        have z2_0_1 : w2.cell? ⟨g0, 1, none⟩ = some (.slice a0_1A a0_1l.length a0_1c) := zj1 (by exact (by repeat (first | (with_reducible assumption) | (with_reducible refine zv3 ?_) | (with_reducible refine zh3 ?_) | (with_reducible refine zf3 ?_ ?_) | (refine zg3 (by with_reducible assumption) ?_ ?_) | omega | (· simp) | (· (simp; omega)))) : w2.heap[g0]? = some (.cells #[.slice a0_0A a0_0l.length a0_0c, .slice a0_1A a0_1l.length a0_1c, .int .i64 a0_2, .int .i64 a0_3, .slice a0_4A a0_4l.length a0_4c] 36 (0, 0))) rfl
        have z2_0_2 : w2.cell? ⟨g0, 2, none⟩ = some (.int .i64 a0_2) := zj1 (by exact (by repeat (first | (with_reducible assumption) | (with_reducible refine zv3 ?_) | (with_reducible refine zh3 ?_) | (with_reducible refine zf3 ?_ ?_) | (refine zg3 (by with_reducible assumption) ?_ ?_) | omega | (· simp) | (· (simp; omega)))) : w2.heap[g0]? = some (.cells #[.slice a0_0A a0_0l.length a0_0c, .slice a0_1A a0_1l.length a0_1c, .int .i64 a0_2, .int .i64 a0_3, .slice a0_4A a0_4l.length a0_4c] 36 (0, 0))) rfl
        have z2_0_3 : w2.cell? ⟨g0, 3, none⟩ = some (.int .i64 a0_3) := zj1 (by exact (by repeat (first | (with_reducible assumption) | (with_reducible refine zv3 ?_) | (with_reducible refine zh3 ?_) | (with_reducible refine zf3 ?_ ?_) | (refine zg3 (by with_reducible assumption) ?_ ?_) | omega | (· simp) | (· (simp; omega)))) : w2.heap[g0]? = some (.cells #[.slice a0_0A a0_0l.length a0_0c, .slice a0_1A a0_1l.length a0_1c, .int .i64 a0_2, .int .i64 a0_3, .slice a0_4A a0_4l.length a0_4c] 36 (0, 0))) rfl
        have z2_0_4 : w2.cell? ⟨g0, 4, none⟩ = some (.slice a0_4A a0_4l.length a0_4c) := zj1 (by exact (by repeat (first | (with_reducible assumption) | (with_reducible refine zv3 ?_) | (with_reducible refine zh3 ?_) | (with_reducible refine zf3 ?_ ?_) | (refine zg3 (by with_reducible assumption) ?_ ?_) | omega | (· simp) | (· (simp; omega)))) : w2.heap[g0]? = some (.cells #[.slice a0_0A a0_0l.length a0_0c, .slice a0_1A a0_1l.length a0_1c, .int .i64 a0_2, .int .i64 a0_3, .slice a0_4A a0_4l.length a0_4c] 36 (0, 0))) rfl
        go_wp2_with fail
        go_at_call 13
        refine (ze11 HT2.out _ (by have h := HO2.out.inn; exact (by repeat (first | (with_reducible assumption) | (with_reducible refine E.In.drew ?_) | (with_reducible refine E.In.drewN ?_ _) | (with_reducible refine E.In.alloc ?_ _) | (refine E.In.below ?_ (by with_reducible assumption) ?_) | omega | (· simp) | (· (simp; omega))))) (sz_le HD2 hD0)).mono ?_; rintro e3 w3 ⟨e3h, hb3⟩; rw [HD2.out] at e3h; obtain rfl : e3 = .returned (.bool (modOkD D0)) := e3h; have hz3 := hb3.size; (try simp only [World.size_alloc, World.size_drew, World.heap_drewN, World.size_setCell] at hz3)
        have z3_0_0 : w3.cell? ⟨g0, 0, none⟩ = some (.slice a0_0A a0_0l.length a0_0c) := zj1 (by exact (by repeat (first | (with_reducible assumption) | (with_reducible refine zv3 ?_) | (with_reducible refine zh3 ?_) | (with_reducible refine zf3 ?_ ?_) | (refine zg3 (by with_reducible assumption) ?_ ?_) | omega | (· simp) | (· (simp; omega)))) : w3.heap[g0]? = some (.cells #[.slice a0_0A a0_0l.length a0_0c, .slice a0_1A a0_1l.length a0_1c, .int .i64 a0_2, .int .i64 a0_3, .slice a0_4A a0_4l.length a0_4c] 36 (0, 0))) rfl
        have z3_0_1 : w3.cell? ⟨g0, 1, none⟩ = some (.slice a0_1A a0_1l.length a0_1c) := zj1 (by exact (by repeat (first | (with_reducible assumption) | (with_reducible refine zv3 ?_) | (with_reducible refine zh3 ?_) | (with_reducible refine zf3 ?_ ?_) | (refine zg3 (by with_reducible assumption) ?_ ?_) | omega | (· simp) | (· (simp; omega)))) : w3.heap[g0]? = some (.cells #[.slice a0_0A a0_0l.length a0_0c, .slice a0_1A a0_1l.length a0_1c, .int .i64 a0_2, .int .i64 a0_3, .slice a0_4A a0_4l.length a0_4c] 36 (0, 0))) rfl
        have z3_0_2 : w3.cell? ⟨g0, 2, none⟩ = some (.int .i64 a0_2) := zj1 (by exact (by repeat (first | (with_reducible assumption) | (with_reducible refine zv3 ?_) | (with_reducible refine zh3 ?_) | (with_reducible refine zf3 ?_ ?_) | (refine zg3 (by with_reducible assumption) ?_ ?_) | omega | (· simp) | (· (simp; omega)))) : w3.heap[g0]? = some (.cells #[.slice a0_0A a0_0l.length a0_0c, .slice a0_1A a0_1l.length a0_1c, .int .i64 a0_2, .int .i64 a0_3, .slice a0_4A a0_4l.length a0_4c] 36 (0, 0))) rfl
        have z3_0_3 : w3.cell? ⟨g0, 3, none⟩ = some (.int .i64 a0_3) := zj1 (by exact (by repeat (first | (with_reducible assumption) | (with_reducible refine zv3 ?_) | (with_reducible refine zh3 ?_) | (with_reducible refine zf3 ?_ ?_) | (refine zg3 (by with_reducible assumption) ?_ ?_) | omega | (· simp) | (· (simp; omega)))) : w3.heap[g0]? = some (.cells #[.slice a0_0A a0_0l.length a0_0c, .slice a0_1A a0_1l.length a0_1c, .int .i64 a0_2, .int .i64 a0_3, .slice a0_4A a0_4l.length a0_4c] 36 (0, 0))) rfl
        have z3_0_4 : w3.cell? ⟨g0, 4, none⟩ = some (.slice a0_4A a0_4l.length a0_4c) := zj1 (by exact (by repeat (first | (with_reducible assumption) | (with_reducible refine zv3 ?_) | (with_reducible refine zh3 ?_) | (with_reducible refine zf3 ?_ ?_) | (refine zg3 (by with_reducible assumption) ?_ ?_) | omega | (· simp) | (· (simp; omega)))) : w3.heap[g0]? = some (.cells #[.slice a0_0A a0_0l.length a0_0c, .slice a0_1A a0_1l.length a0_1c, .int .i64 a0_2, .int .i64 a0_3, .slice a0_4A a0_4l.length a0_4c] 36 (0, 0))) rfl
        go_wp2_with fail
        go_meet
        refine ⟨rfl, ?_⟩
        · exact (by repeat (first | (with_reducible refine Below.setCell ?_ (by first | omega | (· simp) | (· (simp; omega))) _) | (with_reducible refine Below.alloc ?_ (by first | omega | (· simp) | (· (simp; omega))) _) | (with_reducible refine Below.drew ?_) | (with_reducible refine zx2 ?_ _) | (with_reducible exact Below.refl _ _) | (with_reducible assumption) | (with_reducible refine Below.trans ?_ (Below.mono (by assumption) (by first | omega | (· simp) | (· (simp; omega))))) | (with_reducible refine Below.trans ?_ (Kp.below (by assumption) (by first | omega | (· simp) | (· (simp; omega))) (by first | omega | (· simp) | (· (simp; omega)))))))
      case rest =>
        obtain ⟨rfl, hb3⟩ := hcut
        obtain ⟨W3, hWeq⟩ : ∃ W : World, W = wc := ⟨_, rfl⟩
        subst hWeq
        have hs3 := hb3.size
        have B3_0 := (hb3.block g0 (by omega)).trans B2_0
        clear B2_0
        have RA3_0 : (E.agg [.lst 3 78 a0_0A a0_0c a0_0l, .lst 1 9 a0_1A a0_1c a0_1l, .int .i64 a0_2, .int .i64 a0_3, .lst 2 82 a0_4A a0_4c a0_4l]).Re W3 0 w.heap.size := RA2_0.below hb3 (by omega)
        clear RA2_0
        have hB3 : Below w.heap.size w W3 := hB2.trans (hb3.mono (by omega))
        go_upto_region 6 with fail
        go_cut [5] (fun s5 wx => ∃ (g1 : Nat) (x4_0A : Option Addr) (x4_0c : Nat) (x4_0l : List E) (x4_1A : Option Addr) (x4_1c : Nat) (x4_1l : List E) (x4_2 : Int) (x4_3 : Int) (x4_4A : Option Addr) (x4_4c : Nat) (x4_4l : List E), s5 = .pointer (some ⟨g1, 0, none⟩) ∧ wx.heap[g1]? = some (.cells #[.slice x4_0A x4_0l.length x4_0c, .slice x4_1A x4_1l.length x4_1c, .int .i64 x4_2, .int .i64 x4_3, .slice x4_4A x4_4l.length x4_4c] 42 (0, 0)) ∧ W3.heap.size ≤ g1 ∧ g1 ∉ (E.agg [.lst 3 58 x4_0A x4_0c x4_0l, .lst 1 9 x4_1A x4_1c x4_1l, .int .i64 x4_2, .int .i64 x4_3, .lst 2 63 x4_4A x4_4c x4_4l]).fp ∧ Hid ((E.agg [.lst 3 58 x4_0A x4_0c x4_0l, .lst 1 9 x4_1A x4_1c x4_1l, .int .i64 x4_2, .int .i64 x4_3, .lst 2 63 x4_4A x4_4c x4_4l]).Ty Try.prog 42) ∧ Hid ((E.agg [.lst 3 58 x4_0A x4_0c x4_0l, .lst 1 9 x4_1A x4_1c x4_1l, .int .i64 x4_2, .int .i64 x4_3, .lst 2 63 x4_4A x4_4c x4_4l]).d = D0) ∧ Hid ((E.agg [.lst 3 58 x4_0A x4_0c x4_0l, .lst 1 9 x4_1A x4_1c x4_1l, .int .i64 x4_2, .int .i64 x4_3, .lst 2 63 x4_4A x4_4c x4_4l]).Ho wx W3.heap.size wx.heap.size) ∧ Hid (E.agg [.lst 3 58 x4_0A x4_0c x4_0l, .lst 1 9 x4_1A x4_1c x4_1l, .int .i64 x4_2, .int .i64 x4_3, .lst 2 63 x4_4A x4_4c x4_4l]).fp.Nodup ∧ Below W3.heap.size W3 wx)
        case first =>
          have hwW := hB3.size
          have ltW0 : g0 < W3.heap.size := by omega
          clear hs1 lu0 lb0 hs2 hs3
          have z0_0_0 : W3.cell? ⟨g0, 0, none⟩ = some (.slice a0_0A a0_0l.length a0_0c) := zj1 B3_0 rfl
          have z0_0_1 : W3.cell? ⟨g0, 1, none⟩ = some (.slice a0_1A a0_1l.length a0_1c) := zj1 B3_0 rfl
          have z0_0_2 : W3.cell? ⟨g0, 2, none⟩ = some (.int .i64 a0_2) := zj1 B3_0 rfl
          have z0_0_3 : W3.cell? ⟨g0, 3, none⟩ = some (.int .i64 a0_3) := zj1 B3_0 rfl
          have z0_0_4 : W3.cell? ⟨g0, 4, none⟩ = some (.slice a0_4A a0_4l.length a0_4c) := zj1 B3_0 rfl
          go_wp2_with fail
          go_at_call 14
          (with_reducible change Calls _ _ #[.agg #[.slice a0_0A a0_0l.length a0_0c, .slice a0_1A a0_1l.length a0_1c, .int .i64 a0_2, .int .i64 a0_3, .slice a0_4A a0_4l.length a0_4c]] _ _); refine (za7 TA0.out _ (by have h : (E.agg [.lst 3 78 a0_0A a0_0c a0_0l, .lst 1 9 a0_1A a0_1c a0_1l, .int .i64 a0_2, .int .i64 a0_3, .lst 2 82 a0_4A a0_4c a0_4l]).In W3 := E.Re.inn RA3_0 (by omega); exact (by repeat (first | (with_reducible assumption) | (with_reducible refine E.In.drew ?_) | (with_reducible refine E.In.drewN ?_ _) | (with_reducible refine E.In.alloc ?_ _) | (refine E.In.below ?_ (by with_reducible assumption) ?_) | omega | (· simp) | (· (simp; omega))))) (by omega)).mono ?_; rintro e4 w4 ⟨x4, e4h, HD4, ht4, ho4, hn4, hb4⟩; have HT4 := Lib.hid ht4; have HD4 := Lib.hid (HD4.out.trans HDa0.out); obtain ⟨x4_0A, x4_0c, x4_0l, x4_1A, x4_1c, x4_1l, x4_2, x4_3, x4_4A, x4_4c, x4_4l, rfl, -, -, -, -, -, -⟩ := zk4 ht4; obtain rfl : e4 = .returned (.agg #[.slice x4_0A x4_0l.length x4_0c, .slice x4_1A x4_1l.length x4_1c, .int .i64 x4_2, .int .i64 x4_3, .slice x4_4A x4_4l.length x4_4c]) := e4h; have HO4 := Lib.hid ho4; have HN4 := Lib.hid hn4; clear ht4 ho4 hn4; have hz4 := hb4.size; (try simp only [World.size_alloc, World.size_drew, World.heap_drewN, World.size_setCell] at hz4)
          go_wp2_with fail
          go_meet
          refine ⟨_, x4_0A, x4_0c, x4_0l, x4_1A, x4_1c, x4_1l, x4_2, x4_3, x4_4A, x4_4c, x4_4l, rfl, ?_, ?_, ?_, ?_, ?_, ?_, ?_, ?_⟩
          · (repeat (first | (with_reducible assumption) | (with_reducible refine zv3 ?_) | (with_reducible refine zh3 ?_) | (refine hp_new ?_; first | rfl | (simp; done)) | (with_reducible refine zf3 ?_ ?_) | (refine zg3 (by with_reducible assumption) ?_ ?_) | omega | (· simp) | (· (simp; omega))))
          · first | omega | (simp; done) | (simp; omega)
          · (intro hm; have h := HO4.out.lt _ hm; (try simp only [World.size_alloc, World.size_drew, World.heap_drewN, World.size_setCell] at h); omega)
          · exact HT4
          · exact HD4
          · refine E.Ho.fin HO4.out (fun hh => ?_) ?_ ?_
            · (repeat (first | (with_reducible assumption) | (with_reducible refine E.Ho.drew ?_) | (with_reducible refine E.Ho.drewN ?_ _) | (with_reducible refine E.Ho.alloc ?_ ?_ _) | (with_reducible refine E.Ho.setAny ?_ ?_ _) | (refine E.Ho.below ?_ (by with_reducible assumption) ?_) | (first | omega | (dsimp only; omega) | (simp only [World.size_alloc, World.size_drew, World.heap_drewN, World.size_setCell]; omega) | (simp; done) | (simp; omega))))
            · (first | omega | (dsimp only; omega) | (simp only [World.size_alloc, World.size_drew, World.heap_drewN, World.size_setCell]; omega) | (simp; done) | (simp; omega))
            · (first | omega | (dsimp only; omega) | (simp only [World.size_alloc, World.size_drew, World.heap_drewN, World.size_setCell]; omega) | (simp; done) | (simp; omega))
          · exact HN4
          · exact (by repeat (first | (with_reducible refine Below.setCell ?_ (by first | omega | (· simp) | (· (simp; omega))) _) | (with_reducible refine Below.alloc ?_ (by first | omega | (· simp) | (· (simp; omega))) _) | (with_reducible refine Below.drew ?_) | (with_reducible refine zx2 ?_ _) | (with_reducible exact Below.refl _ _) | (with_reducible assumption) | (with_reducible refine Below.trans ?_ (Below.mono (by assumption) (by first | omega | (· simp) | (· (simp; omega))))) | (with_reducible refine Below.trans ?_ (Kp.below (by assumption) (by first | omega | (· simp) | (· (simp; omega))) (by first | omega | (· simp) | (· (simp; omega)))))))
        case rest =>
          obtain ⟨g1, x4_0A, x4_0c, x4_0l, x4_1A, x4_1c, x4_1l, x4_2, x4_3, x4_4A, x4_4c, x4_4l, rfl, B4_1, lb1, nb1_4, HT4, HD4, HO4_4, HN4, hb4⟩ := hcut
          obtain ⟨W4, hWeq⟩ : ∃ W : World, W = wc := ⟨_, rfl⟩
          subst hWeq
          have hs4 := hb4.size
          have lu1 := blk_lt B4_1
          have B4_0 := (hb4.block g0 (by omega)).trans B3_0
          clear B3_0
          have RA4_0 : (E.agg [.lst 3 78 a0_0A a0_0c a0_0l, .lst 1 9 a0_1A a0_1c a0_1l, .int .i64 a0_2, .int .i64 a0_3, .lst 2 82 a0_4A a0_4c a0_4l]).Re W4 0 w.heap.size := RA3_0.below hb4 (by omega)
          clear RA3_0
          have hB4 : Below w.heap.size w W4 := hB3.trans (hb4.mono (by omega))
          go_upto_region 7 with fail
          go_cut [6] (fun s6 wx => s6 = .bool (modOkD D0) ∧ Below W4.heap.size W4 wx)
          case first =>
            have hwW := hB4.size
            have ltW1 : g1 < W4.heap.size := by omega
            have hiW4 : W4.heap.size ≤ W4.heap.size := by omega
            clear hs1 lu0 lb0 hs2 hs3 lu1 lb1 nb1_4
            clear B4_0
            have z0_1_0 : W4.cell? ⟨g1, 0, none⟩ = some (.slice x4_0A x4_0l.length x4_0c) := zj1 B4_1 rfl
            have z0_1_1 : W4.cell? ⟨g1, 1, none⟩ = some (.slice x4_1A x4_1l.length x4_1c) := zj1 B4_1 rfl
            have z0_1_2 : W4.cell? ⟨g1, 2, none⟩ = some (.int .i64 x4_2) := zj1 B4_1 rfl
            have z0_1_3 : W4.cell? ⟨g1, 3, none⟩ = some (.int .i64 x4_3) := zj1 B4_1 rfl
            have z0_1_4 : W4.cell? ⟨g1, 4, none⟩ = some (.slice x4_4A x4_4l.length x4_4c) := zj1 B4_1 rfl
            go_wp2_with fail
            go_at_call 15
            refine (zf11 HT4.out _ (by have h : (E.agg [.lst 3 58 x4_0A x4_0c x4_0l, .lst 1 9 x4_1A x4_1c x4_1l, .int .i64 x4_2, .int .i64 x4_3, .lst 2 63 x4_4A x4_4c x4_4l]).In W4 := HO4_4.out.inn; exact (by repeat (first | (with_reducible assumption) | (with_reducible refine E.In.drew ?_) | (with_reducible refine E.In.drewN ?_ _) | (with_reducible refine E.In.alloc ?_ _) | (refine E.In.below ?_ (by with_reducible assumption) ?_) | omega | (· simp) | (· (simp; omega))))) (sz_le HD4 hD0)).mono ?_; rintro e5 w5 ⟨e5h, hb5⟩; rw [HD4.out] at e5h; obtain rfl : e5 = .returned (.bool (modOkD D0)) := e5h; have hz5 := hb5.size; (try simp only [World.size_alloc, World.size_drew, World.heap_drewN, World.size_setCell] at hz5)
            go_wp2_with fail
            go_meet
            refine ⟨rfl, ?_⟩
            · exact (by repeat (first | (with_reducible refine Below.setCell ?_ (by first | omega | (· simp) | (· (simp; omega))) _) | (with_reducible refine Below.alloc ?_ (by first | omega | (· simp) | (· (simp; omega))) _) | (with_reducible refine Below.drew ?_) | (with_reducible refine zx2 ?_ _) | (with_reducible exact Below.refl _ _) | (with_reducible assumption) | (with_reducible refine Below.trans ?_ (Below.mono (by assumption) (by first | omega | (· simp) | (· (simp; omega))))) | (with_reducible refine Below.trans ?_ (Kp.below (by assumption) (by first | omega | (· simp) | (· (simp; omega))) (by first | omega | (· simp) | (· (simp; omega)))))))
          case rest =>
            obtain ⟨rfl, hb5⟩ := hcut
            obtain ⟨W5, hWeq⟩ : ∃ W : World, W = wc := ⟨_, rfl⟩
            subst hWeq
            have hs5 := hb5.size
            have B5_0 := (hb5.block g0 (by omega)).trans B4_0
            clear B4_0
            have B5_1 := (hb5.block g1 (by omega)).trans B4_1
            clear B4_1
            have RA5_0 : (E.agg [.lst 3 78 a0_0A a0_0c a0_0l, .lst 1 9 a0_1A a0_1c a0_1l, .int .i64 a0_2, .int .i64 a0_3, .lst 2 82 a0_4A a0_4c a0_4l]).Re W5 0 w.heap.size := RA4_0.below hb5 (by omega)
            clear RA4_0
            have HO5_4 := Lib.hid (HO4_4.out.below hb5 (by omega))
            clear HO4_4
            have hB5 : Below w.heap.size w W5 := hB4.trans (hb5.mono (by omega))
            go_upto_region 10 with fail
            go_cut [26] (fun s26 wx => s26 = .bool false ∧ Below W5.heap.size W5 wx)
            case first =>
              have hwW := hB5.size
              have ltW1 : g1 < W5.heap.size := by omega
              have ltW0 : g0 < W5.heap.size := by omega
              have hiW4 : W4.heap.size ≤ W5.heap.size := by omega
              clear hs1 lu0 lb0 hs2 hs3 lu1 lb1 nb1_4 hs5
              have z0_1_0 : W5.cell? ⟨g1, 0, none⟩ = some (.slice x4_0A x4_0l.length x4_0c) := zj1 B5_1 rfl
              have z0_1_1 : W5.cell? ⟨g1, 1, none⟩ = some (.slice x4_1A x4_1l.length x4_1c) := zj1 B5_1 rfl
              have z0_1_2 : W5.cell? ⟨g1, 2, none⟩ = some (.int .i64 x4_2) := zj1 B5_1 rfl
              have z0_1_3 : W5.cell? ⟨g1, 3, none⟩ = some (.int .i64 x4_3) := zj1 B5_1 rfl
              have z0_1_4 : W5.cell? ⟨g1, 4, none⟩ = some (.slice x4_4A x4_4l.length x4_4c) := zj1 B5_1 rfl
              have z0_0_0 : W5.cell? ⟨g0, 0, none⟩ = some (.slice a0_0A a0_0l.length a0_0c) := zj1 B5_0 rfl
              have z0_0_1 : W5.cell? ⟨g0, 1, none⟩ = some (.slice a0_1A a0_1l.length a0_1c) := zj1 B5_0 rfl
              have z0_0_2 : W5.cell? ⟨g0, 2, none⟩ = some (.int .i64 a0_2) := zj1 B5_0 rfl
              have z0_0_3 : W5.cell? ⟨g0, 3, none⟩ = some (.int .i64 a0_3) := zj1 B5_0 rfl
              have z0_0_4 : W5.cell? ⟨g0, 4, none⟩ = some (.slice a0_4A a0_4l.length a0_4c) := zj1 B5_0 rfl
              go_region_held3 (fun w' => w'.cell? ⟨g1, 0, none⟩ = some (.slice x4_0A x4_0l.length x4_0c) ∧ w'.cell? ⟨g1, 1, none⟩ = some (.slice x4_1A x4_1l.length x4_1c) ∧ w'.cell? ⟨g1, 2, none⟩ = some (.int .i64 x4_2) ∧ w'.cell? ⟨g1, 3, none⟩ = some (.int .i64 x4_3) ∧ w'.cell? ⟨g1, 4, none⟩ = some (.slice x4_4A x4_4l.length x4_4c) ∧ w'.cell? ⟨g0, 0, none⟩ = some (.slice a0_0A a0_0l.length a0_0c) ∧ w'.cell? ⟨g0, 1, none⟩ = some (.slice a0_1A a0_1l.length a0_1c) ∧ w'.cell? ⟨g0, 2, none⟩ = some (.int .i64 a0_2) ∧ w'.cell? ⟨g0, 3, none⟩ = some (.int .i64 a0_3) ∧ w'.cell? ⟨g0, 4, none⟩ = some (.slice a0_4A a0_4l.length a0_4c))
                (first | exact ⟨z0_1_0, z0_1_1, z0_1_2, z0_1_3, z0_1_4, z0_0_0, z0_0_1, z0_0_2, z0_0_3, z0_0_4⟩ | (refine ⟨?_, ?_, ?_, ?_, ?_, ?_, ?_, ?_, ?_, ?_⟩ <;> (repeat (first | (with_reducible assumption) | (with_reducible refine zs14 ?_ ?_) | (with_reducible refine za6 ?_) | (with_reducible refine zp5 ?_) | (with_reducible refine zu4 ?_ ?_) | omega | (simp; done) | (simp; omega)))) | skip)
                ((first
                  | (go_at_call 14; (with_reducible change Calls _ _ #[.agg #[.slice a0_0A a0_0l.length a0_0c, .slice a0_1A a0_1l.length a0_1c, .int .i64 a0_2, .int .i64 a0_3, .slice a0_4A a0_4l.length a0_4c]] _ _); refine (za7 TA0.out _ (by have h : (E.agg [.lst 3 78 a0_0A a0_0c a0_0l, .lst 1 9 a0_1A a0_1c a0_1l, .int .i64 a0_2, .int .i64 a0_3, .lst 2 82 a0_4A a0_4c a0_4l]).In W5 := E.Re.inn RA5_0 (by omega); exact (by repeat (first | (with_reducible assumption) | (with_reducible refine E.In.drew ?_) | (with_reducible refine E.In.drewN ?_ _) | (with_reducible refine E.In.alloc ?_ _) | (refine E.In.below ?_ (by with_reducible assumption) ?_) | omega | (· simp) | (· (simp; omega))))) (by omega)).mono ?_; rintro e6 w6 ⟨x6, e6h, HD6, ht6, ho6, hn6, hb6⟩; have HT6 := Lib.hid ht6; have HD6 := Lib.hid (HD6.out.trans HDa0.out); obtain ⟨x6_0A, x6_0c, x6_0l, x6_1A, x6_1c, x6_1l, x6_2, x6_3, x6_4A, x6_4c, x6_4l, rfl, -, -, -, -, -, -⟩ := zk4 ht6; obtain rfl : e6 = .returned (.agg #[.slice x6_0A x6_0l.length x6_0c, .slice x6_1A x6_1l.length x6_1c, .int .i64 x6_2, .int .i64 x6_3, .slice x6_4A x6_4l.length x6_4c]) := e6h; have HO6 := Lib.hid ho6; have HN6 := Lib.hid hn6; clear ht6 ho6 hn6; have hz6 := hb6.size; (try simp only [World.size_alloc, World.size_drew, World.heap_drewN, World.size_setCell] at hz6); have z6_1_0 : w6.cell? ⟨g1, 0, none⟩ = some (.slice x4_0A x4_0l.length x4_0c) := zj1 (by exact (by repeat (first | (with_reducible assumption) | (with_reducible refine zv3 ?_) | (with_reducible refine zh3 ?_) | (with_reducible refine zf3 ?_ ?_) | (refine zg3 (by with_reducible assumption) ?_ ?_) | omega | (· simp) | (· (simp; omega)))) : w6.heap[g1]? = some (.cells #[.slice x4_0A x4_0l.length x4_0c, .slice x4_1A x4_1l.length x4_1c, .int .i64 x4_2, .int .i64 x4_3, .slice x4_4A x4_4l.length x4_4c] 42 (0, 0))) rfl; have z6_1_1 : w6.cell? ⟨g1, 1, none⟩ = some (.slice x4_1A x4_1l.length x4_1c) := zj1 (by exact (by repeat (first | (with_reducible assumption) | (with_reducible refine zv3 ?_) | (with_reducible refine zh3 ?_) | (with_reducible refine zf3 ?_ ?_) | (refine zg3 (by with_reducible assumption) ?_ ?_) | omega | (· simp) | (· (simp; omega)))) : w6.heap[g1]? = some (.cells #[.slice x4_0A x4_0l.length x4_0c, .slice x4_1A x4_1l.length x4_1c, .int .i64 x4_2, .int .i64 x4_3, .slice x4_4A x4_4l.length x4_4c] 42 (0, 0))) rfl; have z6_1_2 : w6.cell? ⟨g1, 2, none⟩ = some (.int .i64 x4_2) := zj1 (by exact (by repeat (first | (with_reducible assumption) | (with_reducible refine zv3 ?_) | (with_reducible refine zh3 ?_) | (with_reducible refine zf3 ?_ ?_) | (refine zg3 (by with_reducible assumption) ?_ ?_) | omega | (· simp) | (· (simp; omega)))) : w6.heap[g1]? = some (.cells #[.slice x4_0A x4_0l.length x4_0c, .slice x4_1A x4_1l.length x4_1c, .int .i64 x4_2, .int .i64 x4_3, .slice x4_4A x4_4l.length x4_4c] 42 (0, 0))) rfl; have z6_1_3 : w6.cell? ⟨g1, 3, none⟩ = some (.int .i64 x4_3) := zj1 (by exact (by repeat (first | (with_reducible assumption) | (with_reducible refine zv3 ?_) | (with_reducible refine zh3 ?_) | (with_reducible refine zf3 ?_ ?_) | (refine zg3 (by with_reducible assumption) ?_ ?_) | omega | (· simp) | (· (simp; omega)))) : w6.heap[g1]? = some (.cells #[.slice x4_0A x4_0l.length x4_0c, .slice x4_1A x4_1l.length x4_1c, .int .i64 x4_2, .int .i64 x4_3, .slice x4_4A x4_4l.length x4_4c] 42 (0, 0))) rfl; have z6_1_4 : w6.cell? ⟨g1, 4, none⟩ = some (.slice x4_4A x4_4l.length x4_4c) := zj1 (by exact (by repeat (first | (with_reducible assumption) | (with_reducible refine zv3 ?_) | (with_reducible refine zh3 ?_) | (with_reducible refine zf3 ?_ ?_) | (refine zg3 (by with_reducible assumption) ?_ ?_) | omega | (· simp) | (· (simp; omega)))) : w6.heap[g1]? = some (.cells #[.slice x4_0A x4_0l.length x4_0c, .slice x4_1A x4_1l.length x4_1c, .int .i64 x4_2, .int .i64 x4_3, .slice x4_4A x4_4l.length x4_4c] 42 (0, 0))) rfl; have z6_0_0 : w6.cell? ⟨g0, 0, none⟩ = some (.slice a0_0A a0_0l.length a0_0c) := zj1 (by exact (by repeat (first | (with_reducible assumption) | (with_reducible refine zv3 ?_) | (with_reducible refine zh3 ?_) | (with_reducible refine zf3 ?_ ?_) | (refine zg3 (by with_reducible assumption) ?_ ?_) | omega | (· simp) | (· (simp; omega)))) : w6.heap[g0]? = some (.cells #[.slice a0_0A a0_0l.length a0_0c, .slice a0_1A a0_1l.length a0_1c, .int .i64 a0_2, .int .i64 a0_3, .slice a0_4A a0_4l.length a0_4c] 36 (0, 0))) rfl; have z6_0_1 : w6.cell? ⟨g0, 1, none⟩ = some (.slice a0_1A a0_1l.length a0_1c) := zj1 (by exact (by repeat (first | (with_reducible assumption) | (with_reducible refine zv3 ?_) | (with_reducible refine zh3 ?_) | (with_reducible refine zf3 ?_ ?_) | (refine zg3 (by with_reducible assumption) ?_ ?_) | omega | (· simp) | (· (simp; omega)))) : w6.heap[g0]? = some (.cells #[.slice a0_0A a0_0l.length a0_0c, .slice a0_1A a0_1l.length a0_1c, .int .i64 a0_2, .int .i64 a0_3, .slice a0_4A a0_4l.length a0_4c] 36 (0, 0))) rfl; have z6_0_2 : w6.cell? ⟨g0, 2, none⟩ = some (.int .i64 a0_2) := zj1 (by exact (by repeat (first | (with_reducible assumption) | (with_reducible refine zv3 ?_) | (with_reducible refine zh3 ?_) | (with_reducible refine zf3 ?_ ?_) | (refine zg3 (by with_reducible assumption) ?_ ?_) | omega | (· simp) | (· (simp; omega)))) : w6.heap[g0]? = some (.cells #[.slice a0_0A a0_0l.length a0_0c, .slice a0_1A a0_1l.length a0_1c, .int .i64 a0_2, .int .i64 a0_3, .slice a0_4A a0_4l.length a0_4c] 36 (0, 0))) rfl; have z6_0_3 : w6.cell? ⟨g0, 3, none⟩ = some (.int .i64 a0_3) := zj1 (by exact (by repeat (first | (with_reducible assumption) | (with_reducible refine zv3 ?_) | (with_reducible refine zh3 ?_) | (with_reducible refine zf3 ?_ ?_) | (refine zg3 (by with_reducible assumption) ?_ ?_) | omega | (· simp) | (· (simp; omega)))) : w6.heap[g0]? = some (.cells #[.slice a0_0A a0_0l.length a0_0c, .slice a0_1A a0_1l.length a0_1c, .int .i64 a0_2, .int .i64 a0_3, .slice a0_4A a0_4l.length a0_4c] 36 (0, 0))) rfl; have z6_0_4 : w6.cell? ⟨g0, 4, none⟩ = some (.slice a0_4A a0_4l.length a0_4c) := zj1 (by exact (by repeat (first | (with_reducible assumption) | (with_reducible refine zv3 ?_) | (with_reducible refine zh3 ?_) | (with_reducible refine zf3 ?_ ?_) | (refine zg3 (by with_reducible assumption) ?_ ?_) | omega | (· simp) | (· (simp; omega)))) : w6.heap[g0]? = some (.cells #[.slice a0_0A a0_0l.length a0_0c, .slice a0_1A a0_1l.length a0_1c, .int .i64 a0_2, .int .i64 a0_3, .slice a0_4A a0_4l.length a0_4c] 36 (0, 0))) rfl)
                  | (go_at_call 16; refine (zn14 HT4.out HT6.out ((show (E.agg [.lst 3 58 x4_0A x4_0c x4_0l, .lst 1 9 x4_1A x4_1c x4_1l, .int .i64 x4_2, .int .i64 x4_3, .lst 2 63 x4_4A x4_4c x4_4l]).d = D0 from HD4.out).trans (show (E.agg [.lst 3 58 x6_0A x6_0c x6_0l, .lst 1 9 x6_1A x6_1c x6_1l, .int .i64 x6_2, .int .i64 x6_3, .lst 2 63 x6_4A x6_4c x6_4l]).d = D0 from HD6.out).symm) _ (by have h : (E.agg [.lst 3 58 x4_0A x4_0c x4_0l, .lst 1 9 x4_1A x4_1c x4_1l, .int .i64 x4_2, .int .i64 x4_3, .lst 2 63 x4_4A x4_4c x4_4l]).In W5 := HO5_4.out.inn; exact (by repeat (first | (with_reducible assumption) | (with_reducible refine E.In.drew ?_) | (with_reducible refine E.In.drewN ?_ _) | (with_reducible refine E.In.alloc ?_ _) | (refine E.In.below ?_ (by with_reducible assumption) ?_) | omega | (· simp) | (· (simp; omega))))) (by have h := HO6.out.inn; exact (by repeat (first | (with_reducible assumption) | (with_reducible refine E.In.drew ?_) | (with_reducible refine E.In.drewN ?_ _) | (with_reducible refine E.In.alloc ?_ _) | (refine E.In.below ?_ (by with_reducible assumption) ?_) | omega | (· simp) | (· (simp; omega)))))).mono ?_; rintro e w7 ⟨rfl, hb7⟩; have hz7 := hb7.size; (try simp only [World.size_alloc, World.size_drew, World.heap_drewN, World.size_setCell] at hz7); have z7_1_0 : w7.cell? ⟨g1, 0, none⟩ = some (.slice x4_0A x4_0l.length x4_0c) := zj1 (by exact (by repeat (first | (with_reducible assumption) | (with_reducible refine zv3 ?_) | (with_reducible refine zh3 ?_) | (with_reducible refine zf3 ?_ ?_) | (refine zg3 (by with_reducible assumption) ?_ ?_) | omega | (· simp) | (· (simp; omega)))) : w7.heap[g1]? = some (.cells #[.slice x4_0A x4_0l.length x4_0c, .slice x4_1A x4_1l.length x4_1c, .int .i64 x4_2, .int .i64 x4_3, .slice x4_4A x4_4l.length x4_4c] 42 (0, 0))) rfl; have z7_1_1 : w7.cell? ⟨g1, 1, none⟩ = some (.slice x4_1A x4_1l.length x4_1c) := zj1 (by exact (by repeat (first | (with_reducible assumption) | (with_reducible refine zv3 ?_) | (with_reducible refine zh3 ?_) | (with_reducible refine zf3 ?_ ?_) | (refine zg3 (by with_reducible assumption) ?_ ?_) | omega | (· simp) | (· (simp; omega)))) : w7.heap[g1]? = some (.cells #[.slice x4_0A x4_0l.length x4_0c, .slice x4_1A x4_1l.length x4_1c, .int .i64 x4_2, .int .i64 x4_3, .slice x4_4A x4_4l.length x4_4c] 42 (0, 0))) rfl; have z7_1_2 : w7.cell? ⟨g1, 2, none⟩ = some (.int .i64 x4_2) := zj1 (by exact (by repeat (first | (with_reducible assumption) | (with_reducible refine zv3 ?_) | (with_reducible refine zh3 ?_) | (with_reducible refine zf3 ?_ ?_) | (refine zg3 (by with_reducible assumption) ?_ ?_) | omega | (· simp) | (· (simp; omega)))) : w7.heap[g1]? = some (.cells #[.slice x4_0A x4_0l.length x4_0c, .slice x4_1A x4_1l.length x4_1c, .int .i64 x4_2, .int .i64 x4_3, .slice x4_4A x4_4l.length x4_4c] 42 (0, 0))) rfl; have z7_1_3 : w7.cell? ⟨g1, 3, none⟩ = some (.int .i64 x4_3) := zj1 (by exact (by repeat (first | (with_reducible assumption) | (with_reducible refine zv3 ?_) | (with_reducible refine zh3 ?_) | (with_reducible refine zf3 ?_ ?_) | (refine zg3 (by with_reducible assumption) ?_ ?_) | omega | (· simp) | (· (simp; omega)))) : w7.heap[g1]? = some (.cells #[.slice x4_0A x4_0l.length x4_0c, .slice x4_1A x4_1l.length x4_1c, .int .i64 x4_2, .int .i64 x4_3, .slice x4_4A x4_4l.length x4_4c] 42 (0, 0))) rfl; have z7_1_4 : w7.cell? ⟨g1, 4, none⟩ = some (.slice x4_4A x4_4l.length x4_4c) := zj1 (by exact (by repeat (first | (with_reducible assumption) | (with_reducible refine zv3 ?_) | (with_reducible refine zh3 ?_) | (with_reducible refine zf3 ?_ ?_) | (refine zg3 (by with_reducible assumption) ?_ ?_) | omega | (· simp) | (· (simp; omega)))) : w7.heap[g1]? = some (.cells #[.slice x4_0A x4_0l.length x4_0c, .slice x4_1A x4_1l.length x4_1c, .int .i64 x4_2, .int .i64 x4_3, .slice x4_4A x4_4l.length x4_4c] 42 (0, 0))) rfl; have z7_0_0 : w7.cell? ⟨g0, 0, none⟩ = some (.slice a0_0A a0_0l.length a0_0c) := zj1 (by exact (by repeat (first | (with_reducible assumption) | (with_reducible refine zv3 ?_) | (with_reducible refine zh3 ?_) | (with_reducible refine zf3 ?_ ?_) | (refine zg3 (by with_reducible assumption) ?_ ?_) | omega | (· simp) | (· (simp; omega)))) : w7.heap[g0]? = some (.cells #[.slice a0_0A a0_0l.length a0_0c, .slice a0_1A a0_1l.length a0_1c, .int .i64 a0_2, .int .i64 a0_3, .slice a0_4A a0_4l.length a0_4c] 36 (0, 0))) rfl; have z7_0_1 : w7.cell? ⟨g0, 1, none⟩ = some (.slice a0_1A a0_1l.length a0_1c) := zj1 (by exact (by repeat (first | (with_reducible assumption) | (with_reducible refine zv3 ?_) | (with_reducible refine zh3 ?_) | (with_reducible refine zf3 ?_ ?_) | (refine zg3 (by with_reducible assumption) ?_ ?_) | omega | (· simp) | (· (simp; omega)))) : w7.heap[g0]? = some (.cells #[.slice a0_0A a0_0l.length a0_0c, .slice a0_1A a0_1l.length a0_1c, .int .i64 a0_2, .int .i64 a0_3, .slice a0_4A a0_4l.length a0_4c] 36 (0, 0))) rfl; have z7_0_2 : w7.cell? ⟨g0, 2, none⟩ = some (.int .i64 a0_2) := zj1 (by exact (by repeat (first | (with_reducible assumption) | (with_reducible refine zv3 ?_) | (with_reducible refine zh3 ?_) | (with_reducible refine zf3 ?_ ?_) | (refine zg3 (by with_reducible assumption) ?_ ?_) | omega | (· simp) | (· (simp; omega)))) : w7.heap[g0]? = some (.cells #[.slice a0_0A a0_0l.length a0_0c, .slice a0_1A a0_1l.length a0_1c, .int .i64 a0_2, .int .i64 a0_3, .slice a0_4A a0_4l.length a0_4c] 36 (0, 0))) rfl; have z7_0_3 : w7.cell? ⟨g0, 3, none⟩ = some (.int .i64 a0_3) := zj1 (by exact (by repeat (first | (with_reducible assumption) | (with_reducible refine zv3 ?_) | (with_reducible refine zh3 ?_) | (with_reducible refine zf3 ?_ ?_) | (refine zg3 (by with_reducible assumption) ?_ ?_) | omega | (· simp) | (· (simp; omega)))) : w7.heap[g0]? = some (.cells #[.slice a0_0A a0_0l.length a0_0c, .slice a0_1A a0_1l.length a0_1c, .int .i64 a0_2, .int .i64 a0_3, .slice a0_4A a0_4l.length a0_4c] 36 (0, 0))) rfl; have z7_0_4 : w7.cell? ⟨g0, 4, none⟩ = some (.slice a0_4A a0_4l.length a0_4c) := zj1 (by exact (by repeat (first | (with_reducible assumption) | (with_reducible refine zv3 ?_) | (with_reducible refine zh3 ?_) | (with_reducible refine zf3 ?_ ?_) | (refine zg3 (by with_reducible assumption) ?_ ?_) | omega | (· simp) | (· (simp; omega)))) : w7.heap[g0]? = some (.cells #[.slice a0_0A a0_0l.length a0_0c, .slice a0_1A a0_1l.length a0_1c, .int .i64 a0_2, .int .i64 a0_3, .slice a0_4A a0_4l.length a0_4c] 36 (0, 0))) rfl)))
              all_goals
                go_wp2_with fail
                go_meet
                refine ⟨rfl, ?_⟩
                · exact (by repeat (first | (with_reducible refine Below.setCell ?_ (by first | omega | (· simp) | (· (simp; omega))) _) | (with_reducible refine Below.alloc ?_ (by first | omega | (· simp) | (· (simp; omega))) _) | (with_reducible refine Below.drew ?_) | (with_reducible refine zx2 ?_ _) | (with_reducible exact Below.refl _ _) | (with_reducible assumption) | (with_reducible refine Below.trans ?_ (Below.mono (by assumption) (by first | omega | (· simp) | (· (simp; omega))))) | (with_reducible refine Below.trans ?_ (Kp.below (by assumption) (by first | omega | (· simp) | (· (simp; omega))) (by first | omega | (· simp) | (· (simp; omega)))))))
            case rest =>
              obtain ⟨rfl, hb6⟩ := hcut
              obtain ⟨W6, hWeq⟩ : ∃ W : World, W = wc := ⟨_, rfl⟩
              subst hWeq
              have hs6 := hb6.size
              have B6_0 := (hb6.block g0 (by omega)).trans B5_0
              clear B5_0
              have B6_1 := (hb6.block g1 (by omega)).trans B5_1
              clear B5_1
              have RA6_0 : (E.agg [.lst 3 78 a0_0A a0_0c a0_0l, .lst 1 9 a0_1A a0_1c a0_1l, .int .i64 a0_2, .int .i64 a0_3, .lst 2 82 a0_4A a0_4c a0_4l]).Re W6 0 w.heap.size := RA5_0.below hb6 (by omega)
              clear RA5_0
              have HO6_4 := Lib.hid (HO5_4.out.below hb6 (by omega))
              clear HO5_4
              have hB6 : Below w.heap.size w W6 := hB5.trans (hb6.mono (by omega))
              go_wp2
              go_ret
              exact ⟨rfl, hB6⟩
end Go.Proofs.Ytfdjognmechcfaa
