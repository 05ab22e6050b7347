/- The type Module, and slices of it: shape; the laws' own functions. -/
import Derived.Test.YtghljnfbbaklnaaModuleOkW
namespace Go.Proofs.Ytghljnfbbaklnaa
open Go.RowKit
theorem zv5 {e : E} (h : e.Ty Try.prog 61) : ∃ (x0A : Option Addr) (x0c : Nat) (x0l : List E) (x1A : Option Addr) (x1c : Nat) (x1l : List E) (x2 : Int) (x3 : Int) (x4A : Option Addr) (x4c : Nat) (x4l : List E), e = (E.agg [.lst 3 134 x0A x0c x0l, .lst 1 9 x1A x1c x1l, .int .i64 x2, .int .i64 x3, .lst 2 138 x4A x4c x4l]) ∧ ((∀ y ∈ x0l, y.Ty Try.prog 134) ∧ (∀ y ∈ x0l, y.enc.length = 3)) ∧ ((∀ y ∈ x1l, y.Ty Try.prog 9) ∧ (∀ y ∈ x1l, y.enc.length = 1)) ∧ ((Lit.int .i64 x2).wf = true) ∧ ((Lit.int .i64 x3).wf = true) ∧ ((∀ y ∈ x4l, y.Ty Try.prog 138) ∧ (∀ y ∈ x4l, y.enc.length = 2)) ∧ True := by
  obtain ⟨fs, rfl, q0⟩ := h.agg_ Try.underlying61
  change E.TyF _ _ [58, 55, 3, 3, 59] at q0
  obtain ⟨e0, r0, rfl, h0, q1⟩ := q0.cons_
  obtain ⟨e1, r1, rfl, h1, q2⟩ := q1.cons_
  obtain ⟨e2, r2, rfl, h2, q3⟩ := q2.cons_
  obtain ⟨e3, r3, rfl, h3, q4⟩ := q3.cons_
  obtain ⟨e4, r4, rfl, h4, q5⟩ := q4.cons_
  obtain rfl := q5.nil_
  obtain ⟨x0A, x0c, x0l, rfl, gx0, gx0'⟩ := h0.lst_ Try.underlying58 (k := 3) (by kernel_rfl)
  obtain ⟨x1A, x1c, x1l, rfl, gx1, gx1'⟩ := h1.lst_ Try.underlying55 (k := 1) (by kernel_rfl)
  obtain ⟨x2, rfl, gx2⟩ := h2.int_ Try.underlying3
  obtain ⟨x3, rfl, gx3⟩ := h3.int_ Try.underlying3
  obtain ⟨x4A, x4c, x4l, rfl, gx4, gx4'⟩ := h4.lst_ Try.underlying59 (k := 2) (by kernel_rfl)
  exact ⟨x0A, x0c, x0l, x1A, x1c, x1l, x2, x3, x4A, x4c, x4l, rfl, ⟨gx0, gx0'⟩, ⟨gx1, gx1'⟩, gx2, gx3, ⟨gx4, gx4'⟩, trivial⟩
theorem zk4 {e : E} (h : e.Ty Try.prog 67) : ∃ (x0A : Option Addr) (x0c : Nat) (x0l : List E) (x1A : Option Addr) (x1c : Nat) (x1l : List E) (x2 : Int) (x3 : Int) (x4A : Option Addr) (x4c : Nat) (x4l : List E), e = (E.agg [.lst 3 29 x0A x0c x0l, .lst 1 9 x1A x1c x1l, .int .i64 x2, .int .i64 x3, .lst 2 103 x4A x4c x4l]) ∧ ((∀ y ∈ x0l, y.Ty Try.prog 29) ∧ (∀ y ∈ x0l, y.enc.length = 3)) ∧ ((∀ y ∈ x1l, y.Ty Try.prog 9) ∧ (∀ y ∈ x1l, y.enc.length = 1)) ∧ ((Lit.int .i64 x2).wf = true) ∧ ((Lit.int .i64 x3).wf = true) ∧ ((∀ y ∈ x4l, y.Ty Try.prog 103) ∧ (∀ y ∈ x4l, y.enc.length = 2)) ∧ True := by
  obtain ⟨fs, rfl, q0⟩ := h.agg_ Try.underlying67
  change E.TyF _ _ [64, 55, 3, 3, 65] at q0
  obtain ⟨e0, r0, rfl, h0, q1⟩ := q0.cons_
  obtain ⟨e1, r1, rfl, h1, q2⟩ := q1.cons_
  obtain ⟨e2, r2, rfl, h2, q3⟩ := q2.cons_
  obtain ⟨e3, r3, rfl, h3, q4⟩ := q3.cons_
  obtain ⟨e4, r4, rfl, h4, q5⟩ := q4.cons_
  obtain rfl := q5.nil_
  obtain ⟨x0A, x0c, x0l, rfl, gx0, gx0'⟩ := h0.lst_ Try.underlying64 (k := 3) (by kernel_rfl)
  obtain ⟨x1A, x1c, x1l, rfl, gx1, gx1'⟩ := h1.lst_ Try.underlying55 (k := 1) (by kernel_rfl)
  obtain ⟨x2, rfl, gx2⟩ := h2.int_ Try.underlying3
  obtain ⟨x3, rfl, gx3⟩ := h3.int_ Try.underlying3
  obtain ⟨x4A, x4c, x4l, rfl, gx4, gx4'⟩ := h4.lst_ Try.underlying65 (k := 2) (by kernel_rfl)
  exact ⟨x0A, x0c, x0l, x1A, x1c, x1l, x2, x3, x4A, x4c, x4l, rfl, ⟨gx0, gx0'⟩, ⟨gx1, gx1'⟩, gx2, gx3, ⟨gx4, gx4'⟩, trivial⟩
set_option maxRecDepth 100000 in
set_option maxHeartbeats 1000000 in
theorem zm14 {e : E} (ht : e.Ty Try.prog 61) : Sz 31 e := by
  obtain ⟨x0A, x0c, x0l, x1A, x1c, x1l, x2, x3, x4A, x4c, x4l, rfl, gx0, gx1, gx2, gx3, gx4, -⟩ := zv5 ht
  intro left w hr h0 h1
  have HSZ : Hid ((E.agg [.lst 3 134 x0A x0c x0l, .lst 1 9 x1A x1c x1l, .int .i64 x2, .int .i64 x3, .lst 2 138 x4A x4c x4l]).sz = ((E.lst 3 134 x0A x0c x0l).sz + ((E.lst 1 9 x1A x1c x1l).sz + (0 + (0 + ((E.lst 2 138 x4A x4c x4l).sz + 0)))))) := rfl
  change Calls _ _ #[.agg #[.slice x0A x0l.length x0c, .slice x1A x1l.length x1c, .int .i64 x2, .int .i64 x3, .slice x4A x4l.length x4c], .int .i64 left] w _
  have hr0 := (hr.fld (i := 0) rfl).alloc (.cells #[.slice x0A x0l.length x0c, .slice x1A x1l.length x1c, .int .i64 x2, .int .i64 x3, .slice x4A x4l.length x4c] 61)
  have hr1 := (hr.fld (i := 1) rfl).alloc (.cells #[.slice x0A x0l.length x0c, .slice x1A x1l.length x1c, .int .i64 x2, .int .i64 x3, .slice x4A x4l.length x4c] 61)
  have hr4 := (hr.fld (i := 4) rfl).alloc (.cells #[.slice x0A x0l.length x0c, .slice x1A x1l.length x1c, .int .i64 x2, .int .i64 x3, .slice x4A x4l.length x4c] 61)
  go_enter Try.func31, Try.ntmps31
  go_wp2_with fail
  go_at_call 61
  refine ((zb18 (E.Ty.mk_lst Try.underlying58 (by kernel_rfl) gx0.1 gx0.2)) _ _ hr0 (by omega) (by omega)).mono ?_; rintro e w1 ⟨r1, rfl, hr1s, hl1, hb1⟩
  have hz1 := hb1.size; (try simp only [World.size_alloc] at hz1)
  have c1_1 : w1.cell? ⟨w.heap.size, 1, none⟩ = some (.slice x1A x1l.length x1c) := (by repeat (first | (with_reducible assumption) | (with_reducible refine za6 ?_) | (with_reducible refine zp5 ?_) | (with_reducible exact zl5 rfl) | (exact cell_new' rfl (by first | rfl | (simp; done))) | (with_reducible refine zu4 ?_ ?_) | (refine zf2 (by with_reducible assumption) ?_ ?_) | (refine zf7 (by with_reducible assumption) ?_ ?_) | omega | (· simp) | (· (simp; omega))))
  have c1_2 : w1.cell? ⟨w.heap.size, 2, none⟩ = some (.int .i64 x2) := (by repeat (first | (with_reducible assumption) | (with_reducible refine za6 ?_) | (with_reducible refine zp5 ?_) | (with_reducible exact zl5 rfl) | (exact cell_new' rfl (by first | rfl | (simp; done))) | (with_reducible refine zu4 ?_ ?_) | (refine zf2 (by with_reducible assumption) ?_ ?_) | (refine zf7 (by with_reducible assumption) ?_ ?_) | omega | (· simp) | (· (simp; omega))))
  have c1_3 : w1.cell? ⟨w.heap.size, 3, none⟩ = some (.int .i64 x3) := (by repeat (first | (with_reducible assumption) | (with_reducible refine za6 ?_) | (with_reducible refine zp5 ?_) | (with_reducible exact zl5 rfl) | (exact cell_new' rfl (by first | rfl | (simp; done))) | (with_reducible refine zu4 ?_ ?_) | (refine zf2 (by with_reducible assumption) ?_ ?_) | (refine zf7 (by with_reducible assumption) ?_ ?_) | omega | (· simp) | (· (simp; omega))))
  have c1_4 : w1.cell? ⟨w.heap.size, 4, none⟩ = some (.slice x4A x4l.length x4c) := (by repeat (first | (with_reducible assumption) | (with_reducible refine za6 ?_) | (with_reducible refine zp5 ?_) | (with_reducible exact zl5 rfl) | (exact cell_new' rfl (by first | rfl | (simp; done))) | (with_reducible refine zu4 ?_ ?_) | (refine zf2 (by with_reducible assumption) ?_ ?_) | (refine zf7 (by with_reducible assumption) ?_ ?_) | omega | (· simp) | (· (simp; omega))))
  have hr1 := hr1.below hb1 (by first | exact Nat.le_refl _ | simp)
  have hr4 := hr4.below hb1 (by first | exact Nat.le_refl _ | simp)
  by_cases hn1 : r1 < 0
  · go_wp2
    go_ret
    exact ⟨-1, rfl, .inl (by omega), by omega, by exact (by repeat (first | (with_reducible refine Below.setCell ?_ (by first | omega | (· simp) | (· (simp; omega))) _) | (with_reducible refine Below.alloc ?_ (by first | omega | (· simp) | (· (simp; omega))) _) | (with_reducible refine Below.drew ?_) | (with_reducible refine zx2 ?_ _) | (with_reducible exact Below.refl _ _) | (with_reducible assumption) | (with_reducible refine Below.trans ?_ (Below.mono (by assumption) (by first | omega | (· simp) | (· (simp; omega))))) | (with_reducible refine Below.trans ?_ (Kp.below (by assumption) (by first | omega | (· simp) | (· (simp; omega))) (by first | omega | (· simp) | (· (simp; omega)))))))⟩
  have hq1 := hr1s.resolve_left hn1
  go_wp2_with fail
  go_at_call 62
  refine ((zn12 (E.Ty.mk_lst Try.underlying55 (by kernel_rfl) gx1.1 gx1.2)) _ _ hr1 (by omega) (by omega)).mono ?_; rintro e w2 ⟨r2, rfl, hr2s, hl2, hb2⟩
  have hz2 := hb2.size; (try simp only [World.size_alloc] at hz2)
  have c2_2 : w2.cell? ⟨w.heap.size, 2, none⟩ = some (.int .i64 x2) := (by repeat (first | (with_reducible assumption) | (with_reducible refine za6 ?_) | (with_reducible refine zp5 ?_) | (with_reducible exact zl5 rfl) | (exact cell_new' rfl (by first | rfl | (simp; done))) | (with_reducible refine zu4 ?_ ?_) | (refine zf2 (by with_reducible assumption) ?_ ?_) | (refine zf7 (by with_reducible assumption) ?_ ?_) | omega | (· simp) | (· (simp; omega))))
  have c2_3 : w2.cell? ⟨w.heap.size, 3, none⟩ = some (.int .i64 x3) := (by repeat (first | (with_reducible assumption) | (with_reducible refine za6 ?_) | (with_reducible refine zp5 ?_) | (with_reducible exact zl5 rfl) | (exact cell_new' rfl (by first | rfl | (simp; done))) | (with_reducible refine zu4 ?_ ?_) | (refine zf2 (by with_reducible assumption) ?_ ?_) | (refine zf7 (by with_reducible assumption) ?_ ?_) | omega | (· simp) | (· (simp; omega))))
  have c2_4 : w2.cell? ⟨w.heap.size, 4, none⟩ = some (.slice x4A x4l.length x4c) := (by repeat (first | (with_reducible assumption) | (with_reducible refine za6 ?_) | (with_reducible refine zp5 ?_) | (with_reducible exact zl5 rfl) | (exact cell_new' rfl (by first | rfl | (simp; done))) | (with_reducible refine zu4 ?_ ?_) | (refine zf2 (by with_reducible assumption) ?_ ?_) | (refine zf7 (by with_reducible assumption) ?_ ?_) | omega | (· simp) | (· (simp; omega))))
  have hr4 := hr4.below hb2 (by first | exact Nat.le_refl _ | simp)
  by_cases hn2 : r2 < 0
  · go_wp2
    go_ret
    exact ⟨-1, rfl, .inl (by omega), by omega, by exact (by repeat (first | (with_reducible refine Below.setCell ?_ (by first | omega | (· simp) | (· (simp; omega))) _) | (with_reducible refine Below.alloc ?_ (by first | omega | (· simp) | (· (simp; omega))) _) | (with_reducible refine Below.drew ?_) | (with_reducible refine zx2 ?_ _) | (with_reducible exact Below.refl _ _) | (with_reducible assumption) | (with_reducible refine Below.trans ?_ (Below.mono (by assumption) (by first | omega | (· simp) | (· (simp; omega))))) | (with_reducible refine Below.trans ?_ (Kp.below (by assumption) (by first | omega | (· simp) | (· (simp; omega))) (by first | omega | (· simp) | (· (simp; omega)))))))⟩
  have hq2 := hr2s.resolve_left hn2
  go_wp2_with fail
  go_at_call 63
  refine ((ze18 (E.Ty.mk_lst Try.underlying59 (by kernel_rfl) gx4.1 gx4.2)) _ _ hr4 (by omega) (by omega)).mono ?_; rintro e w3 ⟨r3, rfl, hr3s, hl3, hb3⟩
  have hz3 := hb3.size; (try simp only [World.size_alloc] at hz3)
  by_cases hn3 : r3 < 0
  · go_wp2
    go_ret
    exact ⟨-1, rfl, .inl (by omega), by omega, by exact (by repeat (first | (with_reducible refine Below.setCell ?_ (by first | omega | (· simp) | (· (simp; omega))) _) | (with_reducible refine Below.alloc ?_ (by first | omega | (· simp) | (· (simp; omega))) _) | (with_reducible refine Below.drew ?_) | (with_reducible refine zx2 ?_ _) | (with_reducible exact Below.refl _ _) | (with_reducible assumption) | (with_reducible refine Below.trans ?_ (Below.mono (by assumption) (by first | omega | (· simp) | (· (simp; omega))))) | (with_reducible refine Below.trans ?_ (Kp.below (by assumption) (by first | omega | (· simp) | (· (simp; omega))) (by first | omega | (· simp) | (· (simp; omega)))))))⟩
  have hq3 := hr3s.resolve_left hn3
  go_wp2
  go_ret
  refine ⟨_, rfl, .inr ?_, by omega, by exact (by repeat (first | (with_reducible refine Below.setCell ?_ (by first | omega | (· simp) | (· (simp; omega))) _) | (with_reducible refine Below.alloc ?_ (by first | omega | (· simp) | (· (simp; omega))) _) | (with_reducible refine Below.drew ?_) | (with_reducible refine zx2 ?_ _) | (with_reducible exact Below.refl _ _) | (with_reducible assumption) | (with_reducible refine Below.trans ?_ (Below.mono (by assumption) (by first | omega | (· simp) | (· (simp; omega))))) | (with_reducible refine Below.trans ?_ (Kp.below (by assumption) (by first | omega | (· simp) | (· (simp; omega))) (by first | omega | (· simp) | (· (simp; omega)))))))⟩
  show _ = _
  rw [HSZ.out]
  have e1 := hq1.out
  have e2 := hq2.out
  have e3 := hq3.out
  push_cast
  omega
set_option maxRecDepth 100000 in
set_option maxHeartbeats 1000000 in
theorem za7 {e : E} (ht : e.Ty Try.prog 61) : To 33 67 e := by
  have HT0 := Lib.hid ht
  obtain ⟨x0A, x0c, x0l, x1A, x1c, x1l, x2, x3, x4A, x4c, x4l, rfl, gx0, gx1, gx2, gx3, gx4, -⟩ := zv5 ht
  intro w hr hsz
  have hsz' : ((E.lst 3 134 x0A x0c x0l).sz + ((E.lst 1 9 x1A x1c x1l).sz + (0 + (0 + ((E.lst 2 138 x4A x4c x4l).sz + 0))))) ≤ 1048576 := hsz
  have hs0 : (E.lst 3 134 x0A x0c x0l).sz ≤ 1048576 := by omega
  have hs1 : (E.lst 1 9 x1A x1c x1l).sz ≤ 1048576 := by omega
  have hs4 : (E.lst 2 138 x4A x4c x4l).sz ≤ 1048576 := by omega
  clear hsz hsz'
  have hr0 := hr.fld (i := 0) rfl
  have ty0 : (E.lst 3 134 x0A x0c x0l).Ty Try.prog 58 := E.Ty.mk_lst Try.underlying58 (by kernel_rfl) gx0.1 gx0.2
  have HC0 := Lib.hid (zc18 ty0)
  clear ty0
  have hr1 := hr.fld (i := 1) rfl
  have ty1 : (E.lst 1 9 x1A x1c x1l).Ty Try.prog 55 := E.Ty.mk_lst Try.underlying55 (by kernel_rfl) gx1.1 gx1.2
  have HC1 := Lib.hid (zo12 ty1)
  clear ty1
  have hr4 := hr.fld (i := 4) rfl
  have ty4 : (E.lst 2 138 x4A x4c x4l).Ty Try.prog 59 := E.Ty.mk_lst Try.underlying59 (by kernel_rfl) gx4.1 gx4.2
  have HC4 := Lib.hid (zf18 ty4)
  clear ty4
  change Calls _ _ #[.agg #[.slice x0A x0l.length x0c, .slice x1A x1l.length x1c, .int .i64 x2, .int .i64 x3, .slice x4A x4l.length x4c]] w _
  go_enter Try.func33, Try.ntmps33
  go_wp2_with fail
  go_at_call 67
  refine (HC0.out _ (((hr0.alloc _).alloc _).alloc _) hs0).mono ?_; rintro e w1 ⟨v1, he, HD1, ht1, ho1, hn1, hb1⟩
  have HT1 := Lib.hid ht1
  have HN1 := Lib.hid hn1
  obtain ⟨A1, q1, l1, rfl, -, -⟩ := ht1.lst_ Try.underlying64 (k := 3) (by kernel_rfl)
  obtain rfl : e = .returned (.slice A1 l1.length q1) := he
  clear hn1 ht1
  have B0_1 : w1.heap[w.heap.size]? = some (.cells #[.slice x0A x0l.length x0c, .slice x1A x1l.length x1c, .int .i64 x2, .int .i64 x3, .slice x4A x4l.length x4c] 61 (0, 0)) := (hb1.block (w.heap.size) (by simp; omega)).trans zz16.1
  have B1_1 : w1.heap[w.heap.size + 1]? = some (.cells #[.slice none 0 0, .slice none 0 0, .int .i64 0, .int .i64 0, .slice none 0 0] 67 (0, 0)) := (hb1.block (w.heap.size + 1) (by simp)).trans zz16.2.1
  have B2_1 : w1.heap[w.heap.size + 1 + 1]? = some (.cells #[.slice none 0 0, .slice none 0 0, .int .i64 0, .int .i64 0, .slice none 0 0] 67 (0, 0)) := (hb1.block (w.heap.size + 1 + 1) (by simp)).trans zz16.2.2
  have hz1 := hb1.size; simp only [World.size_alloc] at hz1
  have hB1 : Below w.heap.size w w1 := (by exact (by repeat (first | (with_reducible refine Below.setCell ?_ (by first | omega | (· simp) | (· (simp; omega))) _) | (with_reducible refine Below.alloc ?_ (by first | omega | (· simp) | (· (simp; omega))) _) | (with_reducible refine Below.drew ?_) | (with_reducible refine zx2 ?_ _) | (with_reducible exact Below.refl _ _) | (with_reducible assumption) | (with_reducible refine Below.trans ?_ (Below.mono (by assumption) (by first | omega | (· simp) | (· (simp; omega))))) | (with_reducible refine Below.trans ?_ (Kp.below (by assumption) (by first | omega | (· simp) | (· (simp; omega))) (by first | omega | (· simp) | (· (simp; omega))))))) : Below w.heap.size w _).trans (hb1.mono (by simp; omega))
  have ho1 := ho1.wider (lo' := w.heap.size + 1 + 1 + 1) (by simp) (Nat.le_refl _)
  have c1_0 : w1.cell? ⟨w.heap.size, 0, none⟩ = some (.slice x0A x0l.length x0c) := zj1 B0_1 rfl
  have c1_1 : w1.cell? ⟨w.heap.size, 1, none⟩ = some (.slice x1A x1l.length x1c) := zj1 B0_1 rfl
  have c1_2 : w1.cell? ⟨w.heap.size, 2, none⟩ = some (.int .i64 x2) := zj1 B0_1 rfl
  have c1_3 : w1.cell? ⟨w.heap.size, 3, none⟩ = some (.int .i64 x3) := zj1 B0_1 rfl
  have c1_4 : w1.cell? ⟨w.heap.size, 4, none⟩ = some (.slice x4A x4l.length x4c) := zj1 B0_1 rfl
  have d1_0 : w1.cell? ⟨w.heap.size + 1 + 1, 0, none⟩ = some (.slice none 0 0) := zj1 B2_1 rfl
  have d1_1 : w1.cell? ⟨w.heap.size + 1 + 1, 1, none⟩ = some (.slice none 0 0) := zj1 B2_1 rfl
  have d1_2 : w1.cell? ⟨w.heap.size + 1 + 1, 2, none⟩ = some (.int .i64 0) := zj1 B2_1 rfl
  have d1_3 : w1.cell? ⟨w.heap.size + 1 + 1, 3, none⟩ = some (.int .i64 0) := zj1 B2_1 rfl
  have d1_4 : w1.cell? ⟨w.heap.size + 1 + 1, 4, none⟩ = some (.slice none 0 0) := zj1 B2_1 rfl
  have f1 := zh11 B2_1
  go_wp2_with fail
  have hK1 : Kp (w.heap.size + 1 + 1) (w.heap.size + 1 + 1 + 1) w1 (w1.setCell ⟨w.heap.size + 1 + 1, 0, none⟩ (.slice A1 l1.length q1)) := (by repeat (first | (with_reducible exact Kp.refl _ _ _) | (refine Kp.set ?_ (by first | omega | (dsimp only; omega) | (simp; omega)) (by first | omega | (dsimp only; omega) | (simp; omega)) _)))
  have A0_1 := (hK1.block (w.heap.size) (by omega) (.inl (by omega))).trans B0_1
  have A1_1 := (hK1.block (w.heap.size + 1) (by omega) (.inl (by omega))).trans B1_1
  have A2_1 : (w1.setCell ⟨w.heap.size + 1 + 1, 0, none⟩ (.slice A1 l1.length q1)).heap[w.heap.size + 1 + 1]? = some (.cells #[.slice A1 l1.length q1, .slice none 0 0, .int .i64 0, .int .i64 0, .slice none 0 0] 67 (0, 0)) := by simp only [zj9, B2_1]; simp [setAt]
  have hW1 : (w1.setCell ⟨w.heap.size + 1 + 1, 0, none⟩ (.slice A1 l1.length q1)).heap.size = w1.heap.size := by simp
  have hBW1 : Below w.heap.size w (w1.setCell ⟨w.heap.size + 1 + 1, 0, none⟩ (.slice A1 l1.length q1)) := hB1.trans (hK1.below (by omega) (by omega))
  have ho1 := ho1.kp hK1 (.inr (by omega))
  clear c1_0 c1_1 c1_2 c1_3 c1_4 d1_0 d1_1 d1_2 d1_3 d1_4 f1 B0_1 B1_1 B2_1 hK1 hB1
  generalize (w1.setCell ⟨w.heap.size + 1 + 1, 0, none⟩ (.slice A1 l1.length q1)) = W1 at *
  go_at_call 68
  refine (HC1.out _ (E.In.below hr1 hBW1 (Nat.le_refl _)) hs1).mono ?_; rintro e w2 ⟨v2, he, HD2, ht2, ho2, hn2, hb2⟩
  have HT2 := Lib.hid ht2
  have HN2 := Lib.hid hn2
  obtain ⟨A2, q2, l2, rfl, -, -⟩ := ht2.lst_ Try.underlying55 (k := 1) (by kernel_rfl)
  obtain rfl : e = .returned (.slice A2 l2.length q2) := he
  clear hn2 ht2
  have B0_2 := (hb2.block (w.heap.size) (by omega)).trans A0_1
  have B1_2 := (hb2.block (w.heap.size + 1) (by omega)).trans A1_1
  have B2_2 := (hb2.block (w.heap.size + 1 + 1) (by omega)).trans A2_1
  have hz2 := hb2.size
  have hB2 : Below w.heap.size w w2 := hBW1.trans (hb2.mono (by omega))
  have ho1 := ho1.below hb2 (by omega)
  have ho2 := ho2.wider (lo' := w1.heap.size) (by omega) (Nat.le_refl _)
  clear A0_1 A1_1 A2_1
  have c2_0 : w2.cell? ⟨w.heap.size, 0, none⟩ = some (.slice x0A x0l.length x0c) := zj1 B0_2 rfl
  have c2_1 : w2.cell? ⟨w.heap.size, 1, none⟩ = some (.slice x1A x1l.length x1c) := zj1 B0_2 rfl
  have c2_2 : w2.cell? ⟨w.heap.size, 2, none⟩ = some (.int .i64 x2) := zj1 B0_2 rfl
  have c2_3 : w2.cell? ⟨w.heap.size, 3, none⟩ = some (.int .i64 x3) := zj1 B0_2 rfl
  have c2_4 : w2.cell? ⟨w.heap.size, 4, none⟩ = some (.slice x4A x4l.length x4c) := zj1 B0_2 rfl
  have d2_0 : w2.cell? ⟨w.heap.size + 1 + 1, 0, none⟩ = some (.slice A1 l1.length q1) := zj1 B2_2 rfl
  have d2_1 : w2.cell? ⟨w.heap.size + 1 + 1, 1, none⟩ = some (.slice none 0 0) := zj1 B2_2 rfl
  have d2_2 : w2.cell? ⟨w.heap.size + 1 + 1, 2, none⟩ = some (.int .i64 0) := zj1 B2_2 rfl
  have d2_3 : w2.cell? ⟨w.heap.size + 1 + 1, 3, none⟩ = some (.int .i64 0) := zj1 B2_2 rfl
  have d2_4 : w2.cell? ⟨w.heap.size + 1 + 1, 4, none⟩ = some (.slice none 0 0) := zj1 B2_2 rfl
  have f2 := zh11 B2_2
  go_wp2_with fail
  have hK2 : Kp (w.heap.size + 1 + 1) (w.heap.size + 1 + 1 + 1) w2 (((w2.setCell ⟨w.heap.size + 1 + 1, 1, none⟩ (.slice A2 l2.length q2)).setCell ⟨w.heap.size + 1 + 1, 2, none⟩ (.int .i64 x2)).setCell ⟨w.heap.size + 1 + 1, 3, none⟩ (.int .i64 x3)) := (by repeat (first | (with_reducible exact Kp.refl _ _ _) | (refine Kp.set ?_ (by first | omega | (dsimp only; omega) | (simp; omega)) (by first | omega | (dsimp only; omega) | (simp; omega)) _)))
  have A0_2 := (hK2.block (w.heap.size) (by omega) (.inl (by omega))).trans B0_2
  have A1_2 := (hK2.block (w.heap.size + 1) (by omega) (.inl (by omega))).trans B1_2
  have A2_2 : (((w2.setCell ⟨w.heap.size + 1 + 1, 1, none⟩ (.slice A2 l2.length q2)).setCell ⟨w.heap.size + 1 + 1, 2, none⟩ (.int .i64 x2)).setCell ⟨w.heap.size + 1 + 1, 3, none⟩ (.int .i64 x3)).heap[w.heap.size + 1 + 1]? = some (.cells #[.slice A1 l1.length q1, .slice A2 l2.length q2, .int .i64 x2, .int .i64 x3, .slice none 0 0] 67 (0, 0)) := by simp only [zj9, B2_2]; simp [setAt]
  have hW2 : (((w2.setCell ⟨w.heap.size + 1 + 1, 1, none⟩ (.slice A2 l2.length q2)).setCell ⟨w.heap.size + 1 + 1, 2, none⟩ (.int .i64 x2)).setCell ⟨w.heap.size + 1 + 1, 3, none⟩ (.int .i64 x3)).heap.size = w2.heap.size := by simp
  have hBW2 : Below w.heap.size w (((w2.setCell ⟨w.heap.size + 1 + 1, 1, none⟩ (.slice A2 l2.length q2)).setCell ⟨w.heap.size + 1 + 1, 2, none⟩ (.int .i64 x2)).setCell ⟨w.heap.size + 1 + 1, 3, none⟩ (.int .i64 x3)) := hB2.trans (hK2.below (by omega) (by omega))
  have ho1 := ho1.kp hK2 (.inr (by omega))
  have ho2 := ho2.kp hK2 (.inr (by omega))
  clear c2_0 c2_1 c2_2 c2_3 c2_4 d2_0 d2_1 d2_2 d2_3 d2_4 f2 B0_2 B1_2 B2_2 hK2 hB2
  generalize (((w2.setCell ⟨w.heap.size + 1 + 1, 1, none⟩ (.slice A2 l2.length q2)).setCell ⟨w.heap.size + 1 + 1, 2, none⟩ (.int .i64 x2)).setCell ⟨w.heap.size + 1 + 1, 3, none⟩ (.int .i64 x3)) = W2 at *
  go_at_call 69
  refine (HC4.out _ (E.In.below hr4 hBW2 (Nat.le_refl _)) hs4).mono ?_; rintro e w3 ⟨v3, he, HD3, ht3, ho3, hn3, hb3⟩
  have HT3 := Lib.hid ht3
  have HN3 := Lib.hid hn3
  obtain ⟨A3, q3, l3, rfl, -, -⟩ := ht3.lst_ Try.underlying65 (k := 2) (by kernel_rfl)
  obtain rfl : e = .returned (.slice A3 l3.length q3) := he
  clear hn3 ht3
  have B0_3 := (hb3.block (w.heap.size) (by omega)).trans A0_2
  have B1_3 := (hb3.block (w.heap.size + 1) (by omega)).trans A1_2
  have B2_3 := (hb3.block (w.heap.size + 1 + 1) (by omega)).trans A2_2
  have hz3 := hb3.size
  have hB3 : Below w.heap.size w w3 := hBW2.trans (hb3.mono (by omega))
  have ho1 := ho1.below hb3 (by omega)
  have ho2 := ho2.below hb3 (by omega)
  have ho3 := ho3.wider (lo' := w2.heap.size) (by omega) (Nat.le_refl _)
  clear A0_2 A1_2 A2_2
  have c3_0 : w3.cell? ⟨w.heap.size, 0, none⟩ = some (.slice x0A x0l.length x0c) := zj1 B0_3 rfl
  have c3_1 : w3.cell? ⟨w.heap.size, 1, none⟩ = some (.slice x1A x1l.length x1c) := zj1 B0_3 rfl
  have c3_2 : w3.cell? ⟨w.heap.size, 2, none⟩ = some (.int .i64 x2) := zj1 B0_3 rfl
  have c3_3 : w3.cell? ⟨w.heap.size, 3, none⟩ = some (.int .i64 x3) := zj1 B0_3 rfl
  have c3_4 : w3.cell? ⟨w.heap.size, 4, none⟩ = some (.slice x4A x4l.length x4c) := zj1 B0_3 rfl
  have d3_0 : w3.cell? ⟨w.heap.size + 1 + 1, 0, none⟩ = some (.slice A1 l1.length q1) := zj1 B2_3 rfl
  have d3_1 : w3.cell? ⟨w.heap.size + 1 + 1, 1, none⟩ = some (.slice A2 l2.length q2) := zj1 B2_3 rfl
  have d3_2 : w3.cell? ⟨w.heap.size + 1 + 1, 2, none⟩ = some (.int .i64 x2) := zj1 B2_3 rfl
  have d3_3 : w3.cell? ⟨w.heap.size + 1 + 1, 3, none⟩ = some (.int .i64 x3) := zj1 B2_3 rfl
  have d3_4 : w3.cell? ⟨w.heap.size + 1 + 1, 4, none⟩ = some (.slice none 0 0) := zj1 B2_3 rfl
  have f3 := zh11 B2_3
  have r0' := zj1 B1_3 (o := 0) rfl; have r1' := zj1 B1_3 (o := 1) rfl; have r2' := zj1 B1_3 (o := 2) rfl; have r3' := zj1 B1_3 (o := 3) rfl; have r4' := zj1 B1_3 (o := 4) rfl
  have fr' := zh11 B1_3
  go_wp2
  have OWN : Owns w3 (w.heap.size + 1 + 1 + 1) w3.heap.size [(E.lst 3 29 A1 q1 l1), (E.lst 1 9 A2 q2 l2), (E.int .i64 x2), (E.int .i64 x3), (E.lst 2 103 A3 q3 l3)] := (Owns.cons (mid := w1.heap.size) ho1 HN1.out (Owns.cons (mid := w2.heap.size) ho2 HN2.out (Owns.leaf rfl (by simp only [E.Ho]) (Owns.leaf rfl (by simp only [E.Ho]) (Owns.cons (mid := w3.heap.size) ho3 HN3.out Owns.nil (by omega) (by omega)))) (by omega) (by omega)) (by omega) (by omega))
  refine bodyPost_ret (v := .agg #[.slice A1 l1.length q1, .slice A2 l2.length q2, .int .i64 x2, .int .i64 x3, .slice A3 l3.length q3]) (zu15 (t := 67) (fr := (0, 0)) rfl rfl Try.underlying67 (by kernel_rfl) ?_) rfl ⟨(E.agg [(E.lst 3 29 A1 q1 l1), (E.lst 1 9 A2 q2 l2), (E.int .i64 x2), (E.int .i64 x3), (E.lst 2 103 A3 q3 l3)]), rfl, ?_, E.Ty.mk_agg Try.underlying67 (E.TyF.mk_cons HT1.out (E.TyF.mk_cons HT2.out (E.TyF.mk_cons (show E.Ty _ _ _ from ⟨Try.underlying3, gx2⟩) (E.TyF.mk_cons (show E.Ty _ _ _ from ⟨Try.underlying3, gx3⟩) (E.TyF.mk_cons HT3.out (E.TyF.mk_nil)))))), ?_, ?_, ?_⟩
  · simp only [zj9, B1_3, B2_3]; simp [setAt]
  · show E.d _ = E.d _
    simp only [E.d, E.dL]
    have y1 := HD1.out; simp only [E.d, E.dL] at y1
    have y2 := HD2.out; simp only [E.d, E.dL] at y2
    have y3 := HD3.out; simp only [E.d, E.dL] at y3
    simp only [E.agg.injEq, List.cons.injEq, E.lst.injEq, E.int.injEq, E.str.injEq, E.bool.injEq, true_and, and_true] at *
    simp [*]
  · exact ((E.Ho.mk_agg OWN.1).kp (lo' := w.heap.size + 1) (hi' := w.heap.size + 1 + 1 + 1) (by repeat (first | (with_reducible exact Kp.refl _ _ _) | (refine Kp.set ?_ (by first | omega | (dsimp only; omega) | (simp; omega)) (by first | omega | (dsimp only; omega) | (simp; omega)) _))) (.inr (by omega))).wider (by omega) (by simp)
  · exact OWN.2
  · exact hB3.trans (Kp.below (lo := w.heap.size + 1) (hi := w.heap.size + 1 + 1 + 1) (by repeat (first | (with_reducible exact Kp.refl _ _ _) | (refine Kp.set ?_ (by first | omega | (dsimp only; omega) | (simp; omega)) (by first | omega | (dsimp only; omega) | (simp; omega)) _))) (by omega) (by omega))
set_option maxRecDepth 100000 in
set_option maxHeartbeats 1000000 in
theorem zn14 {e e' : E} (ht : e.Ty Try.prog 67) (ht' : e'.Ty Try.prog 67) : Eq 35 e e' := by
  obtain ⟨x0A, x0c, x0l, x1A, x1c, x1l, x2, x3, x4A, x4c, x4l, rfl, gx0, gx1, gx2, gx3, gx4, -⟩ := zk4 ht
  obtain ⟨y0A, y0c, y0l, y1A, y1c, y1l, y2, y3, y4A, y4c, y4l, rfl, gy0, gy1, gy2, gy3, gy4, -⟩ := zk4 ht'
  intro hd w hr hr'
  simp only [E.d, E.dL, E.agg.injEq, List.cons.injEq, E.int.injEq, E.str.injEq, E.bool.injEq, E.lst.injEq, true_and, and_true] at hd
  obtain ⟨hd0, hd1, rfl, rfl, hd4⟩ := hd
  have hr0 := ((hr.fld (i := 0) rfl).alloc (.cells #[.slice x0A x0l.length x0c, .slice x1A x1l.length x1c, .int .i64 x2, .int .i64 x3, .slice x4A x4l.length x4c] 67)).alloc (.cells #[.slice y0A y0l.length y0c, .slice y1A y1l.length y1c, .int .i64 x2, .int .i64 x3, .slice y4A y4l.length y4c] 67)
  have hs0 := ((hr'.fld (i := 0) rfl).alloc (.cells #[.slice x0A x0l.length x0c, .slice x1A x1l.length x1c, .int .i64 x2, .int .i64 x3, .slice x4A x4l.length x4c] 67)).alloc (.cells #[.slice y0A y0l.length y0c, .slice y1A y1l.length y1c, .int .i64 x2, .int .i64 x3, .slice y4A y4l.length y4c] 67)
  have t0 : (E.lst 3 29 x0A x0c x0l).Ty Try.prog 64 := E.Ty.mk_lst Try.underlying64 (by kernel_rfl) gx0.1 gx0.2
  have u0 : (E.lst 3 29 y0A y0c y0l).Ty Try.prog 64 := E.Ty.mk_lst Try.underlying64 (by kernel_rfl) gy0.1 gy0.2
  have HC0 := Lib.hid (zd18 t0 u0 (by simp only [E.d, E.dL, E.agg.injEq, List.cons.injEq, E.int.injEq, E.str.injEq, E.bool.injEq, E.lst.injEq, true_and, and_true]; exact hd0))
  clear t0 u0
  have hr1 := ((hr.fld (i := 1) rfl).alloc (.cells #[.slice x0A x0l.length x0c, .slice x1A x1l.length x1c, .int .i64 x2, .int .i64 x3, .slice x4A x4l.length x4c] 67)).alloc (.cells #[.slice y0A y0l.length y0c, .slice y1A y1l.length y1c, .int .i64 x2, .int .i64 x3, .slice y4A y4l.length y4c] 67)
  have hs1 := ((hr'.fld (i := 1) rfl).alloc (.cells #[.slice x0A x0l.length x0c, .slice x1A x1l.length x1c, .int .i64 x2, .int .i64 x3, .slice x4A x4l.length x4c] 67)).alloc (.cells #[.slice y0A y0l.length y0c, .slice y1A y1l.length y1c, .int .i64 x2, .int .i64 x3, .slice y4A y4l.length y4c] 67)
  have t1 : (E.lst 1 9 x1A x1c x1l).Ty Try.prog 55 := E.Ty.mk_lst Try.underlying55 (by kernel_rfl) gx1.1 gx1.2
  have u1 : (E.lst 1 9 y1A y1c y1l).Ty Try.prog 55 := E.Ty.mk_lst Try.underlying55 (by kernel_rfl) gy1.1 gy1.2
  have HC1 := Lib.hid (zp12 t1 u1 (by simp only [E.d, E.dL, E.agg.injEq, List.cons.injEq, E.int.injEq, E.str.injEq, E.bool.injEq, E.lst.injEq, true_and, and_true]; exact hd1))
  clear t1 u1
  have hr4 := ((hr.fld (i := 4) rfl).alloc (.cells #[.slice x0A x0l.length x0c, .slice x1A x1l.length x1c, .int .i64 x2, .int .i64 x3, .slice x4A x4l.length x4c] 67)).alloc (.cells #[.slice y0A y0l.length y0c, .slice y1A y1l.length y1c, .int .i64 x2, .int .i64 x3, .slice y4A y4l.length y4c] 67)
  have hs4 := ((hr'.fld (i := 4) rfl).alloc (.cells #[.slice x0A x0l.length x0c, .slice x1A x1l.length x1c, .int .i64 x2, .int .i64 x3, .slice x4A x4l.length x4c] 67)).alloc (.cells #[.slice y0A y0l.length y0c, .slice y1A y1l.length y1c, .int .i64 x2, .int .i64 x3, .slice y4A y4l.length y4c] 67)
  have t4 : (E.lst 2 103 x4A x4c x4l).Ty Try.prog 65 := E.Ty.mk_lst Try.underlying65 (by kernel_rfl) gx4.1 gx4.2
  have u4 : (E.lst 2 103 y4A y4c y4l).Ty Try.prog 65 := E.Ty.mk_lst Try.underlying65 (by kernel_rfl) gy4.1 gy4.2
  have HC4 := Lib.hid (zg18 t4 u4 (by simp only [E.d, E.dL, E.agg.injEq, List.cons.injEq, E.int.injEq, E.str.injEq, E.bool.injEq, E.lst.injEq, true_and, and_true]; exact hd4))
  clear t4 u4
  clear hd0 hd1 hd4
  change Calls _ _ #[.agg #[.slice x0A x0l.length x0c, .slice x1A x1l.length x1c, .int .i64 x2, .int .i64 x3, .slice x4A x4l.length x4c], .agg #[.slice y0A y0l.length y0c, .slice y1A y1l.length y1c, .int .i64 x2, .int .i64 x3, .slice y4A y4l.length y4c]] w _
  go_enter Try.func35, Try.ntmps35
  go_wp2_with fail
  go_at_call 78
  refine (HC0.out _ hr0 hs0).mono ?_; rintro e w1 ⟨rfl, hb1⟩
  have hz1 := hb1.size; (try simp only [World.size_alloc] at hz1)
  have c1_1 : w1.cell? ⟨w.heap.size, 1, none⟩ = some (.slice x1A x1l.length x1c) := zf2 hb1 (zu4 (zl5 rfl) (by simp)) (by simp; omega)
  have d1_1 : w1.cell? ⟨w.heap.size + 1, 1, none⟩ = some (.slice y1A y1l.length y1c) := zf2 hb1 (cell_new' rfl (by simp)) (by simp)
  have c1_2 : w1.cell? ⟨w.heap.size, 2, none⟩ = some (.int .i64 x2) := zf2 hb1 (zu4 (zl5 rfl) (by simp)) (by simp; omega)
  have d1_2 : w1.cell? ⟨w.heap.size + 1, 2, none⟩ = some (.int .i64 x2) := zf2 hb1 (cell_new' rfl (by simp)) (by simp)
  have c1_3 : w1.cell? ⟨w.heap.size, 3, none⟩ = some (.int .i64 x3) := zf2 hb1 (zu4 (zl5 rfl) (by simp)) (by simp; omega)
  have d1_3 : w1.cell? ⟨w.heap.size + 1, 3, none⟩ = some (.int .i64 x3) := zf2 hb1 (cell_new' rfl (by simp)) (by simp)
  have c1_4 : w1.cell? ⟨w.heap.size, 4, none⟩ = some (.slice x4A x4l.length x4c) := zf2 hb1 (zu4 (zl5 rfl) (by simp)) (by simp; omega)
  have d1_4 : w1.cell? ⟨w.heap.size + 1, 4, none⟩ = some (.slice y4A y4l.length y4c) := zf2 hb1 (cell_new' rfl (by simp)) (by simp)
  have hr1 := hr1.below hb1 (by first | exact Nat.le_refl _ | simp)
  have hs1 := hs1.below hb1 (by first | exact Nat.le_refl _ | simp)
  have hr4 := hr4.below hb1 (by first | exact Nat.le_refl _ | simp)
  have hs4 := hs4.below hb1 (by first | exact Nat.le_refl _ | simp)
  go_wp2_with fail
  go_at_call 79
  refine (HC1.out _ hr1 hs1).mono ?_; rintro e w2 ⟨rfl, hb2⟩
  have hz2 := hb2.size; (try simp only [World.size_alloc] at hz2)
  have c2_2 := zf2 hb2 c1_2 (by omega)
  have d2_2 := zf2 hb2 d1_2 (by omega)
  have c2_3 := zf2 hb2 c1_3 (by omega)
  have d2_3 := zf2 hb2 d1_3 (by omega)
  have c2_4 := zf2 hb2 c1_4 (by omega)
  have d2_4 := zf2 hb2 d1_4 (by omega)
  clear c1_1 d1_1 c1_2 d1_2 c1_3 d1_3 c1_4 d1_4
  have hr4 := hr4.below hb2 (by first | exact Nat.le_refl _ | simp)
  have hs4 := hs4.below hb2 (by first | exact Nat.le_refl _ | simp)
  go_wp2_with fail
  go_at_call 80
  refine (HC4.out _ hr4 hs4).mono ?_; rintro e w3 ⟨rfl, hb3⟩
  have hz3 := hb3.size; (try simp only [World.size_alloc] at hz3)
  clear c2_2 d2_2 c2_3 d2_3 c2_4 d2_4
  go_wp2
  go_ret
  exact ⟨rfl, (by repeat (first | (with_reducible refine Below.setCell ?_ (by first | omega | (· simp) | (· (simp; omega))) _) | (with_reducible refine Below.alloc ?_ (by first | omega | (· simp) | (· (simp; omega))) _) | (with_reducible refine Below.drew ?_) | (with_reducible refine zx2 ?_ _) | (with_reducible exact Below.refl _ _) | (with_reducible assumption) | (with_reducible refine Below.trans ?_ (Below.mono (by assumption) (by first | omega | (· simp) | (· (simp; omega))))) | (with_reducible refine Below.trans ?_ (Kp.below (by assumption) (by first | omega | (· simp) | (· (simp; omega))) (by first | omega | (· simp) | (· (simp; omega)))))))⟩
set_option maxRecDepth 100000
def rexN (s : ByteArray) : Bool := parI s && decide (s.size ≤ 200)
theorem zo14 {s : ByteArray} (hs : s.size ≤ 1048576) : Fine (rexR s) := by
  unfold rexR
  split
  · exact (zp8 hs).1
  · exact Fine.zero
theorem zh18 {s : ByteArray} (hs : s.size ≤ 1048576) : Ctr Try.prog 74 [.c (.v (.string s))] [] (.c (.v (.bool (rexN s)))) [] := by
  have hc := za11 hs
  have hf := zo14 hs
  generalize rexR s = e at hc hf
  cases hf with
  | mk k t l hk ht hl2 =>
  refine zm2 Try.func74 rfl rfl ?_
  unfold rexN
  generalize parI s = b at *
  repeat' (first | ((apply f_wo); first | ((apply f_gs); first | refine n_sk ?_) | ((apply f_mv); first | (refine zw1 ?_ ?_ <;> intro hG <;> (try cases hG)) | refine zg1 (v := .c _) ?_ | refine zg1 (v := .tu _) ?_ | refine za ?_) | ((apply f_as); first | refine zf1 (v := .c _) ?_ | refine zf1 (v := .tu _) ?_ | refine za ?_) | ((apply f_ca); first | refine zr2 (hc) ?_ | refine zp2 (hc) ?_) | ((apply f_bi); first | refine zd1 ?_ | refine zc1 ?_ | refine ze1 ?_ | refine za ?_) | ((apply f_st); first | refine n_st ?_ | refine zt1 ?_) | ((apply zb6); first | refine zj3 ?_ | refine za ?_) | ((apply f_pk); first | refine zu1 (v := .c _) ?_ | refine zu1 (v := .tu _) ?_ | refine za ?_) | ((apply f_ex); first | refine n_exv (v := .c _) ?_ | refine n_exv (v := .tu _) ?_ | refine za ?_) | refine n_al ?_ | refine za ?_) | ((apply f_w); first | refine zy ?_ | refine zc ?_) | refine zb fun C => ?_ | refine zn ?_ | refine ze ?_ | refine zh ?_ | refine zi ?_ | (refine zt (by rfl) ?_ ?_ <;> intro hC <;> (try cases hC)))
  all_goals
    (first | refine zu ?_ | skip); refine ret0 rfl zn2 ⟨?_, rfl⟩; refine congrArg (fun s => AV.c (AC.v (Value.bool s))) ?_
    first
      | rfl
      | (simp only [Bool.true_and]; (rw [Bool.eq_iff_iff]; (try simp only [Bool.and_eq_true, Bool.or_eq_true, Bool.not_eq_true', decide_eq_true_iff, decide_eq_false_iff_not, beq_iff_eq, Bool.and_eq_false_iff, Bool.or_eq_false_iff, bne_iff_ne, ne_eq, Bool.true_eq_false, Bool.false_eq_true, true_iff, false_iff, iff_true, iff_false] at *); first | omega | (simp at *; omega)))
theorem zg22 {s : ByteArray} (hs : s.size ≤ 1048576) : Ctr Try.prog 64 [.c (.v (.string s))] [] (.c (.v (.bool (rexN s)))) [] := by
  have hc := zb11 hs
  have hf := zo14 hs
  generalize rexR s = e at hc hf
  cases hf with
  | mk k t l hk ht hl2 =>
  refine zm2 Try.func64 rfl rfl ?_
  unfold rexN
  generalize parI s = b at *
  repeat' (first | ((apply f_wo); first | ((apply f_gs); first | refine n_sk ?_) | ((apply f_mv); first | (refine zw1 ?_ ?_ <;> intro hG <;> (try cases hG)) | refine zg1 (v := .c _) ?_ | refine zg1 (v := .tu _) ?_ | refine za ?_) | ((apply f_as); first | refine zf1 (v := .c _) ?_ | refine zf1 (v := .tu _) ?_ | refine za ?_) | ((apply f_ca); first | refine zr2 (hc) ?_ | refine zp2 (hc) ?_) | ((apply f_bi); first | refine zd1 ?_ | refine zc1 ?_ | refine ze1 ?_ | refine za ?_) | ((apply f_st); first | refine n_st ?_ | refine zt1 ?_) | ((apply zb6); first | refine zj3 ?_ | refine za ?_) | ((apply f_pk); first | refine zu1 (v := .c _) ?_ | refine zu1 (v := .tu _) ?_ | refine za ?_) | ((apply f_ex); first | refine n_exv (v := .c _) ?_ | refine n_exv (v := .tu _) ?_ | refine za ?_) | refine n_al ?_ | refine za ?_) | ((apply f_w); first | refine zy ?_ | refine zc ?_) | refine zb fun C => ?_ | refine zn ?_ | refine ze ?_ | refine zh ?_ | refine zi ?_ | (refine zt (by rfl) ?_ ?_ <;> intro hC <;> (try cases hC)))
  all_goals
    (first | refine zu ?_ | skip); refine ret0 rfl zn2 ⟨?_, rfl⟩; refine congrArg (fun s => AV.c (AC.v (Value.bool s))) ?_
    first
      | rfl
      | (simp only [Bool.true_and]; (rw [Bool.eq_iff_iff]; (try simp only [Bool.and_eq_true, Bool.or_eq_true, Bool.not_eq_true', decide_eq_true_iff, decide_eq_false_iff_not, beq_iff_eq, Bool.and_eq_false_iff, Bool.or_eq_false_iff, bne_iff_ne, ne_eq, Bool.true_eq_false, Bool.false_eq_true, true_iff, false_iff, iff_true, iff_false] at *); first | omega | (simp at *; omega)))
def rexNE (e : E) : Bool := rexN (strB e)
def insE : E → Bool
  | .agg [.int _ x, .int _ n] => insOkS x n
  | _ => false
def fnOkE (n i : Nat) : E → Bool
  | .agg [.int _ pp, .lst _ _ _ _ code] => inR pp 0 4 && !(decide (n ≤ i + 3) && !(pp == 0)) && inR code.length 1 3000 && code.all insE
  | _ => false
def fnsOk (n : Nat) : Nat → List E → Bool
  | _, [] => true
  | i, f :: r => fnOkE n i f && fnsOk n (i + 1) r
def modHead (l0 l1 : List E) (x2 x3 : Int) (l4 : List E) : Bool := decide (l0.length ≤ 400) && decide (l1.length ≤ 100) && inR x2 0 400 && inR x3 0 400 && inR l4.length 3 9
def modOkL (l0 l1 : List E) (x2 x3 : Int) (l4 : List E) : Bool := modHead l0 l1 x2 x3 l4 && (l0.all valE && l1.all rexNE && fnsOk l4.length 0 l4)
def modOkE : E → Bool
  | .agg [.lst _ _ _ _ l0, .lst _ _ _ _ l1, .int _ x2, .int _ x3, .lst _ _ _ _ l4] => modOkL l0 l1 x2 x3 l4
  | _ => false
theorem clo1_c {x : E} (hx : x.Ty Try.prog 29) : Ctr Try.prog 71 [.ag (acE x)] [] (.c (.v (.bool (!(valE x))))) [] := by
  have hc := zs15 hx
  obtain ⟨x0, x1, x2, rfl, -⟩ := zy3 hx
  refine zm2 Try.func71 rfl rfl ?_
  repeat' (first | ((apply f_wo); first | ((apply f_as); first | refine zf1 (v := .c _) ?_ | refine za ?_) | ((apply f_ld); first | refine zw ?_ | refine zi1 ?_ | refine n_ld ?_) | ((apply f_ca); first | refine zr2 (hc) ?_ | refine zp2 (hc) ?_) | ((apply f_no); first | refine zj2 ?_ | refine za ?_) | refine n_bo ?_ | refine za ?_) | ((apply f_w); first | refine zy ?_ | refine zc ?_) | refine zb fun C => ?_ | refine zn ?_ | refine ze ?_ | refine zh ?_ | refine zi ?_ | (refine zt (by rfl) ?_ ?_ <;> intro hC <;> (try cases hC)))
  refine zu ?_; refine ret0 rfl zn2 ⟨?_, rfl⟩
  rfl
theorem clo2_c {s : ByteArray} (hs : s.size ≤ 1048576) : Ctr Try.prog 73 [.c (.v (.string s))] [] (.c (.v (.bool (!(rexN s))))) [] := by
  have hc := zh18 hs
  refine zm2 Try.func73 rfl rfl ?_
  repeat' (first | ((apply f_wo); first | ((apply f_mv); first | refine zg1 (v := .c _) ?_ | refine za ?_) | ((apply f_as); first | refine zf1 (v := .c _) ?_ | refine za ?_) | ((apply f_ca); first | refine zr2 (hc) ?_ | refine zp2 (hc) ?_) | ((apply f_no); first | refine zj2 ?_ | refine za ?_) | refine za ?_) | ((apply f_w); first | refine zy ?_ | refine zc ?_) | refine zb fun C => ?_ | refine zn ?_ | refine ze ?_ | refine zh ?_ | refine zi ?_ | (refine zt (by rfl) ?_ ?_ <;> intro hC <;> (try cases hC)))
  refine zu ?_; refine ret0 rfl zn2 ⟨?_, rfl⟩
  rfl
theorem clo3_c {x : E} (hx : x.Ty Try.prog 111) : Ctr Try.prog 76 [.ag (acE x)] [] (.c (.v (.bool (!(insE x))))) [] := by
  obtain ⟨x0, x1, rfl, -⟩ := zs4 hx
  refine zm2 Try.func76 rfl rfl ?_
  repeat' (first | ((apply f_wo); first | ((apply f_as); first | refine zf1 (v := .c _) ?_ | refine za ?_) | ((apply f_ld); first | refine zw ?_ | refine zi1 ?_ | refine n_ld ?_) | ((apply f_ca); first | refine zr2 ((zr10 _ _)) ?_ | refine zp2 ((zr10 _ _)) ?_) | ((apply f_no); first | refine zj2 ?_ | refine za ?_) | refine n_bo ?_ | refine za ?_) | ((apply f_w); first | refine zy ?_ | refine zc ?_) | refine zb fun C => ?_ | refine zn ?_ | refine ze ?_ | refine zh ?_ | refine zi ?_ | (refine zt (by rfl) ?_ ?_ <;> intro hC <;> (try cases hC)))
  refine zu ?_; refine ret0 rfl zn2 ⟨?_, rfl⟩
  rfl
theorem zh22 {p : E → Bool} (l : List E) : (l.any fun x => !(p x)) = !(l.all p) := by
  rw [List.not_all_eq_any_not]
theorem strsz {l : List E} (hl : ∀ x ∈ l, x.Ty Try.prog 9) (hz : E.szL l ≤ 1048576) : ∀ x ∈ l, (strB x).size ≤ 1048576 := fun x hx => by
  have := E.szL_mem hx
  obtain ⟨s, rfl, -⟩ := (hl x hx).str_ Try.underlying9
  simp only [E.sz] at this
  show s.size ≤ _; omega
set_option maxHeartbeats 8000000 in
theorem zc11 {e : E} (he : e.Ty Try.prog 67) (hsz : e.sz ≤ 1048576) : Ctr Try.prog 34 [.ag (acE e)] [] (.c (.v (.bool (modOkE e)))) [] := by
  obtain ⟨x0A, x0c, l0, x1A, x1c, l1, x2, x3, x4A, x4c, l4, rfl, ⟨a0, ka0⟩, ⟨a1, ka1⟩, -, -, ⟨a4, ka4⟩, -⟩ := zk4 he
  simp only [E.sz, E.szL] at hsz
  have hl0 : l0.length ≤ 1048576 := by omega
  have hl1 : l1.length ≤ 1048576 := by omega
  have hl4 : l4.length ≤ 1048576 := by omega
  have hs1 := strsz a1 (by omega)
  show Ctr _ _ _ _ (.c (.v (.bool (modOkL l0 l1 x2 x3 l4)))) _
  have c1 := za22 a0 ka0 (by omega) (fun x => !(valE x)) 71 fun x hx => clo1_c (a0 x hx)
  have c2 := zl14 a1 ka1 (by omega) (fun x => !(rexNE x)) 73 fun x hx => clo2_c (hs1 x hx)
  rw [zh22] at c1 c2
  refine zm2 Try.func34 rfl rfl ?_
  unfold modOkL
  cases hh : modHead l0 l1 x2 x3 l4 with
  | false =>
    unfold modHead at hh
    repeat' (first | ((apply f_wo); first | ((apply f_gs); first | refine n_sk ?_) | ((apply f_mv); first | (refine zw1 ?_ ?_ <;> intro hG <;> (try cases hG)) | refine zg1 (v := .c _) ?_ | refine za ?_) | ((apply f_as); first | refine zf1 (v := .c _) ?_ | refine za ?_) | ((apply f_fa); first | refine n_fa ?_ | refine zk1 ?_) | ((apply f_ld); first | refine zp1 ?_ | refine zb1 ?_ | refine zw ?_ | refine zi1 ?_ | refine n_ld ?_) | ((apply f_ca); first | refine zr2 ((zs5 _ _ _)) ?_ | refine zp2 ((zs5 _ _ _)) ?_) | ((apply f_bi); first | refine zd1 ?_ | refine zc1 ?_ | refine ze1 ?_ | refine za ?_) | ((apply f_st); first | refine n_st ?_ | refine zt1 ?_) | ((apply f_ia); first | refine n_ix ?_ | refine zc2 ?_ | refine za ?_) | ((apply zy2); first | refine zk2 ?_ | refine za ?_) | ((apply za2); first | refine zq ?_ | refine za ?_) | ((apply zq3); first | refine zh1 ?_ | refine za ?_) | ((apply zs3); first | refine zo1 ?_ | refine za ?_) | ((apply zs1); first | refine zo ?_ | refine zr1 ?_ | refine za ?_) | ((apply f_no); first | refine zj2 ?_ | refine za ?_) | ((apply f_pk); first | refine zu1 (v := .c _) ?_ | refine za ?_) | ((apply f_bb); first | refine zg2 ?_ | refine zh2 ?_ | refine za ?_) | refine n_al ?_ | refine n_bo ?_ | refine za ?_) | ((apply f_w); first | refine zy ?_ | refine zc ?_) | refine zb fun C => ?_ | refine zn ?_ | refine ze ?_ | refine zh ?_ | refine zi ?_)
    all_goals first
      | refine zx rfl ?_
      | refine zt (by rfl) (fun hC => ?_) fun hC => by exfalso; clear c1 c2 a0 a1 a4 ka0 ka1 ka4 hs1 he; simp only [inR, Bool.and_eq_true, Bool.and_eq_false_iff, Bool.not_eq_true', Bool.not_eq_false', decide_eq_true_iff, decide_eq_false_iff_not] at *; omega
    all_goals
      repeat' (first | ((apply f_wo); first | ((apply f_gs); first | refine n_sk ?_) | ((apply f_mv); first | (refine zw1 ?_ ?_ <;> intro hG <;> (try cases hG)) | refine zg1 (v := .c _) ?_ | refine za ?_) | ((apply f_as); first | refine zf1 (v := .c _) ?_ | refine za ?_) | ((apply f_fa); first | refine n_fa ?_ | refine zk1 ?_) | ((apply f_ld); first | refine zp1 ?_ | refine zb1 ?_ | refine zw ?_ | refine zi1 ?_ | refine n_ld ?_) | ((apply f_bi); first | refine zd1 ?_ | refine zc1 ?_ | refine ze1 ?_ | refine za ?_) | ((apply f_st); first | refine n_st ?_ | refine zt1 ?_) | ((apply f_ia); first | refine n_ix ?_ | refine zc2 ?_ | refine za ?_) | ((apply zy2); first | refine zk2 ?_ | refine za ?_) | ((apply za2); first | refine zq ?_ | refine za ?_) | ((apply zq3); first | refine zh1 ?_ | refine za ?_) | ((apply zs3); first | refine zo1 ?_ | refine za ?_) | ((apply zs1); first | refine zo ?_ | refine zr1 ?_ | refine za ?_) | ((apply f_no); first | refine zj2 ?_ | refine za ?_) | ((apply f_pk); first | refine zu1 (v := .c _) ?_ | refine za ?_) | ((apply f_bb); first | refine zg2 ?_ | refine zh2 ?_ | refine za ?_) | refine n_al ?_ | refine n_bo ?_ | refine za ?_) | ((apply f_w); first | refine zy ?_ | refine zc ?_) | refine zb fun C => ?_ | refine zn ?_ | refine ze ?_ | refine zh ?_ | refine zi ?_ | refine zx rfl ?_ | refine zv rfl ?_)
      refine zu ?_; refine ret0 rfl zn2 ⟨?_, rfl⟩
      rfl
  | true =>
    simp only [Bool.true_and]
    have hh2 := hh
    unfold modHead at hh2
    simp only [Bool.and_eq_true, decide_eq_true_iff] at hh2
    obtain ⟨⟨⟨⟨q0, q1⟩, q2⟩, q3⟩, q4⟩ := hh2
    have w2 := zs5 x2 0 400
    have w3 := zs5 x3 0 400
    have w4 := zs5 (l4.length : Int) 3 9
    rw [q2] at w2
    rw [q3] at w3
    rw [q4] at w4
    clear hh
    repeat' (first | ((apply f_wo); first | ((apply f_gs); first | refine n_sk ?_) | ((apply f_mv); first | (refine zw1 ?_ ?_ <;> intro hG <;> (try cases hG)) | refine zg1 (v := .c _) ?_ | refine za ?_) | ((apply f_as); first | refine zf1 (v := .c _) ?_ | refine za ?_) | ((apply f_fa); first | refine n_fa ?_ | refine zk1 ?_) | ((apply f_ld); first | refine zp1 ?_ | refine zb1 ?_ | refine zw ?_ | refine zi1 ?_ | refine n_ld ?_) | ((apply f_ca); first | refine zr2 (w2) ?_ | refine zp2 (w2) ?_ | refine zr2 (w3) ?_ | refine zp2 (w3) ?_ | refine zr2 (w4) ?_ | refine zp2 (w4) ?_) | ((apply f_bi); first | refine zd1 ?_ | refine zc1 ?_ | refine ze1 ?_ | refine za ?_) | ((apply f_st); first | refine n_st ?_ | refine zt1 ?_) | ((apply f_ia); first | refine n_ix ?_ | refine zc2 ?_ | refine za ?_) | ((apply zy2); first | refine zk2 ?_ | refine za ?_) | ((apply za2); first | refine zq ?_ | refine za ?_) | ((apply zq3); first | refine zh1 ?_ | refine za ?_) | ((apply zs3); first | refine zo1 ?_ | refine za ?_) | ((apply zs1); first | refine zo ?_ | refine zr1 ?_ | refine za ?_) | ((apply f_no); first | refine zj2 ?_ | refine za ?_) | ((apply f_pk); first | refine zu1 (v := .c _) ?_ | refine za ?_) | ((apply f_bb); first | refine zg2 ?_ | refine zh2 ?_ | refine za ?_) | refine n_al ?_ | refine n_bo ?_ | refine za ?_) | ((apply f_w); first | refine zy ?_ | refine zc ?_) | refine zb fun C => ?_ | refine zn ?_ | refine ze ?_ | refine zh ?_ | refine zi ?_)
    all_goals first
      | (exfalso; simp only [decide_eq_true_iff] at hG; omega)
      | skip
    refine zv rfl ?_
    cases hv : l0.all valE with
    | false =>
      rw [hv] at c1
      repeat' (first | ((apply f_wo); first | ((apply f_gs); first | refine n_sk ?_) | ((apply f_mv); first | (refine zw1 ?_ ?_ <;> intro hG <;> (try cases hG)) | refine zg1 (v := .c _) ?_ | refine za ?_) | ((apply f_as); first | refine zf1 (v := .c _) ?_ | refine za ?_) | ((apply f_fa); first | refine n_fa ?_ | refine zk1 ?_) | ((apply f_ld); first | refine zp1 ?_ | refine zb1 ?_ | refine zw ?_ | refine zi1 ?_ | refine n_ld ?_) | ((apply f_ca); first | refine zr2 (c1) ?_ | refine zp2 (c1) ?_ | refine zr2 (c2) ?_ | refine zp2 (c2) ?_) | ((apply f_bi); first | refine zd1 ?_ | refine zc1 ?_ | refine ze1 ?_ | refine za ?_) | ((apply f_st); first | refine n_st ?_ | refine zt1 ?_) | ((apply f_ia); first | refine n_ix ?_ | refine zc2 ?_ | refine za ?_) | ((apply zy2); first | refine zk2 ?_ | refine za ?_) | ((apply za2); first | refine zq ?_ | refine za ?_) | ((apply zq3); first | refine zh1 ?_ | refine za ?_) | ((apply zs3); first | refine zo1 ?_ | refine za ?_) | ((apply zs1); first | refine zo ?_ | refine zr1 ?_ | refine za ?_) | ((apply f_no); first | refine zj2 ?_ | refine za ?_) | ((apply f_pk); first | refine zu1 (v := .c _) ?_ | refine za ?_) | ((apply f_bb); first | refine zg2 ?_ | refine zh2 ?_ | refine za ?_) | refine n_al ?_ | refine n_bo ?_ | refine za ?_) | ((apply f_w); first | refine zy ?_ | refine zc ?_) | refine zb fun C => ?_ | refine zn ?_ | refine ze ?_ | refine zh ?_ | refine zi ?_ | refine zx rfl ?_ | refine zv rfl ?_)
      refine zu ?_; refine ret0 rfl zn2 ⟨?_, rfl⟩
      rfl
    | true =>
    rw [hv] at c1
    cases hv2 : l1.all rexNE with
    | false =>
      rw [hv2] at c2
      repeat' (first | ((apply f_wo); first | ((apply f_gs); first | refine n_sk ?_) | ((apply f_mv); first | (refine zw1 ?_ ?_ <;> intro hG <;> (try cases hG)) | refine zg1 (v := .c _) ?_ | refine za ?_) | ((apply f_as); first | refine zf1 (v := .c _) ?_ | refine za ?_) | ((apply f_fa); first | refine n_fa ?_ | refine zk1 ?_) | ((apply f_ld); first | refine zp1 ?_ | refine zb1 ?_ | refine zw ?_ | refine zi1 ?_ | refine n_ld ?_) | ((apply f_ca); first | refine zr2 (c1) ?_ | refine zp2 (c1) ?_ | refine zr2 (c2) ?_ | refine zp2 (c2) ?_) | ((apply f_bi); first | refine zd1 ?_ | refine zc1 ?_ | refine ze1 ?_ | refine za ?_) | ((apply f_st); first | refine n_st ?_ | refine zt1 ?_) | ((apply f_ia); first | refine n_ix ?_ | refine zc2 ?_ | refine za ?_) | ((apply zy2); first | refine zk2 ?_ | refine za ?_) | ((apply za2); first | refine zq ?_ | refine za ?_) | ((apply zq3); first | refine zh1 ?_ | refine za ?_) | ((apply zs3); first | refine zo1 ?_ | refine za ?_) | ((apply zs1); first | refine zo ?_ | refine zr1 ?_ | refine za ?_) | ((apply f_no); first | refine zj2 ?_ | refine za ?_) | ((apply f_pk); first | refine zu1 (v := .c _) ?_ | refine za ?_) | ((apply f_bb); first | refine zg2 ?_ | refine zh2 ?_ | refine za ?_) | refine n_al ?_ | refine n_bo ?_ | refine za ?_) | ((apply f_w); first | refine zy ?_ | refine zc ?_) | refine zb fun C => ?_ | refine zn ?_ | refine ze ?_ | refine zh ?_ | refine zi ?_ | refine zx rfl ?_ | refine zv rfl ?_)
      refine zu ?_; refine ret0 rfl zn2 ⟨?_, rfl⟩
      rfl
    | true =>
    rw [hv2] at c2
    simp only [Bool.true_and]
    repeat' (first | ((apply f_wo); first | ((apply f_gs); first | refine n_sk ?_) | ((apply f_mv); first | (refine zw1 ?_ ?_ <;> intro hG <;> (try cases hG)) | refine zg1 (v := .c _) ?_ | refine za ?_) | ((apply f_as); first | refine zf1 (v := .c _) ?_ | refine za ?_) | ((apply f_fa); first | refine n_fa ?_ | refine zk1 ?_) | ((apply f_ld); first | refine zp1 ?_ | refine zb1 ?_ | refine zw ?_ | refine zi1 ?_ | refine n_ld ?_) | ((apply f_ca); first | refine zr2 (c1) ?_ | refine zp2 (c1) ?_ | refine zr2 (c2) ?_ | refine zp2 (c2) ?_) | ((apply f_bi); first | refine zd1 ?_ | refine zc1 ?_ | refine ze1 ?_ | refine za ?_) | ((apply f_st); first | refine n_st ?_ | refine zt1 ?_) | ((apply f_ia); first | refine n_ix ?_ | refine zc2 ?_ | refine za ?_) | ((apply zy2); first | refine zk2 ?_ | refine za ?_) | ((apply za2); first | refine zq ?_ | refine za ?_) | ((apply zq3); first | refine zh1 ?_ | refine za ?_) | ((apply zs3); first | refine zo1 ?_ | refine za ?_) | ((apply zs1); first | refine zo ?_ | refine zr1 ?_ | refine za ?_) | ((apply f_no); first | refine zj2 ?_ | refine za ?_) | ((apply f_pk); first | refine zu1 (v := .c _) ?_ | refine za ?_) | ((apply f_bb); first | refine zg2 ?_ | refine zh2 ?_ | refine za ?_) | refine n_al ?_ | refine n_bo ?_ | refine za ?_) | ((apply f_w); first | refine zy ?_ | refine zc ?_) | refine zb fun C => ?_ | refine zn ?_ | refine ze ?_ | refine zh ?_ | refine zi ?_ | refine zx rfl ?_ | refine zv rfl ?_)
    clear c1 c2 w2 w3 w4 hs1
    generalize htot : fnsOk l4.length 0 l4 = tot
    refine zp3 (fun k : Nat => ⟨tmsF [(1, .c (.pt 1 0)), (43, .c (.ro l4.length 2 (acL l4))), (44, .c (.v (.int .i64 l4.length))), (45, .c (.v (.int .i64 k)))], hpsF [(1, 1, ⟨67, 0, 0, true, [.ro l0.length 3 (acL l0), .ro l1.length 1 (acL l1), .v (.int .i64 x2), .v (.int .i64 x3), .ro l4.length 2 (acL l4)]⟩)], 0, [1], 78⟩)
      (fun N k => k + N = l4.length ∧ fnsOk l4.length k (l4.drop k) = tot) l4.length 0 ⟨by omega, htot⟩ ?_ ?_
    · (refine zo2 _ _ rfl rfl ?_ ?_ <;> (repeat' (first | exact TmOk.nil | exact RwOk.nil | refine TmOk.cons ?_ ?_ | refine RwOk.cons ?_ ?_ | rfl | (refine rnV_id' rfl ?_; (first | rfl | (simp [cloV, cloL, clo, zj, zf, zk, zg, zd]; done))) | (refine zd3 ?_; first | rfl | omega | (rw [zb2 (by omega) (by omega)]; omega)) | (refine zi2 rfl ?_; (first | rfl | (simp [cloV, cloL, clo, zj, zf, zk, zg, zd]; done))) | exact zj4 rfl rfl | (refine ze3 (by rfl) (by rfl) ?_ ?_ <;> (first | rfl | (simp [cloV, cloL, clo, zj, zf, zk, zg, zd]; done))) | (refine rw_rn' rfl rfl ?_; simp; done))))
    rintro N k ⟨hN, ht⟩
    repeat' (first | ((apply f_wo); first | ((apply f_gs); first | refine n_sk ?_) | ((apply f_mv); first | (refine zw1 ?_ ?_ <;> intro hG <;> (try cases hG)) | refine zg1 (v := .c _) ?_ | refine za ?_) | ((apply f_as); first | refine zf1 (v := .c _) ?_ | refine za ?_) | ((apply f_fa); first | refine n_fa ?_ | refine zk1 ?_) | ((apply f_ld); first | refine zp1 ?_ | refine zb1 ?_ | refine zw ?_ | refine zi1 ?_ | refine n_ld ?_) | ((apply f_bi); first | refine zd1 ?_ | refine zc1 ?_ | refine ze1 ?_ | refine za ?_) | ((apply f_st); first | refine n_st ?_ | refine zt1 ?_) | ((apply f_ia); first | refine n_ix ?_ | refine zc2 ?_ | refine za ?_) | ((apply zy2); first | refine zk2 ?_ | refine za ?_) | ((apply za2); first | refine zq ?_ | refine za ?_) | ((apply zq3); first | refine zh1 ?_ | refine za ?_) | ((apply zs3); first | refine zo1 ?_ | refine za ?_) | ((apply zs1); first | refine zo ?_ | refine zr1 ?_ | refine za ?_) | ((apply f_no); first | refine zj2 ?_ | refine za ?_) | ((apply f_pk); first | refine zu1 (v := .c _) ?_ | refine za ?_) | ((apply f_bb); first | refine zg2 ?_ | refine zh2 ?_ | refine za ?_) | refine n_al ?_ | refine n_bo ?_ | refine za ?_) | ((apply f_w); first | refine zy ?_ | refine zc ?_) | refine zb fun C => ?_ | refine zn ?_ | refine ze ?_ | refine zh ?_ | refine zi ?_)
    refine zt (by rfl) (fun hk1 => ?_) fun hk1 => ?_
    · have hk' : k < l4.length := by simpa using hk1
      obtain ⟨x, hx⟩ : ∃ x, l4[k]? = some x := ⟨_, List.getElem?_eq_getElem hk'⟩
      have hd1 : l4.drop k = x :: l4.drop (k + 1) := by rw [List.drop_eq_getElem_cons hk']; congr 1; rw [List.getElem?_eq_getElem hk'] at hx; exact Option.some.inj hx
      rw [hd1] at ht
      have hxm := List.mem_of_getElem? hx
      have hxz := E.szL_mem hxm
      have hgk := ka4
      obtain ⟨pp, pA, pc, code, rfl, -, ⟨hc, hck⟩, -⟩ := zt4 (a4 x hxm)
      simp only [E.sz, E.szL] at hxz
      have c3 := zc22 hc hck (by omega) (fun x => !(insE x)) 76 fun x hx => clo3_c (hc x hx)
      rw [zh22] at c3
      have hst : fnOkE l4.length k (E.agg [E.int .i64 pp, E.lst 2 111 pA pc code]) = (inR pp 0 4 && !(decide (l4.length ≤ k + 3) && !(pp == 0)) && inR code.length 1 3000 && code.all insE) := rfl
      unfold fnsOk at ht
      rw [hst] at ht
      repeat' (first | ((apply f_wo); first | ((apply f_gs); first | refine n_sk ?_) | ((apply f_mv); first | (refine zw1 ?_ ?_ <;> intro hG <;> (try cases hG)) | refine zg1 (v := .c _) ?_ | refine za ?_) | ((apply f_as); first | refine zf1 (v := .c _) ?_ | refine za ?_) | ((apply f_fa); first | refine n_fa ?_ | refine zk1 ?_) | ((apply f_ld); first | refine zp1 ?_ | refine zb1 ?_ | refine zw ?_ | refine zi1 ?_ | refine n_ld ?_) | ((apply f_ca); first | refine zr2 ((zs5 _ _ _)) ?_ | refine zp2 ((zs5 _ _ _)) ?_ | refine zr2 (c3) ?_ | refine zp2 (c3) ?_) | ((apply f_bi); first | refine zd1 ?_ | refine zc1 ?_ | refine ze1 ?_ | refine za ?_) | ((apply f_st); first | refine n_st ?_ | refine zt1 ?_) | ((apply f_ia); first | refine n_ix ?_ | refine zc2 ?_ | refine za ?_) | ((apply zy2); first | refine zk2 ?_ | refine za ?_) | ((apply za2); first | refine zq ?_ | refine za ?_) | ((apply zq3); first | refine zh1 ?_ | refine za ?_) | ((apply zs3); first | refine zo1 ?_ | refine za ?_) | ((apply zs1); first | refine zo ?_ | refine zr1 ?_ | refine za ?_) | ((apply f_no); first | refine zj2 ?_ | refine za ?_) | ((apply f_pk); first | refine zu1 (v := .c _) ?_ | refine za ?_) | ((apply f_bb); first | refine zg2 ?_ | refine zh2 ?_ | refine za ?_) | refine n_al ?_ | refine n_bo ?_ | refine za ?_) | ((apply f_w); first | refine zy ?_ | refine zc ?_) | refine zb fun C => ?_ | refine zn ?_ | refine ze ?_ | refine zh ?_ | refine zi ?_ | (refine zt (by rfl) ?_ ?_ <;> intro hC <;> (try cases hC)))
      all_goals first
        | (refine zu ?_; refine ret0 rfl zn2 ⟨?_, rfl⟩
           rw [← ht]
           clear c3 a0 a1 a4 ka0 ka1 ka4 he hc hck hgk hst ht
           simp only [inR, Bool.not_eq_true', Bool.not_eq_false', bne_iff_ne, ne_eq, bne_eq_false_iff_eq, decide_eq_true_iff, decide_eq_false_iff_not, Bool.and_eq_true, Bool.and_eq_false_iff] at *
           first
             | (simp_all; done)
             | (rw [show (decide ((0 : Int) ≤ pp) && decide (pp ≤ 4)) = false by simp; omega]; rfl)
             | (simp [*]; omega))
        | skip
      all_goals first
        | (refine zu ?_; refine ret0 rfl zn2 ⟨?_, rfl⟩
           have hD : code.all insE = false := by simpa using hC
           rw [← ht, hD, Bool.and_false, Bool.false_and]; done)
        | (refine ⟨N - 1, k + 1, by omega, ⟨by omega, ?_⟩, ?_⟩
           · have hD : code.all insE = true := by simpa using hC
             have hA : (inR pp 0 4 && !(decide (l4.length ≤ k + 3) && !(pp == 0)) && inR code.length 1 3000) = true := by
               clear c3 a0 a1 a4 ka0 ka1 ka4 he hc hck hgk hst ht hD
               simp only [inR, Bool.not_eq_true', Bool.not_eq_false', bne_iff_ne, ne_eq, bne_eq_false_iff_eq, decide_eq_true_iff, decide_eq_false_iff_not, Bool.and_eq_true, Bool.and_eq_false_iff, beq_iff_eq, beq_eq_false_iff_ne] at *
               omega
             rw [← ht, hD, hA]; rfl
           · (refine zo2 _ _ rfl rfl ?_ ?_ <;> (repeat' (first | exact TmOk.nil | exact RwOk.nil | refine TmOk.cons ?_ ?_ | refine RwOk.cons ?_ ?_ | rfl | (refine rnV_id' rfl ?_; (first | rfl | (simp [cloV, cloL, clo, zj, zf, zk, zg, zd]; done))) | (refine zd3 ?_; first | rfl | omega | (rw [zb2 (by omega) (by omega)]; omega)) | (refine zi2 rfl ?_; (first | rfl | (simp [cloV, cloL, clo, zj, zf, zk, zg, zd]; done))) | exact zj4 rfl rfl | (refine ze3 (by rfl) (by rfl) ?_ ?_ <;> (first | rfl | (simp [cloV, cloL, clo, zj, zf, zk, zg, zd]; done))) | (refine rw_rn' rfl rfl ?_; simp; done)))))
    · have hk' : ¬ k < l4.length := by simpa using hk1
      obtain rfl : k = l4.length := by omega
      rw [List.drop_length] at ht
      repeat' (first | ((apply f_wo); first | ((apply f_gs); first | refine n_sk ?_) | ((apply f_mv); first | (refine zw1 ?_ ?_ <;> intro hG <;> (try cases hG)) | refine zg1 (v := .c _) ?_ | refine za ?_) | ((apply f_as); first | refine zf1 (v := .c _) ?_ | refine za ?_) | ((apply f_fa); first | refine n_fa ?_ | refine zk1 ?_) | ((apply f_ld); first | refine zp1 ?_ | refine zb1 ?_ | refine zw ?_ | refine zi1 ?_ | refine n_ld ?_) | ((apply f_bi); first | refine zd1 ?_ | refine zc1 ?_ | refine ze1 ?_ | refine za ?_) | ((apply f_st); first | refine n_st ?_ | refine zt1 ?_) | ((apply f_ia); first | refine n_ix ?_ | refine zc2 ?_ | refine za ?_) | ((apply zy2); first | refine zk2 ?_ | refine za ?_) | ((apply za2); first | refine zq ?_ | refine za ?_) | ((apply zq3); first | refine zh1 ?_ | refine za ?_) | ((apply zs3); first | refine zo1 ?_ | refine za ?_) | ((apply zs1); first | refine zo ?_ | refine zr1 ?_ | refine za ?_) | ((apply f_no); first | refine zj2 ?_ | refine za ?_) | ((apply f_pk); first | refine zu1 (v := .c _) ?_ | refine za ?_) | ((apply f_bb); first | refine zg2 ?_ | refine zh2 ?_ | refine za ?_) | refine n_al ?_ | refine n_bo ?_ | refine za ?_) | ((apply f_w); first | refine zy ?_ | refine zc ?_) | refine zb fun C => ?_ | refine zn ?_ | refine ze ?_ | refine zh ?_ | refine zi ?_ | refine zx rfl ?_ | refine zv rfl ?_)
      refine zu ?_; refine ret0 rfl zn2 ⟨?_, rfl⟩
      rw [← ht]; rfl
end Go.Proofs.Ytghljnfbbaklnaa
