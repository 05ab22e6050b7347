/- The type St, and slices of it: shape; the laws' own functions. -/
import Derived.Test.YtkhioiehcaaejaaDoorFamEnv
import Derived.Test.YtkhioiehcaaejaaDoorFamRec
import Derived.Deep.RegionHeld3
namespace Go.Proofs.YtkhioiehcaaejaaDoor
open Go.RowKit

theorem shape_laws_St {e : E} (h : e.Ty Tryd.prog 60) : ∃ (x0A : Option Addr) (x0c : Nat) (x0l : List E) (x1A : Option Addr) (x1c : Nat) (x1l : List E) (x2 : ByteArray) (x3A : Option Addr) (x3c : Nat) (x3l : List E) (x4 : Int) (x5A : Option Addr) (x5c : Nat) (x5l : List E) (x6 : Int) (x7 : Int) (x8 : Int) (x9 : Int) (x10 : Int), e = (E.agg [(.agg [.lst 4 207 x0A x0c x0l, .lst 2 211 x1A x1c x1l]), (.agg [.str x2, .lst 1 9 x3A x3c x3l]), .int .i64 x4, .lst 1 5 x5A x5c x5l, .int .i64 x6, .int .i64 x7, .int .i64 x8, .int .i64 x9, .int .i64 x10]) ∧ ((∀ y ∈ x0l, y.Ty Tryd.prog 207) ∧ (∀ y ∈ x0l, y.enc.length = 4)) ∧ ((∀ y ∈ x1l, y.Ty Tryd.prog 211) ∧ (∀ y ∈ x1l, y.enc.length = 2)) ∧ (x2.size ≤ 9223372036854775807) ∧ ((∀ y ∈ x3l, y.Ty Tryd.prog 9) ∧ (∀ y ∈ x3l, y.enc.length = 1)) ∧ ((Lit.int .i64 x4).wf = true) ∧ ((∀ y ∈ x5l, y.Ty Tryd.prog 5) ∧ (∀ y ∈ x5l, y.enc.length = 1)) ∧ ((Lit.int .i64 x6).wf = true) ∧ ((Lit.int .i64 x7).wf = true) ∧ ((Lit.int .i64 x8).wf = true) ∧ ((Lit.int .i64 x9).wf = true) ∧ ((Lit.int .i64 x10).wf = true) ∧ True := by
  obtain ⟨fs, rfl, q0⟩ := h.agg_ Tryd.underlying60
  change E.TyF _ _ [56, 58, 3, 28, 3, 3, 3, 3, 3] at q0
  obtain ⟨e0, r0, rfl, h0, q1⟩ := q0.cons_
  obtain ⟨e1, r1, rfl, h1, q2⟩ := q1.cons_
  obtain ⟨e2, r2, rfl, h2, q3⟩ := q2.cons_
  obtain ⟨e3, r3, rfl, h3, q4⟩ := q3.cons_
  obtain ⟨e4, r4, rfl, h4, q5⟩ := q4.cons_
  obtain ⟨e5, r5, rfl, h5, q6⟩ := q5.cons_
  obtain ⟨e6, r6, rfl, h6, q7⟩ := q6.cons_
  obtain ⟨e7, r7, rfl, h7, q8⟩ := q7.cons_
  obtain ⟨e8, r8, rfl, h8, q9⟩ := q8.cons_
  obtain rfl := q9.nil_
  obtain ⟨x0A, x0c, x0l, x1A, x1c, x1l, rfl, gx0, gx1, -⟩ := shape_laws_Env h0
  obtain ⟨x2, x3A, x3c, x3l, rfl, gx2, gx3, -⟩ := shape_laws_Rec h1
  obtain ⟨x4, rfl, gx4⟩ := h2.int_ Tryd.underlying3
  obtain ⟨x5A, x5c, x5l, rfl, gx5, gx5'⟩ := h3.lst_ Tryd.underlying28 (k := 1) (by kernel_rfl)
  obtain ⟨x6, rfl, gx6⟩ := h4.int_ Tryd.underlying3
  obtain ⟨x7, rfl, gx7⟩ := h5.int_ Tryd.underlying3
  obtain ⟨x8, rfl, gx8⟩ := h6.int_ Tryd.underlying3
  obtain ⟨x9, rfl, gx9⟩ := h7.int_ Tryd.underlying3
  obtain ⟨x10, rfl, gx10⟩ := h8.int_ Tryd.underlying3
  exact ⟨x0A, x0c, x0l, x1A, x1c, x1l, x2, x3A, x3c, x3l, x4, x5A, x5c, x5l, x6, x7, x8, x9, x10, rfl, gx0, gx1, gx2, gx3, gx4, ⟨gx5, gx5'⟩, gx6, gx7, gx8, gx9, gx10, trivial⟩
theorem shape_impl_St {e : E} (h : e.Ty Tryd.prog 69) : ∃ (x0A : Option Addr) (x0c : Nat) (x0l : List E) (x1A : Option Addr) (x1c : Nat) (x1l : List E) (x2 : ByteArray) (x3A : Option Addr) (x3c : Nat) (x3l : List E) (x4 : Int) (x5A : Option Addr) (x5c : Nat) (x5l : List E) (x6 : Int) (x7 : Int) (x8 : Int) (x9 : Int) (x10 : Int), e = (E.agg [(.agg [.lst 4 213 x0A x0c x0l, .lst 2 217 x1A x1c x1l]), (.agg [.str x2, .lst 1 9 x3A x3c x3l]), .int .i64 x4, .lst 1 5 x5A x5c x5l, .int .i64 x6, .int .i64 x7, .int .i64 x8, .int .i64 x9, .int .i64 x10]) ∧ ((∀ y ∈ x0l, y.Ty Tryd.prog 213) ∧ (∀ y ∈ x0l, y.enc.length = 4)) ∧ ((∀ y ∈ x1l, y.Ty Tryd.prog 217) ∧ (∀ y ∈ x1l, y.enc.length = 2)) ∧ (x2.size ≤ 9223372036854775807) ∧ ((∀ y ∈ x3l, y.Ty Tryd.prog 9) ∧ (∀ y ∈ x3l, y.enc.length = 1)) ∧ ((Lit.int .i64 x4).wf = true) ∧ ((∀ y ∈ x5l, y.Ty Tryd.prog 5) ∧ (∀ y ∈ x5l, y.enc.length = 1)) ∧ ((Lit.int .i64 x6).wf = true) ∧ ((Lit.int .i64 x7).wf = true) ∧ ((Lit.int .i64 x8).wf = true) ∧ ((Lit.int .i64 x9).wf = true) ∧ ((Lit.int .i64 x10).wf = true) ∧ True := by
  obtain ⟨fs, rfl, q0⟩ := h.agg_ Tryd.underlying69
  change E.TyF _ _ [66, 67, 3, 28, 3, 3, 3, 3, 3] at q0
  obtain ⟨e0, r0, rfl, h0, q1⟩ := q0.cons_
  obtain ⟨e1, r1, rfl, h1, q2⟩ := q1.cons_
  obtain ⟨e2, r2, rfl, h2, q3⟩ := q2.cons_
  obtain ⟨e3, r3, rfl, h3, q4⟩ := q3.cons_
  obtain ⟨e4, r4, rfl, h4, q5⟩ := q4.cons_
  obtain ⟨e5, r5, rfl, h5, q6⟩ := q5.cons_
  obtain ⟨e6, r6, rfl, h6, q7⟩ := q6.cons_
  obtain ⟨e7, r7, rfl, h7, q8⟩ := q7.cons_
  obtain ⟨e8, r8, rfl, h8, q9⟩ := q8.cons_
  obtain rfl := q9.nil_
  obtain ⟨x0A, x0c, x0l, x1A, x1c, x1l, rfl, gx0, gx1, -⟩ := shape_impl_Env h0
  obtain ⟨x2, x3A, x3c, x3l, rfl, gx2, gx3, -⟩ := shape_impl_Rec h1
  obtain ⟨x4, rfl, gx4⟩ := h2.int_ Tryd.underlying3
  obtain ⟨x5A, x5c, x5l, rfl, gx5, gx5'⟩ := h3.lst_ Tryd.underlying28 (k := 1) (by kernel_rfl)
  obtain ⟨x6, rfl, gx6⟩ := h4.int_ Tryd.underlying3
  obtain ⟨x7, rfl, gx7⟩ := h5.int_ Tryd.underlying3
  obtain ⟨x8, rfl, gx8⟩ := h6.int_ Tryd.underlying3
  obtain ⟨x9, rfl, gx9⟩ := h7.int_ Tryd.underlying3
  obtain ⟨x10, rfl, gx10⟩ := h8.int_ Tryd.underlying3
  exact ⟨x0A, x0c, x0l, x1A, x1c, x1l, x2, x3A, x3c, x3l, x4, x5A, x5c, x5l, x6, x7, x8, x9, x10, rfl, gx0, gx1, gx2, gx3, gx4, ⟨gx5, gx5'⟩, gx6, gx7, gx8, gx9, gx10, trivial⟩
set_option maxRecDepth 100000 in
set_option maxHeartbeats 1000000 in
theorem szSt_all {e : E} (ht : e.Ty Tryd.prog 60) : Sz 26 e := by
  obtain ⟨x0A, x0c, x0l, x1A, x1c, x1l, x2, x3A, x3c, x3l, x4, x5A, x5c, x5l, x6, x7, x8, x9, x10, rfl, gx0, gx1, gx2, gx3, gx4, gx5, gx6, gx7, gx8, gx9, gx10, -⟩ := shape_laws_St ht
  intro left w hr h0 h1
  have HSZ : Hid ((E.agg [(.agg [.lst 4 207 x0A x0c x0l, .lst 2 211 x1A x1c x1l]), (.agg [.str x2, .lst 1 9 x3A x3c x3l]), .int .i64 x4, .lst 1 5 x5A x5c x5l, .int .i64 x6, .int .i64 x7, .int .i64 x8, .int .i64 x9, .int .i64 x10]).sz = ((E.agg [.lst 4 207 x0A x0c x0l, .lst 2 211 x1A x1c x1l]).sz + ((E.agg [.str x2, .lst 1 9 x3A x3c x3l]).sz + (0 + ((E.lst 1 5 x5A x5c x5l).sz + (0 + (0 + (0 + (0 + (0 + 0)))))))))) := rfl
  change Calls _ _ #[.agg #[.slice x0A x0l.length x0c, .slice x1A x1l.length x1c, .string x2, .slice x3A x3l.length x3c, .int .i64 x4, .slice x5A x5l.length x5c, .int .i64 x6, .int .i64 x7, .int .i64 x8, .int .i64 x9, .int .i64 x10], .int .i64 left] w _
  have hr0 := (hr.fld (i := 0) rfl).alloc (.cells #[.slice x0A x0l.length x0c, .slice x1A x1l.length x1c, .string x2, .slice x3A x3l.length x3c, .int .i64 x4, .slice x5A x5l.length x5c, .int .i64 x6, .int .i64 x7, .int .i64 x8, .int .i64 x9, .int .i64 x10] 60)
  have hr1 := (hr.fld (i := 1) rfl).alloc (.cells #[.slice x0A x0l.length x0c, .slice x1A x1l.length x1c, .string x2, .slice x3A x3l.length x3c, .int .i64 x4, .slice x5A x5l.length x5c, .int .i64 x6, .int .i64 x7, .int .i64 x8, .int .i64 x9, .int .i64 x10] 60)
  have hr3 := (hr.fld (i := 3) rfl).alloc (.cells #[.slice x0A x0l.length x0c, .slice x1A x1l.length x1c, .string x2, .slice x3A x3l.length x3c, .int .i64 x4, .slice x5A x5l.length x5c, .int .i64 x6, .int .i64 x7, .int .i64 x8, .int .i64 x9, .int .i64 x10] 60)
  go_enter Tryd.func26, Tryd.ntmps26
  have tyfld0 : (E.agg [.lst 4 207 x0A x0c x0l, .lst 2 211 x1A x1c x1l]).Ty Tryd.prog 56 := E.Ty.mk_agg Tryd.underlying56 (E.TyF.mk_cons (E.Ty.mk_lst Tryd.underlying53 (by kernel_rfl) gx0.1 gx0.2) (E.TyF.mk_cons (E.Ty.mk_lst Tryd.underlying54 (by kernel_rfl) gx1.1 gx1.2) (E.TyF.mk_nil)))
  go_wp2_with fail
  go_at_call 66
  refine ((szEnv_all (tyfld0)) _ _ hr0 (by omega) (by omega)).mono ?_; rintro e w1 ⟨r1, rfl, hr1s, hl1, hb1⟩
  have hz1 := hb1.size; (try simp only [World.size_alloc] at hz1)
  have c1_2 : w1.cell? ⟨w.heap.size, 2, none⟩ = some (.string x2) := (by repeat (first | (with_reducible assumption) | (with_reducible refine cell_drew ?_) | (with_reducible refine cell_drewN ?_) | (with_reducible exact cell_new rfl) | (exact cell_new' rfl (by first | rfl | (simp; done))) | (with_reducible refine cell_alloc ?_ ?_) | (refine cell_below (by with_reducible assumption) ?_ ?_) | (refine cell_kp (by with_reducible assumption) ?_ ?_) | omega | (· simp) | (· (simp; omega))))
  have c1_3 : w1.cell? ⟨w.heap.size, 3, none⟩ = some (.slice x3A x3l.length x3c) := (by repeat (first | (with_reducible assumption) | (with_reducible refine cell_drew ?_) | (with_reducible refine cell_drewN ?_) | (with_reducible exact cell_new rfl) | (exact cell_new' rfl (by first | rfl | (simp; done))) | (with_reducible refine cell_alloc ?_ ?_) | (refine cell_below (by with_reducible assumption) ?_ ?_) | (refine cell_kp (by with_reducible assumption) ?_ ?_) | omega | (· simp) | (· (simp; omega))))
  have c1_4 : w1.cell? ⟨w.heap.size, 4, none⟩ = some (.int .i64 x4) := (by repeat (first | (with_reducible assumption) | (with_reducible refine cell_drew ?_) | (with_reducible refine cell_drewN ?_) | (with_reducible exact cell_new rfl) | (exact cell_new' rfl (by first | rfl | (simp; done))) | (with_reducible refine cell_alloc ?_ ?_) | (refine cell_below (by with_reducible assumption) ?_ ?_) | (refine cell_kp (by with_reducible assumption) ?_ ?_) | omega | (· simp) | (· (simp; omega))))
  have c1_5 : w1.cell? ⟨w.heap.size, 5, none⟩ = some (.slice x5A x5l.length x5c) := (by repeat (first | (with_reducible assumption) | (with_reducible refine cell_drew ?_) | (with_reducible refine cell_drewN ?_) | (with_reducible exact cell_new rfl) | (exact cell_new' rfl (by first | rfl | (simp; done))) | (with_reducible refine cell_alloc ?_ ?_) | (refine cell_below (by with_reducible assumption) ?_ ?_) | (refine cell_kp (by with_reducible assumption) ?_ ?_) | omega | (· simp) | (· (simp; omega))))
  have c1_6 : w1.cell? ⟨w.heap.size, 6, none⟩ = some (.int .i64 x6) := (by repeat (first | (with_reducible assumption) | (with_reducible refine cell_drew ?_) | (with_reducible refine cell_drewN ?_) | (with_reducible exact cell_new rfl) | (exact cell_new' rfl (by first | rfl | (simp; done))) | (with_reducible refine cell_alloc ?_ ?_) | (refine cell_below (by with_reducible assumption) ?_ ?_) | (refine cell_kp (by with_reducible assumption) ?_ ?_) | omega | (· simp) | (· (simp; omega))))
  have c1_7 : w1.cell? ⟨w.heap.size, 7, none⟩ = some (.int .i64 x7) := (by repeat (first | (with_reducible assumption) | (with_reducible refine cell_drew ?_) | (with_reducible refine cell_drewN ?_) | (with_reducible exact cell_new rfl) | (exact cell_new' rfl (by first | rfl | (simp; done))) | (with_reducible refine cell_alloc ?_ ?_) | (refine cell_below (by with_reducible assumption) ?_ ?_) | (refine cell_kp (by with_reducible assumption) ?_ ?_) | omega | (· simp) | (· (simp; omega))))
  have c1_8 : w1.cell? ⟨w.heap.size, 8, none⟩ = some (.int .i64 x8) := (by repeat (first | (with_reducible assumption) | (with_reducible refine cell_drew ?_) | (with_reducible refine cell_drewN ?_) | (with_reducible exact cell_new rfl) | (exact cell_new' rfl (by first | rfl | (simp; done))) | (with_reducible refine cell_alloc ?_ ?_) | (refine cell_below (by with_reducible assumption) ?_ ?_) | (refine cell_kp (by with_reducible assumption) ?_ ?_) | omega | (· simp) | (· (simp; omega))))
  have c1_9 : w1.cell? ⟨w.heap.size, 9, none⟩ = some (.int .i64 x9) := (by repeat (first | (with_reducible assumption) | (with_reducible refine cell_drew ?_) | (with_reducible refine cell_drewN ?_) | (with_reducible exact cell_new rfl) | (exact cell_new' rfl (by first | rfl | (simp; done))) | (with_reducible refine cell_alloc ?_ ?_) | (refine cell_below (by with_reducible assumption) ?_ ?_) | (refine cell_kp (by with_reducible assumption) ?_ ?_) | omega | (· simp) | (· (simp; omega))))
  have c1_10 : w1.cell? ⟨w.heap.size, 10, none⟩ = some (.int .i64 x10) := (by repeat (first | (with_reducible assumption) | (with_reducible refine cell_drew ?_) | (with_reducible refine cell_drewN ?_) | (with_reducible exact cell_new rfl) | (exact cell_new' rfl (by first | rfl | (simp; done))) | (with_reducible refine cell_alloc ?_ ?_) | (refine cell_below (by with_reducible assumption) ?_ ?_) | (refine cell_kp (by with_reducible assumption) ?_ ?_) | omega | (· simp) | (· (simp; omega))))
  have hr1 := hr1.below hb1 (by first | exact Nat.le_refl _ | simp)
  have hr3 := hr3.below hb1 (by first | exact Nat.le_refl _ | simp)
  by_cases hn1 : r1 < 0
  · go_wp2
    go_ret
    exact ⟨-1, rfl, .inl (by omega), by omega, by exact (by repeat (first | (with_reducible refine Below.setCell ?_ (by first | omega | (· simp) | (· (simp; omega))) _) | (with_reducible refine Below.alloc ?_ (by first | omega | (· simp) | (· (simp; omega))) _) | (with_reducible refine Below.drew ?_) | (with_reducible refine bdrewN ?_ _) | (with_reducible exact Below.refl _ _) | (with_reducible assumption) | (with_reducible refine Below.trans ?_ (Below.mono (by assumption) (by first | omega | (· simp) | (· (simp; omega))))) | (with_reducible refine Below.trans ?_ (Kp.below (by assumption) (by first | omega | (· simp) | (· (simp; omega))) (by first | omega | (· simp) | (· (simp; omega)))))))⟩
  have hq1 := hr1s.resolve_left hn1
  have tyfld1 : (E.agg [.str x2, .lst 1 9 x3A x3c x3l]).Ty Tryd.prog 58 := E.Ty.mk_agg Tryd.underlying58 (E.TyF.mk_cons (show E.Ty _ _ _ from ⟨Tryd.underlying9, by unfold maxLen; exact gx2⟩) (E.TyF.mk_cons (E.Ty.mk_lst Tryd.underlying40 (by kernel_rfl) gx3.1 gx3.2) (E.TyF.mk_nil)))
  go_wp2_with fail
  go_at_call 67
  refine ((szRec_all (tyfld1)) _ _ hr1 (by omega) (by omega)).mono ?_; rintro e w2 ⟨r2, rfl, hr2s, hl2, hb2⟩
  have hz2 := hb2.size; (try simp only [World.size_alloc] at hz2)
  have c2_4 : w2.cell? ⟨w.heap.size, 4, none⟩ = some (.int .i64 x4) := (by repeat (first | (with_reducible assumption) | (with_reducible refine cell_drew ?_) | (with_reducible refine cell_drewN ?_) | (with_reducible exact cell_new rfl) | (exact cell_new' rfl (by first | rfl | (simp; done))) | (with_reducible refine cell_alloc ?_ ?_) | (refine cell_below (by with_reducible assumption) ?_ ?_) | (refine cell_kp (by with_reducible assumption) ?_ ?_) | omega | (· simp) | (· (simp; omega))))
  have c2_5 : w2.cell? ⟨w.heap.size, 5, none⟩ = some (.slice x5A x5l.length x5c) := (by repeat (first | (with_reducible assumption) | (with_reducible refine cell_drew ?_) | (with_reducible refine cell_drewN ?_) | (with_reducible exact cell_new rfl) | (exact cell_new' rfl (by first | rfl | (simp; done))) | (with_reducible refine cell_alloc ?_ ?_) | (refine cell_below (by with_reducible assumption) ?_ ?_) | (refine cell_kp (by with_reducible assumption) ?_ ?_) | omega | (· simp) | (· (simp; omega))))
  have c2_6 : w2.cell? ⟨w.heap.size, 6, none⟩ = some (.int .i64 x6) := (by repeat (first | (with_reducible assumption) | (with_reducible refine cell_drew ?_) | (with_reducible refine cell_drewN ?_) | (with_reducible exact cell_new rfl) | (exact cell_new' rfl (by first | rfl | (simp; done))) | (with_reducible refine cell_alloc ?_ ?_) | (refine cell_below (by with_reducible assumption) ?_ ?_) | (refine cell_kp (by with_reducible assumption) ?_ ?_) | omega | (· simp) | (· (simp; omega))))
  have c2_7 : w2.cell? ⟨w.heap.size, 7, none⟩ = some (.int .i64 x7) := (by repeat (first | (with_reducible assumption) | (with_reducible refine cell_drew ?_) | (with_reducible refine cell_drewN ?_) | (with_reducible exact cell_new rfl) | (exact cell_new' rfl (by first | rfl | (simp; done))) | (with_reducible refine cell_alloc ?_ ?_) | (refine cell_below (by with_reducible assumption) ?_ ?_) | (refine cell_kp (by with_reducible assumption) ?_ ?_) | omega | (· simp) | (· (simp; omega))))
  have c2_8 : w2.cell? ⟨w.heap.size, 8, none⟩ = some (.int .i64 x8) := (by repeat (first | (with_reducible assumption) | (with_reducible refine cell_drew ?_) | (with_reducible refine cell_drewN ?_) | (with_reducible exact cell_new rfl) | (exact cell_new' rfl (by first | rfl | (simp; done))) | (with_reducible refine cell_alloc ?_ ?_) | (refine cell_below (by with_reducible assumption) ?_ ?_) | (refine cell_kp (by with_reducible assumption) ?_ ?_) | omega | (· simp) | (· (simp; omega))))
  have c2_9 : w2.cell? ⟨w.heap.size, 9, none⟩ = some (.int .i64 x9) := (by repeat (first | (with_reducible assumption) | (with_reducible refine cell_drew ?_) | (with_reducible refine cell_drewN ?_) | (with_reducible exact cell_new rfl) | (exact cell_new' rfl (by first | rfl | (simp; done))) | (with_reducible refine cell_alloc ?_ ?_) | (refine cell_below (by with_reducible assumption) ?_ ?_) | (refine cell_kp (by with_reducible assumption) ?_ ?_) | omega | (· simp) | (· (simp; omega))))
  have c2_10 : w2.cell? ⟨w.heap.size, 10, none⟩ = some (.int .i64 x10) := (by repeat (first | (with_reducible assumption) | (with_reducible refine cell_drew ?_) | (with_reducible refine cell_drewN ?_) | (with_reducible exact cell_new rfl) | (exact cell_new' rfl (by first | rfl | (simp; done))) | (with_reducible refine cell_alloc ?_ ?_) | (refine cell_below (by with_reducible assumption) ?_ ?_) | (refine cell_kp (by with_reducible assumption) ?_ ?_) | omega | (· simp) | (· (simp; omega))))
  have hr3 := hr3.below hb2 (by first | exact Nat.le_refl _ | simp)
  by_cases hn2 : r2 < 0
  · go_wp2
    go_ret
    exact ⟨-1, rfl, .inl (by omega), by omega, by exact (by repeat (first | (with_reducible refine Below.setCell ?_ (by first | omega | (· simp) | (· (simp; omega))) _) | (with_reducible refine Below.alloc ?_ (by first | omega | (· simp) | (· (simp; omega))) _) | (with_reducible refine Below.drew ?_) | (with_reducible refine bdrewN ?_ _) | (with_reducible exact Below.refl _ _) | (with_reducible assumption) | (with_reducible refine Below.trans ?_ (Below.mono (by assumption) (by first | omega | (· simp) | (· (simp; omega))))) | (with_reducible refine Below.trans ?_ (Kp.below (by assumption) (by first | omega | (· simp) | (· (simp; omega))) (by first | omega | (· simp) | (· (simp; omega)))))))⟩
  have hq2 := hr2s.resolve_left hn2
  go_wp2_with fail
  go_at_call 68
  refine ((szByteS_all (E.Ty.mk_lst Tryd.underlying28 (by kernel_rfl) gx5.1 gx5.2)) _ _ hr3 (by omega) (by omega)).mono ?_; rintro e w3 ⟨r3, rfl, hr3s, hl3, hb3⟩
  have hz3 := hb3.size; (try simp only [World.size_alloc] at hz3)
  have c3_6 : w3.cell? ⟨w.heap.size, 6, none⟩ = some (.int .i64 x6) := (by repeat (first | (with_reducible assumption) | (with_reducible refine cell_drew ?_) | (with_reducible refine cell_drewN ?_) | (with_reducible exact cell_new rfl) | (exact cell_new' rfl (by first | rfl | (simp; done))) | (with_reducible refine cell_alloc ?_ ?_) | (refine cell_below (by with_reducible assumption) ?_ ?_) | (refine cell_kp (by with_reducible assumption) ?_ ?_) | omega | (· simp) | (· (simp; omega))))
  have c3_7 : w3.cell? ⟨w.heap.size, 7, none⟩ = some (.int .i64 x7) := (by repeat (first | (with_reducible assumption) | (with_reducible refine cell_drew ?_) | (with_reducible refine cell_drewN ?_) | (with_reducible exact cell_new rfl) | (exact cell_new' rfl (by first | rfl | (simp; done))) | (with_reducible refine cell_alloc ?_ ?_) | (refine cell_below (by with_reducible assumption) ?_ ?_) | (refine cell_kp (by with_reducible assumption) ?_ ?_) | omega | (· simp) | (· (simp; omega))))
  have c3_8 : w3.cell? ⟨w.heap.size, 8, none⟩ = some (.int .i64 x8) := (by repeat (first | (with_reducible assumption) | (with_reducible refine cell_drew ?_) | (with_reducible refine cell_drewN ?_) | (with_reducible exact cell_new rfl) | (exact cell_new' rfl (by first | rfl | (simp; done))) | (with_reducible refine cell_alloc ?_ ?_) | (refine cell_below (by with_reducible assumption) ?_ ?_) | (refine cell_kp (by with_reducible assumption) ?_ ?_) | omega | (· simp) | (· (simp; omega))))
  have c3_9 : w3.cell? ⟨w.heap.size, 9, none⟩ = some (.int .i64 x9) := (by repeat (first | (with_reducible assumption) | (with_reducible refine cell_drew ?_) | (with_reducible refine cell_drewN ?_) | (with_reducible exact cell_new rfl) | (exact cell_new' rfl (by first | rfl | (simp; done))) | (with_reducible refine cell_alloc ?_ ?_) | (refine cell_below (by with_reducible assumption) ?_ ?_) | (refine cell_kp (by with_reducible assumption) ?_ ?_) | omega | (· simp) | (· (simp; omega))))
  have c3_10 : w3.cell? ⟨w.heap.size, 10, none⟩ = some (.int .i64 x10) := (by repeat (first | (with_reducible assumption) | (with_reducible refine cell_drew ?_) | (with_reducible refine cell_drewN ?_) | (with_reducible exact cell_new rfl) | (exact cell_new' rfl (by first | rfl | (simp; done))) | (with_reducible refine cell_alloc ?_ ?_) | (refine cell_below (by with_reducible assumption) ?_ ?_) | (refine cell_kp (by with_reducible assumption) ?_ ?_) | omega | (· simp) | (· (simp; omega))))
  by_cases hn3 : r3 < 0
  · go_wp2
    go_ret
    exact ⟨-1, rfl, .inl (by omega), by omega, by exact (by repeat (first | (with_reducible refine Below.setCell ?_ (by first | omega | (· simp) | (· (simp; omega))) _) | (with_reducible refine Below.alloc ?_ (by first | omega | (· simp) | (· (simp; omega))) _) | (with_reducible refine Below.drew ?_) | (with_reducible refine bdrewN ?_ _) | (with_reducible exact Below.refl _ _) | (with_reducible assumption) | (with_reducible refine Below.trans ?_ (Below.mono (by assumption) (by first | omega | (· simp) | (· (simp; omega))))) | (with_reducible refine Below.trans ?_ (Kp.below (by assumption) (by first | omega | (· simp) | (· (simp; omega))) (by first | omega | (· simp) | (· (simp; omega)))))))⟩
  have hq3 := hr3s.resolve_left hn3
  go_wp2
  go_ret
  refine ⟨_, rfl, .inr ?_, by omega, by exact (by repeat (first | (with_reducible refine Below.setCell ?_ (by first | omega | (· simp) | (· (simp; omega))) _) | (with_reducible refine Below.alloc ?_ (by first | omega | (· simp) | (· (simp; omega))) _) | (with_reducible refine Below.drew ?_) | (with_reducible refine bdrewN ?_ _) | (with_reducible exact Below.refl _ _) | (with_reducible assumption) | (with_reducible refine Below.trans ?_ (Below.mono (by assumption) (by first | omega | (· simp) | (· (simp; omega))))) | (with_reducible refine Below.trans ?_ (Kp.below (by assumption) (by first | omega | (· simp) | (· (simp; omega))) (by first | omega | (· simp) | (· (simp; omega)))))))⟩
  show _ = _
  rw [HSZ.out]
  have e1 := hq1.out
  have e2 := hq2.out
  have e3 := hq3.out
  push_cast
  omega
set_option maxRecDepth 100000 in
set_option maxHeartbeats 1000000 in
theorem toSt_all {e : E} (ht : e.Ty Tryd.prog 60) : To 28 69 e := by
  have HT0 := Lib.hid ht
  obtain ⟨x0A, x0c, x0l, x1A, x1c, x1l, x2, x3A, x3c, x3l, x4, x5A, x5c, x5l, x6, x7, x8, x9, x10, rfl, gx0, gx1, gx2, gx3, gx4, gx5, gx6, gx7, gx8, gx9, gx10, -⟩ := shape_laws_St ht
  intro w hr hsz
  have hsz' : ((E.agg [.lst 4 207 x0A x0c x0l, .lst 2 211 x1A x1c x1l]).sz + ((E.agg [.str x2, .lst 1 9 x3A x3c x3l]).sz + (0 + ((E.lst 1 5 x5A x5c x5l).sz + (0 + (0 + (0 + (0 + (0 + 0))))))))) ≤ 1048576 := hsz
  have hs0 : (E.agg [.lst 4 207 x0A x0c x0l, .lst 2 211 x1A x1c x1l]).sz ≤ 1048576 := by omega
  have hs1 : (E.agg [.str x2, .lst 1 9 x3A x3c x3l]).sz ≤ 1048576 := by omega
  have hs3 : (E.lst 1 5 x5A x5c x5l).sz ≤ 1048576 := by omega
  clear hsz hsz'
  have hr0 := hr.fld (i := 0) rfl
  have ty0 : (E.agg [.lst 4 207 x0A x0c x0l, .lst 2 211 x1A x1c x1l]).Ty Tryd.prog 56 := E.Ty.mk_agg Tryd.underlying56 (E.TyF.mk_cons (E.Ty.mk_lst Tryd.underlying53 (by kernel_rfl) gx0.1 gx0.2) (E.TyF.mk_cons (E.Ty.mk_lst Tryd.underlying54 (by kernel_rfl) gx1.1 gx1.2) (E.TyF.mk_nil)))
  have HC0 := Lib.hid (toEnv_all ty0)
  clear ty0
  have hr1 := hr.fld (i := 1) rfl
  have ty1 : (E.agg [.str x2, .lst 1 9 x3A x3c x3l]).Ty Tryd.prog 58 := E.Ty.mk_agg Tryd.underlying58 (E.TyF.mk_cons (show E.Ty _ _ _ from ⟨Tryd.underlying9, by unfold maxLen; exact gx2⟩) (E.TyF.mk_cons (E.Ty.mk_lst Tryd.underlying40 (by kernel_rfl) gx3.1 gx3.2) (E.TyF.mk_nil)))
  have HC1 := Lib.hid (toRec_all ty1)
  clear ty1
  have hr3 := hr.fld (i := 3) rfl
  have ty3 : (E.lst 1 5 x5A x5c x5l).Ty Tryd.prog 28 := E.Ty.mk_lst Tryd.underlying28 (by kernel_rfl) gx5.1 gx5.2
  have HC3 := Lib.hid (toByteS_all ty3)
  clear ty3
  change Calls _ _ #[.agg #[.slice x0A x0l.length x0c, .slice x1A x1l.length x1c, .string x2, .slice x3A x3l.length x3c, .int .i64 x4, .slice x5A x5l.length x5c, .int .i64 x6, .int .i64 x7, .int .i64 x8, .int .i64 x9, .int .i64 x10]] w _
  go_enter Tryd.func28, Tryd.ntmps28
  go_wp2_with fail
  go_at_call 69
  refine (HC0.out _ (((hr0.alloc _).alloc _).alloc _) hs0).mono ?_; rintro e w1 ⟨v1, he, HD1, ht1, ho1, hn1, hb1⟩
  have HT1 := Lib.hid ht1
  have HN1 := Lib.hid hn1
  obtain ⟨z1_0A, z1_0c, z1_0l, z1_1A, z1_1c, z1_1l, rfl, gz1_0, gz1_1, -⟩ := shape_impl_Env ht1
  obtain rfl : e = .returned (.agg #[.slice z1_0A z1_0l.length z1_0c, .slice z1_1A z1_1l.length z1_1c]) := he
  clear hn1 ht1
  have B0_1 : w1.heap[w.heap.size]? = some (.cells #[.slice x0A x0l.length x0c, .slice x1A x1l.length x1c, .string x2, .slice x3A x3l.length x3c, .int .i64 x4, .slice x5A x5l.length x5c, .int .i64 x6, .int .i64 x7, .int .i64 x8, .int .i64 x9, .int .i64 x10] 60 (0, 0)) := (hb1.block (w.heap.size) (by simp; omega)).trans three.1
  have B1_1 : w1.heap[w.heap.size + 1]? = some (.cells #[.slice none 0 0, .slice none 0 0, .string ByteArray.empty, .slice none 0 0, .int .i64 0, .slice none 0 0, .int .i64 0, .int .i64 0, .int .i64 0, .int .i64 0, .int .i64 0] 69 (0, 0)) := (hb1.block (w.heap.size + 1) (by simp)).trans three.2.1
  have B2_1 : w1.heap[w.heap.size + 1 + 1]? = some (.cells #[.slice none 0 0, .slice none 0 0, .string ByteArray.empty, .slice none 0 0, .int .i64 0, .slice none 0 0, .int .i64 0, .int .i64 0, .int .i64 0, .int .i64 0, .int .i64 0] 69 (0, 0)) := (hb1.block (w.heap.size + 1 + 1) (by simp)).trans three.2.2
  have hz1 := hb1.size; simp only [World.size_alloc] at hz1
  have hB1 : Below w.heap.size w w1 := (by exact (by repeat (first | (with_reducible refine Below.setCell ?_ (by first | omega | (· simp) | (· (simp; omega))) _) | (with_reducible refine Below.alloc ?_ (by first | omega | (· simp) | (· (simp; omega))) _) | (with_reducible refine Below.drew ?_) | (with_reducible refine bdrewN ?_ _) | (with_reducible exact Below.refl _ _) | (with_reducible assumption) | (with_reducible refine Below.trans ?_ (Below.mono (by assumption) (by first | omega | (· simp) | (· (simp; omega))))) | (with_reducible refine Below.trans ?_ (Kp.below (by assumption) (by first | omega | (· simp) | (· (simp; omega))) (by first | omega | (· simp) | (· (simp; omega))))))) : Below w.heap.size w _).trans (hb1.mono (by simp; omega))
  have ho1 := ho1.wider (lo' := w.heap.size + 1 + 1 + 1) (by simp) (Nat.le_refl _)
  have c1_0 : w1.cell? ⟨w.heap.size, 0, none⟩ = some (.slice x0A x0l.length x0c) := cell_of B0_1 rfl
  have c1_1 : w1.cell? ⟨w.heap.size, 1, none⟩ = some (.slice x1A x1l.length x1c) := cell_of B0_1 rfl
  have c1_2 : w1.cell? ⟨w.heap.size, 2, none⟩ = some (.string x2) := cell_of B0_1 rfl
  have c1_3 : w1.cell? ⟨w.heap.size, 3, none⟩ = some (.slice x3A x3l.length x3c) := cell_of B0_1 rfl
  have c1_4 : w1.cell? ⟨w.heap.size, 4, none⟩ = some (.int .i64 x4) := cell_of B0_1 rfl
  have c1_5 : w1.cell? ⟨w.heap.size, 5, none⟩ = some (.slice x5A x5l.length x5c) := cell_of B0_1 rfl
  have c1_6 : w1.cell? ⟨w.heap.size, 6, none⟩ = some (.int .i64 x6) := cell_of B0_1 rfl
  have c1_7 : w1.cell? ⟨w.heap.size, 7, none⟩ = some (.int .i64 x7) := cell_of B0_1 rfl
  have c1_8 : w1.cell? ⟨w.heap.size, 8, none⟩ = some (.int .i64 x8) := cell_of B0_1 rfl
  have c1_9 : w1.cell? ⟨w.heap.size, 9, none⟩ = some (.int .i64 x9) := cell_of B0_1 rfl
  have c1_10 : w1.cell? ⟨w.heap.size, 10, none⟩ = some (.int .i64 x10) := cell_of B0_1 rfl
  have d1_0 : w1.cell? ⟨w.heap.size + 1 + 1, 0, none⟩ = some (.slice none 0 0) := cell_of B2_1 rfl
  have d1_1 : w1.cell? ⟨w.heap.size + 1 + 1, 1, none⟩ = some (.slice none 0 0) := cell_of B2_1 rfl
  have d1_2 : w1.cell? ⟨w.heap.size + 1 + 1, 2, none⟩ = some (.string ByteArray.empty) := cell_of B2_1 rfl
  have d1_3 : w1.cell? ⟨w.heap.size + 1 + 1, 3, none⟩ = some (.slice none 0 0) := cell_of B2_1 rfl
  have d1_4 : w1.cell? ⟨w.heap.size + 1 + 1, 4, none⟩ = some (.int .i64 0) := cell_of B2_1 rfl
  have d1_5 : w1.cell? ⟨w.heap.size + 1 + 1, 5, none⟩ = some (.slice none 0 0) := cell_of B2_1 rfl
  have d1_6 : w1.cell? ⟨w.heap.size + 1 + 1, 6, none⟩ = some (.int .i64 0) := cell_of B2_1 rfl
  have d1_7 : w1.cell? ⟨w.heap.size + 1 + 1, 7, none⟩ = some (.int .i64 0) := cell_of B2_1 rfl
  have d1_8 : w1.cell? ⟨w.heap.size + 1 + 1, 8, none⟩ = some (.int .i64 0) := cell_of B2_1 rfl
  have d1_9 : w1.cell? ⟨w.heap.size + 1 + 1, 9, none⟩ = some (.int .i64 0) := cell_of B2_1 rfl
  have d1_10 : w1.cell? ⟨w.heap.size + 1 + 1, 10, none⟩ = some (.int .i64 0) := cell_of B2_1 rfl
  have f1 := frz_of B2_1
  go_wp2_with fail
  have hK1 : Kp (w.heap.size + 1 + 1) (w.heap.size + 1 + 1 + 1) w1 ((w1.setCell ⟨w.heap.size + 1 + 1, 0, none⟩ (.slice z1_0A z1_0l.length z1_0c)).setCell ⟨w.heap.size + 1 + 1, 1, none⟩ (.slice z1_1A z1_1l.length z1_1c)) := (by repeat (first | (with_reducible exact Kp.refl _ _ _) | (refine Kp.set ?_ (by first | omega | (dsimp only; omega) | (simp; omega)) (by first | omega | (dsimp only; omega) | (simp; omega)) _)))
  have A0_1 := (hK1.block (w.heap.size) (by omega) (.inl (by omega))).trans B0_1
  have A1_1 := (hK1.block (w.heap.size + 1) (by omega) (.inl (by omega))).trans B1_1
  have A2_1 : ((w1.setCell ⟨w.heap.size + 1 + 1, 0, none⟩ (.slice z1_0A z1_0l.length z1_0c)).setCell ⟨w.heap.size + 1 + 1, 1, none⟩ (.slice z1_1A z1_1l.length z1_1c)).heap[w.heap.size + 1 + 1]? = some (.cells #[.slice z1_0A z1_0l.length z1_0c, .slice z1_1A z1_1l.length z1_1c, .string ByteArray.empty, .slice none 0 0, .int .i64 0, .slice none 0 0, .int .i64 0, .int .i64 0, .int .i64 0, .int .i64 0, .int .i64 0] 69 (0, 0)) := by simp only [heap_set, B2_1]; simp [setAt]
  have hW1 : ((w1.setCell ⟨w.heap.size + 1 + 1, 0, none⟩ (.slice z1_0A z1_0l.length z1_0c)).setCell ⟨w.heap.size + 1 + 1, 1, none⟩ (.slice z1_1A z1_1l.length z1_1c)).heap.size = w1.heap.size := by simp
  have hBW1 : Below w.heap.size w ((w1.setCell ⟨w.heap.size + 1 + 1, 0, none⟩ (.slice z1_0A z1_0l.length z1_0c)).setCell ⟨w.heap.size + 1 + 1, 1, none⟩ (.slice z1_1A z1_1l.length z1_1c)) := hB1.trans (hK1.below (by omega) (by omega))
  have ho1 := ho1.kp hK1 (.inr (by omega))
  clear c1_0 c1_1 c1_2 c1_3 c1_4 c1_5 c1_6 c1_7 c1_8 c1_9 c1_10 d1_0 d1_1 d1_2 d1_3 d1_4 d1_5 d1_6 d1_7 d1_8 d1_9 d1_10 f1 B0_1 B1_1 B2_1 hK1 hB1
  generalize ((w1.setCell ⟨w.heap.size + 1 + 1, 0, none⟩ (.slice z1_0A z1_0l.length z1_0c)).setCell ⟨w.heap.size + 1 + 1, 1, none⟩ (.slice z1_1A z1_1l.length z1_1c)) = W1 at *
  go_at_call 70
  refine (HC1.out _ (E.In.below hr1 hBW1 (Nat.le_refl _)) hs1).mono ?_; rintro e w2 ⟨v2, he, HD2, ht2, ho2, hn2, hb2⟩
  have HT2 := Lib.hid ht2
  have HN2 := Lib.hid hn2
  obtain ⟨z2_0, z2_1A, z2_1c, z2_1l, rfl, gz2_0, gz2_1, -⟩ := shape_impl_Rec ht2
  obtain rfl : e = .returned (.agg #[.string z2_0, .slice z2_1A z2_1l.length z2_1c]) := he
  clear hn2 ht2
  have B0_2 := (hb2.block (w.heap.size) (by omega)).trans A0_1
  have B1_2 := (hb2.block (w.heap.size + 1) (by omega)).trans A1_1
  have B2_2 := (hb2.block (w.heap.size + 1 + 1) (by omega)).trans A2_1
  have hz2 := hb2.size
  have hB2 : Below w.heap.size w w2 := hBW1.trans (hb2.mono (by omega))
  have ho1 := ho1.below hb2 (by omega)
  have ho2 := ho2.wider (lo' := w1.heap.size) (by omega) (Nat.le_refl _)
  clear A0_1 A1_1 A2_1
  have c2_0 : w2.cell? ⟨w.heap.size, 0, none⟩ = some (.slice x0A x0l.length x0c) := cell_of B0_2 rfl
  have c2_1 : w2.cell? ⟨w.heap.size, 1, none⟩ = some (.slice x1A x1l.length x1c) := cell_of B0_2 rfl
  have c2_2 : w2.cell? ⟨w.heap.size, 2, none⟩ = some (.string x2) := cell_of B0_2 rfl
  have c2_3 : w2.cell? ⟨w.heap.size, 3, none⟩ = some (.slice x3A x3l.length x3c) := cell_of B0_2 rfl
  have c2_4 : w2.cell? ⟨w.heap.size, 4, none⟩ = some (.int .i64 x4) := cell_of B0_2 rfl
  have c2_5 : w2.cell? ⟨w.heap.size, 5, none⟩ = some (.slice x5A x5l.length x5c) := cell_of B0_2 rfl
  have c2_6 : w2.cell? ⟨w.heap.size, 6, none⟩ = some (.int .i64 x6) := cell_of B0_2 rfl
  have c2_7 : w2.cell? ⟨w.heap.size, 7, none⟩ = some (.int .i64 x7) := cell_of B0_2 rfl
  have c2_8 : w2.cell? ⟨w.heap.size, 8, none⟩ = some (.int .i64 x8) := cell_of B0_2 rfl
  have c2_9 : w2.cell? ⟨w.heap.size, 9, none⟩ = some (.int .i64 x9) := cell_of B0_2 rfl
  have c2_10 : w2.cell? ⟨w.heap.size, 10, none⟩ = some (.int .i64 x10) := cell_of B0_2 rfl
  have d2_0 : w2.cell? ⟨w.heap.size + 1 + 1, 0, none⟩ = some (.slice z1_0A z1_0l.length z1_0c) := cell_of B2_2 rfl
  have d2_1 : w2.cell? ⟨w.heap.size + 1 + 1, 1, none⟩ = some (.slice z1_1A z1_1l.length z1_1c) := cell_of B2_2 rfl
  have d2_2 : w2.cell? ⟨w.heap.size + 1 + 1, 2, none⟩ = some (.string ByteArray.empty) := cell_of B2_2 rfl
  have d2_3 : w2.cell? ⟨w.heap.size + 1 + 1, 3, none⟩ = some (.slice none 0 0) := cell_of B2_2 rfl
  have d2_4 : w2.cell? ⟨w.heap.size + 1 + 1, 4, none⟩ = some (.int .i64 0) := cell_of B2_2 rfl
  have d2_5 : w2.cell? ⟨w.heap.size + 1 + 1, 5, none⟩ = some (.slice none 0 0) := cell_of B2_2 rfl
  have d2_6 : w2.cell? ⟨w.heap.size + 1 + 1, 6, none⟩ = some (.int .i64 0) := cell_of B2_2 rfl
  have d2_7 : w2.cell? ⟨w.heap.size + 1 + 1, 7, none⟩ = some (.int .i64 0) := cell_of B2_2 rfl
  have d2_8 : w2.cell? ⟨w.heap.size + 1 + 1, 8, none⟩ = some (.int .i64 0) := cell_of B2_2 rfl
  have d2_9 : w2.cell? ⟨w.heap.size + 1 + 1, 9, none⟩ = some (.int .i64 0) := cell_of B2_2 rfl
  have d2_10 : w2.cell? ⟨w.heap.size + 1 + 1, 10, none⟩ = some (.int .i64 0) := cell_of B2_2 rfl
  have f2 := frz_of B2_2
  go_wp2_with fail
  have hK2 : Kp (w.heap.size + 1 + 1) (w.heap.size + 1 + 1 + 1) w2 (((w2.setCell ⟨w.heap.size + 1 + 1, 2, none⟩ (.string z2_0)).setCell ⟨w.heap.size + 1 + 1, 3, none⟩ (.slice z2_1A z2_1l.length z2_1c)).setCell ⟨w.heap.size + 1 + 1, 4, none⟩ (.int .i64 x4)) := (by repeat (first | (with_reducible exact Kp.refl _ _ _) | (refine Kp.set ?_ (by first | omega | (dsimp only; omega) | (simp; omega)) (by first | omega | (dsimp only; omega) | (simp; omega)) _)))
  have A0_2 := (hK2.block (w.heap.size) (by omega) (.inl (by omega))).trans B0_2
  have A1_2 := (hK2.block (w.heap.size + 1) (by omega) (.inl (by omega))).trans B1_2
  have A2_2 : (((w2.setCell ⟨w.heap.size + 1 + 1, 2, none⟩ (.string z2_0)).setCell ⟨w.heap.size + 1 + 1, 3, none⟩ (.slice z2_1A z2_1l.length z2_1c)).setCell ⟨w.heap.size + 1 + 1, 4, none⟩ (.int .i64 x4)).heap[w.heap.size + 1 + 1]? = some (.cells #[.slice z1_0A z1_0l.length z1_0c, .slice z1_1A z1_1l.length z1_1c, .string z2_0, .slice z2_1A z2_1l.length z2_1c, .int .i64 x4, .slice none 0 0, .int .i64 0, .int .i64 0, .int .i64 0, .int .i64 0, .int .i64 0] 69 (0, 0)) := by simp only [heap_set, B2_2]; simp [setAt]
  have hW2 : (((w2.setCell ⟨w.heap.size + 1 + 1, 2, none⟩ (.string z2_0)).setCell ⟨w.heap.size + 1 + 1, 3, none⟩ (.slice z2_1A z2_1l.length z2_1c)).setCell ⟨w.heap.size + 1 + 1, 4, none⟩ (.int .i64 x4)).heap.size = w2.heap.size := by simp
  have hBW2 : Below w.heap.size w (((w2.setCell ⟨w.heap.size + 1 + 1, 2, none⟩ (.string z2_0)).setCell ⟨w.heap.size + 1 + 1, 3, none⟩ (.slice z2_1A z2_1l.length z2_1c)).setCell ⟨w.heap.size + 1 + 1, 4, none⟩ (.int .i64 x4)) := hB2.trans (hK2.below (by omega) (by omega))
  have ho1 := ho1.kp hK2 (.inr (by omega))
  have ho2 := ho2.kp hK2 (.inr (by omega))
  clear c2_0 c2_1 c2_2 c2_3 c2_4 c2_5 c2_6 c2_7 c2_8 c2_9 c2_10 d2_0 d2_1 d2_2 d2_3 d2_4 d2_5 d2_6 d2_7 d2_8 d2_9 d2_10 f2 B0_2 B1_2 B2_2 hK2 hB2
  generalize (((w2.setCell ⟨w.heap.size + 1 + 1, 2, none⟩ (.string z2_0)).setCell ⟨w.heap.size + 1 + 1, 3, none⟩ (.slice z2_1A z2_1l.length z2_1c)).setCell ⟨w.heap.size + 1 + 1, 4, none⟩ (.int .i64 x4)) = W2 at *
  go_at_call 71
  refine (HC3.out _ (E.In.below hr3 hBW2 (Nat.le_refl _)) hs3).mono ?_; rintro e w3 ⟨v3, he, HD3, ht3, ho3, hn3, hb3⟩
  have HT3 := Lib.hid ht3
  have HN3 := Lib.hid hn3
  obtain ⟨A3, q3, l3, rfl, -, -⟩ := ht3.lst_ Tryd.underlying28 (k := 1) (by kernel_rfl)
  obtain rfl : e = .returned (.slice A3 l3.length q3) := he
  clear hn3 ht3
  have B0_3 := (hb3.block (w.heap.size) (by omega)).trans A0_2
  have B1_3 := (hb3.block (w.heap.size + 1) (by omega)).trans A1_2
  have B2_3 := (hb3.block (w.heap.size + 1 + 1) (by omega)).trans A2_2
  have hz3 := hb3.size
  have hB3 : Below w.heap.size w w3 := hBW2.trans (hb3.mono (by omega))
  have ho1 := ho1.below hb3 (by omega)
  have ho2 := ho2.below hb3 (by omega)
  have ho3 := ho3.wider (lo' := w2.heap.size) (by omega) (Nat.le_refl _)
  clear A0_2 A1_2 A2_2
  have c3_0 : w3.cell? ⟨w.heap.size, 0, none⟩ = some (.slice x0A x0l.length x0c) := cell_of B0_3 rfl
  have c3_1 : w3.cell? ⟨w.heap.size, 1, none⟩ = some (.slice x1A x1l.length x1c) := cell_of B0_3 rfl
  have c3_2 : w3.cell? ⟨w.heap.size, 2, none⟩ = some (.string x2) := cell_of B0_3 rfl
  have c3_3 : w3.cell? ⟨w.heap.size, 3, none⟩ = some (.slice x3A x3l.length x3c) := cell_of B0_3 rfl
  have c3_4 : w3.cell? ⟨w.heap.size, 4, none⟩ = some (.int .i64 x4) := cell_of B0_3 rfl
  have c3_5 : w3.cell? ⟨w.heap.size, 5, none⟩ = some (.slice x5A x5l.length x5c) := cell_of B0_3 rfl
  have c3_6 : w3.cell? ⟨w.heap.size, 6, none⟩ = some (.int .i64 x6) := cell_of B0_3 rfl
  have c3_7 : w3.cell? ⟨w.heap.size, 7, none⟩ = some (.int .i64 x7) := cell_of B0_3 rfl
  have c3_8 : w3.cell? ⟨w.heap.size, 8, none⟩ = some (.int .i64 x8) := cell_of B0_3 rfl
  have c3_9 : w3.cell? ⟨w.heap.size, 9, none⟩ = some (.int .i64 x9) := cell_of B0_3 rfl
  have c3_10 : w3.cell? ⟨w.heap.size, 10, none⟩ = some (.int .i64 x10) := cell_of B0_3 rfl
  have d3_0 : w3.cell? ⟨w.heap.size + 1 + 1, 0, none⟩ = some (.slice z1_0A z1_0l.length z1_0c) := cell_of B2_3 rfl
  have d3_1 : w3.cell? ⟨w.heap.size + 1 + 1, 1, none⟩ = some (.slice z1_1A z1_1l.length z1_1c) := cell_of B2_3 rfl
  have d3_2 : w3.cell? ⟨w.heap.size + 1 + 1, 2, none⟩ = some (.string z2_0) := cell_of B2_3 rfl
  have d3_3 : w3.cell? ⟨w.heap.size + 1 + 1, 3, none⟩ = some (.slice z2_1A z2_1l.length z2_1c) := cell_of B2_3 rfl
  have d3_4 : w3.cell? ⟨w.heap.size + 1 + 1, 4, none⟩ = some (.int .i64 x4) := cell_of B2_3 rfl
  have d3_5 : w3.cell? ⟨w.heap.size + 1 + 1, 5, none⟩ = some (.slice none 0 0) := cell_of B2_3 rfl
  have d3_6 : w3.cell? ⟨w.heap.size + 1 + 1, 6, none⟩ = some (.int .i64 0) := cell_of B2_3 rfl
  have d3_7 : w3.cell? ⟨w.heap.size + 1 + 1, 7, none⟩ = some (.int .i64 0) := cell_of B2_3 rfl
  have d3_8 : w3.cell? ⟨w.heap.size + 1 + 1, 8, none⟩ = some (.int .i64 0) := cell_of B2_3 rfl
  have d3_9 : w3.cell? ⟨w.heap.size + 1 + 1, 9, none⟩ = some (.int .i64 0) := cell_of B2_3 rfl
  have d3_10 : w3.cell? ⟨w.heap.size + 1 + 1, 10, none⟩ = some (.int .i64 0) := cell_of B2_3 rfl
  have f3 := frz_of B2_3
  have r0' := cell_of B1_3 (o := 0) rfl; have r1' := cell_of B1_3 (o := 1) rfl; have r2' := cell_of B1_3 (o := 2) rfl; have r3' := cell_of B1_3 (o := 3) rfl; have r4' := cell_of B1_3 (o := 4) rfl; have r5' := cell_of B1_3 (o := 5) rfl; have r6' := cell_of B1_3 (o := 6) rfl; have r7' := cell_of B1_3 (o := 7) rfl; have r8' := cell_of B1_3 (o := 8) rfl; have r9' := cell_of B1_3 (o := 9) rfl; have r10' := cell_of B1_3 (o := 10) rfl
  have fr' := frz_of B1_3
  go_wp2
  have OWN : Owns w3 (w.heap.size + 1 + 1 + 1) w3.heap.size [(E.agg [.lst 4 213 z1_0A z1_0c z1_0l, .lst 2 217 z1_1A z1_1c z1_1l]), (E.agg [.str z2_0, .lst 1 9 z2_1A z2_1c z2_1l]), (E.int .i64 x4), (E.lst 1 5 A3 q3 l3), (E.int .i64 x6), (E.int .i64 x7), (E.int .i64 x8), (E.int .i64 x9), (E.int .i64 x10)] := (Owns.cons (mid := w1.heap.size) ho1 HN1.out (Owns.cons (mid := w2.heap.size) ho2 HN2.out (Owns.leaf rfl (by simp only [E.Ho]) (Owns.cons (mid := w3.heap.size) ho3 HN3.out (Owns.leaf rfl (by simp only [E.Ho]) (Owns.leaf rfl (by simp only [E.Ho]) (Owns.leaf rfl (by simp only [E.Ho]) (Owns.leaf rfl (by simp only [E.Ho]) (Owns.leaf rfl (by simp only [E.Ho]) Owns.nil))))) (by omega) (by omega))) (by omega) (by omega)) (by omega) (by omega))
  refine bodyPost_ret (v := .agg #[.slice z1_0A z1_0l.length z1_0c, .slice z1_1A z1_1l.length z1_1c, .string z2_0, .slice z2_1A z2_1l.length z2_1c, .int .i64 x4, .slice A3 l3.length q3, .int .i64 x6, .int .i64 x7, .int .i64 x8, .int .i64 x9, .int .i64 x10]) (ret_cell (t := 69) (fr := (0, 0)) rfl rfl Tryd.underlying69 (by kernel_rfl) ?_) rfl ⟨(E.agg [(E.agg [.lst 4 213 z1_0A z1_0c z1_0l, .lst 2 217 z1_1A z1_1c z1_1l]), (E.agg [.str z2_0, .lst 1 9 z2_1A z2_1c z2_1l]), (E.int .i64 x4), (E.lst 1 5 A3 q3 l3), (E.int .i64 x6), (E.int .i64 x7), (E.int .i64 x8), (E.int .i64 x9), (E.int .i64 x10)]), rfl, ?_, E.Ty.mk_agg Tryd.underlying69 (E.TyF.mk_cons HT1.out (E.TyF.mk_cons HT2.out (E.TyF.mk_cons (show E.Ty _ _ _ from ⟨Tryd.underlying3, gx4⟩) (E.TyF.mk_cons HT3.out (E.TyF.mk_cons (show E.Ty _ _ _ from ⟨Tryd.underlying3, gx6⟩) (E.TyF.mk_cons (show E.Ty _ _ _ from ⟨Tryd.underlying3, gx7⟩) (E.TyF.mk_cons (show E.Ty _ _ _ from ⟨Tryd.underlying3, gx8⟩) (E.TyF.mk_cons (show E.Ty _ _ _ from ⟨Tryd.underlying3, gx9⟩) (E.TyF.mk_cons (show E.Ty _ _ _ from ⟨Tryd.underlying3, gx10⟩) (E.TyF.mk_nil)))))))))), ?_, ?_, ?_⟩
  · simp only [heap_set, B1_3, B2_3]; simp [setAt]
  · show E.d _ = E.d _
    simp only [E.d, E.dL]
    have y1 := HD1.out; simp only [E.d, E.dL] at y1
    have y2 := HD2.out; simp only [E.d, E.dL] at y2
    have y3 := HD3.out; simp only [E.d, E.dL] at y3
    simp only [E.agg.injEq, List.cons.injEq, E.lst.injEq, E.int.injEq, E.str.injEq, E.bool.injEq, true_and, and_true] at *
    simp [*]
  · exact ((E.Ho.mk_agg OWN.1).kp (lo' := w.heap.size + 1) (hi' := w.heap.size + 1 + 1 + 1) (by repeat (first | (with_reducible exact Kp.refl _ _ _) | (refine Kp.set ?_ (by first | omega | (dsimp only; omega) | (simp; omega)) (by first | omega | (dsimp only; omega) | (simp; omega)) _))) (.inr (by omega))).wider (by omega) (by simp)
  · exact OWN.2
  · exact hB3.trans (Kp.below (lo := w.heap.size + 1) (hi := w.heap.size + 1 + 1 + 1) (by repeat (first | (with_reducible exact Kp.refl _ _ _) | (refine Kp.set ?_ (by first | omega | (dsimp only; omega) | (simp; omega)) (by first | omega | (dsimp only; omega) | (simp; omega)) _))) (by omega) (by omega))
set_option maxRecDepth 100000 in
set_option maxHeartbeats 1000000 in
theorem eqSt_all {e e' : E} (ht : e.Ty Tryd.prog 69) (ht' : e'.Ty Tryd.prog 69) : Eq 30 e e' := by
  obtain ⟨x0A, x0c, x0l, x1A, x1c, x1l, x2, x3A, x3c, x3l, x4, x5A, x5c, x5l, x6, x7, x8, x9, x10, rfl, gx0, gx1, gx2, gx3, gx4, gx5, gx6, gx7, gx8, gx9, gx10, -⟩ := shape_impl_St ht
  obtain ⟨y0A, y0c, y0l, y1A, y1c, y1l, y2, y3A, y3c, y3l, y4, y5A, y5c, y5l, y6, y7, y8, y9, y10, rfl, gy0, gy1, gy2, gy3, gy4, gy5, gy6, gy7, gy8, gy9, gy10, -⟩ := shape_impl_St ht'
  intro hd w hr hr'
  simp only [E.d, E.dL, E.agg.injEq, List.cons.injEq, E.int.injEq, E.str.injEq, E.bool.injEq, E.lst.injEq, true_and, and_true] at hd
  obtain ⟨⟨hd0, hd1⟩, ⟨rfl, hd3⟩, rfl, hd5, rfl, rfl, rfl, rfl, rfl⟩ := hd
  have hr0 := ((hr.fld (i := 0) rfl).alloc (.cells #[.slice x0A x0l.length x0c, .slice x1A x1l.length x1c, .string x2, .slice x3A x3l.length x3c, .int .i64 x4, .slice x5A x5l.length x5c, .int .i64 x6, .int .i64 x7, .int .i64 x8, .int .i64 x9, .int .i64 x10] 69)).alloc (.cells #[.slice y0A y0l.length y0c, .slice y1A y1l.length y1c, .string x2, .slice y3A y3l.length y3c, .int .i64 x4, .slice y5A y5l.length y5c, .int .i64 x6, .int .i64 x7, .int .i64 x8, .int .i64 x9, .int .i64 x10] 69)
  have hs0 := ((hr'.fld (i := 0) rfl).alloc (.cells #[.slice x0A x0l.length x0c, .slice x1A x1l.length x1c, .string x2, .slice x3A x3l.length x3c, .int .i64 x4, .slice x5A x5l.length x5c, .int .i64 x6, .int .i64 x7, .int .i64 x8, .int .i64 x9, .int .i64 x10] 69)).alloc (.cells #[.slice y0A y0l.length y0c, .slice y1A y1l.length y1c, .string x2, .slice y3A y3l.length y3c, .int .i64 x4, .slice y5A y5l.length y5c, .int .i64 x6, .int .i64 x7, .int .i64 x8, .int .i64 x9, .int .i64 x10] 69)
  have t0 : (E.agg [.lst 4 213 x0A x0c x0l, .lst 2 217 x1A x1c x1l]).Ty Tryd.prog 66 := E.Ty.mk_agg Tryd.underlying66 (E.TyF.mk_cons (E.Ty.mk_lst Tryd.underlying63 (by kernel_rfl) gx0.1 gx0.2) (E.TyF.mk_cons (E.Ty.mk_lst Tryd.underlying64 (by kernel_rfl) gx1.1 gx1.2) (E.TyF.mk_nil)))
  have u0 : (E.agg [.lst 4 213 y0A y0c y0l, .lst 2 217 y1A y1c y1l]).Ty Tryd.prog 66 := E.Ty.mk_agg Tryd.underlying66 (E.TyF.mk_cons (E.Ty.mk_lst Tryd.underlying63 (by kernel_rfl) gy0.1 gy0.2) (E.TyF.mk_cons (E.Ty.mk_lst Tryd.underlying64 (by kernel_rfl) gy1.1 gy1.2) (E.TyF.mk_nil)))
  have HC0 := Lib.hid (eqEnv_all t0 u0 (by simp only [E.d, E.dL, E.agg.injEq, List.cons.injEq, E.int.injEq, E.str.injEq, E.bool.injEq, E.lst.injEq, true_and, and_true]; exact ⟨hd0, hd1⟩))
  clear t0 u0
  have hr1 := ((hr.fld (i := 1) rfl).alloc (.cells #[.slice x0A x0l.length x0c, .slice x1A x1l.length x1c, .string x2, .slice x3A x3l.length x3c, .int .i64 x4, .slice x5A x5l.length x5c, .int .i64 x6, .int .i64 x7, .int .i64 x8, .int .i64 x9, .int .i64 x10] 69)).alloc (.cells #[.slice y0A y0l.length y0c, .slice y1A y1l.length y1c, .string x2, .slice y3A y3l.length y3c, .int .i64 x4, .slice y5A y5l.length y5c, .int .i64 x6, .int .i64 x7, .int .i64 x8, .int .i64 x9, .int .i64 x10] 69)
  have hs1 := ((hr'.fld (i := 1) rfl).alloc (.cells #[.slice x0A x0l.length x0c, .slice x1A x1l.length x1c, .string x2, .slice x3A x3l.length x3c, .int .i64 x4, .slice x5A x5l.length x5c, .int .i64 x6, .int .i64 x7, .int .i64 x8, .int .i64 x9, .int .i64 x10] 69)).alloc (.cells #[.slice y0A y0l.length y0c, .slice y1A y1l.length y1c, .string x2, .slice y3A y3l.length y3c, .int .i64 x4, .slice y5A y5l.length y5c, .int .i64 x6, .int .i64 x7, .int .i64 x8, .int .i64 x9, .int .i64 x10] 69)
  have t1 : (E.agg [.str x2, .lst 1 9 x3A x3c x3l]).Ty Tryd.prog 67 := E.Ty.mk_agg Tryd.underlying67 (E.TyF.mk_cons (show E.Ty _ _ _ from ⟨Tryd.underlying9, by unfold maxLen; exact gx2⟩) (E.TyF.mk_cons (E.Ty.mk_lst Tryd.underlying40 (by kernel_rfl) gx3.1 gx3.2) (E.TyF.mk_nil)))
  have u1 : (E.agg [.str x2, .lst 1 9 y3A y3c y3l]).Ty Tryd.prog 67 := E.Ty.mk_agg Tryd.underlying67 (E.TyF.mk_cons (show E.Ty _ _ _ from ⟨Tryd.underlying9, by unfold maxLen; exact gx2⟩) (E.TyF.mk_cons (E.Ty.mk_lst Tryd.underlying40 (by kernel_rfl) gy3.1 gy3.2) (E.TyF.mk_nil)))
  have HC1 := Lib.hid (eqRec_all t1 u1 (by simp only [E.d, E.dL, E.agg.injEq, List.cons.injEq, E.int.injEq, E.str.injEq, E.bool.injEq, E.lst.injEq, true_and, and_true]; exact hd3))
  clear t1 u1
  have hr3 := ((hr.fld (i := 3) rfl).alloc (.cells #[.slice x0A x0l.length x0c, .slice x1A x1l.length x1c, .string x2, .slice x3A x3l.length x3c, .int .i64 x4, .slice x5A x5l.length x5c, .int .i64 x6, .int .i64 x7, .int .i64 x8, .int .i64 x9, .int .i64 x10] 69)).alloc (.cells #[.slice y0A y0l.length y0c, .slice y1A y1l.length y1c, .string x2, .slice y3A y3l.length y3c, .int .i64 x4, .slice y5A y5l.length y5c, .int .i64 x6, .int .i64 x7, .int .i64 x8, .int .i64 x9, .int .i64 x10] 69)
  have hs3 := ((hr'.fld (i := 3) rfl).alloc (.cells #[.slice x0A x0l.length x0c, .slice x1A x1l.length x1c, .string x2, .slice x3A x3l.length x3c, .int .i64 x4, .slice x5A x5l.length x5c, .int .i64 x6, .int .i64 x7, .int .i64 x8, .int .i64 x9, .int .i64 x10] 69)).alloc (.cells #[.slice y0A y0l.length y0c, .slice y1A y1l.length y1c, .string x2, .slice y3A y3l.length y3c, .int .i64 x4, .slice y5A y5l.length y5c, .int .i64 x6, .int .i64 x7, .int .i64 x8, .int .i64 x9, .int .i64 x10] 69)
  have t3 : (E.lst 1 5 x5A x5c x5l).Ty Tryd.prog 28 := E.Ty.mk_lst Tryd.underlying28 (by kernel_rfl) gx5.1 gx5.2
  have u3 : (E.lst 1 5 y5A y5c y5l).Ty Tryd.prog 28 := E.Ty.mk_lst Tryd.underlying28 (by kernel_rfl) gy5.1 gy5.2
  have HC3 := Lib.hid (eqByteS_all t3 u3 (by simp only [E.d, E.dL, E.agg.injEq, List.cons.injEq, E.int.injEq, E.str.injEq, E.bool.injEq, E.lst.injEq, true_and, and_true]; exact hd5))
  clear t3 u3
  clear hd0 hd1 hd3 hd5
  change Calls _ _ #[.agg #[.slice x0A x0l.length x0c, .slice x1A x1l.length x1c, .string x2, .slice x3A x3l.length x3c, .int .i64 x4, .slice x5A x5l.length x5c, .int .i64 x6, .int .i64 x7, .int .i64 x8, .int .i64 x9, .int .i64 x10], .agg #[.slice y0A y0l.length y0c, .slice y1A y1l.length y1c, .string x2, .slice y3A y3l.length y3c, .int .i64 x4, .slice y5A y5l.length y5c, .int .i64 x6, .int .i64 x7, .int .i64 x8, .int .i64 x9, .int .i64 x10]] w _
  go_enter Tryd.func30, Tryd.ntmps30
  go_wp2_with fail
  go_at_call 73
  refine (HC0.out _ hr0 hs0).mono ?_; rintro e w1 ⟨rfl, hb1⟩
  have hz1 := hb1.size; (try simp only [World.size_alloc] at hz1)
  have c1_2 : w1.cell? ⟨w.heap.size, 2, none⟩ = some (.string x2) := cell_below hb1 (cell_alloc (cell_new rfl) (by simp)) (by simp; omega)
  have d1_2 : w1.cell? ⟨w.heap.size + 1, 2, none⟩ = some (.string x2) := cell_below hb1 (cell_new' rfl (by simp)) (by simp)
  have c1_3 : w1.cell? ⟨w.heap.size, 3, none⟩ = some (.slice x3A x3l.length x3c) := cell_below hb1 (cell_alloc (cell_new rfl) (by simp)) (by simp; omega)
  have d1_3 : w1.cell? ⟨w.heap.size + 1, 3, none⟩ = some (.slice y3A y3l.length y3c) := cell_below hb1 (cell_new' rfl (by simp)) (by simp)
  have c1_4 : w1.cell? ⟨w.heap.size, 4, none⟩ = some (.int .i64 x4) := cell_below hb1 (cell_alloc (cell_new rfl) (by simp)) (by simp; omega)
  have d1_4 : w1.cell? ⟨w.heap.size + 1, 4, none⟩ = some (.int .i64 x4) := cell_below hb1 (cell_new' rfl (by simp)) (by simp)
  have c1_5 : w1.cell? ⟨w.heap.size, 5, none⟩ = some (.slice x5A x5l.length x5c) := cell_below hb1 (cell_alloc (cell_new rfl) (by simp)) (by simp; omega)
  have d1_5 : w1.cell? ⟨w.heap.size + 1, 5, none⟩ = some (.slice y5A y5l.length y5c) := cell_below hb1 (cell_new' rfl (by simp)) (by simp)
  have c1_6 : w1.cell? ⟨w.heap.size, 6, none⟩ = some (.int .i64 x6) := cell_below hb1 (cell_alloc (cell_new rfl) (by simp)) (by simp; omega)
  have d1_6 : w1.cell? ⟨w.heap.size + 1, 6, none⟩ = some (.int .i64 x6) := cell_below hb1 (cell_new' rfl (by simp)) (by simp)
  have c1_7 : w1.cell? ⟨w.heap.size, 7, none⟩ = some (.int .i64 x7) := cell_below hb1 (cell_alloc (cell_new rfl) (by simp)) (by simp; omega)
  have d1_7 : w1.cell? ⟨w.heap.size + 1, 7, none⟩ = some (.int .i64 x7) := cell_below hb1 (cell_new' rfl (by simp)) (by simp)
  have c1_8 : w1.cell? ⟨w.heap.size, 8, none⟩ = some (.int .i64 x8) := cell_below hb1 (cell_alloc (cell_new rfl) (by simp)) (by simp; omega)
  have d1_8 : w1.cell? ⟨w.heap.size + 1, 8, none⟩ = some (.int .i64 x8) := cell_below hb1 (cell_new' rfl (by simp)) (by simp)
  have c1_9 : w1.cell? ⟨w.heap.size, 9, none⟩ = some (.int .i64 x9) := cell_below hb1 (cell_alloc (cell_new rfl) (by simp)) (by simp; omega)
  have d1_9 : w1.cell? ⟨w.heap.size + 1, 9, none⟩ = some (.int .i64 x9) := cell_below hb1 (cell_new' rfl (by simp)) (by simp)
  have c1_10 : w1.cell? ⟨w.heap.size, 10, none⟩ = some (.int .i64 x10) := cell_below hb1 (cell_alloc (cell_new rfl) (by simp)) (by simp; omega)
  have d1_10 : w1.cell? ⟨w.heap.size + 1, 10, none⟩ = some (.int .i64 x10) := cell_below hb1 (cell_new' rfl (by simp)) (by simp)
  have hr1 := hr1.below hb1 (by first | exact Nat.le_refl _ | simp)
  have hs1 := hs1.below hb1 (by first | exact Nat.le_refl _ | simp)
  have hr3 := hr3.below hb1 (by first | exact Nat.le_refl _ | simp)
  have hs3 := hs3.below hb1 (by first | exact Nat.le_refl _ | simp)
  go_wp2_with fail
  go_at_call 74
  refine (HC1.out _ hr1 hs1).mono ?_; rintro e w2 ⟨rfl, hb2⟩
  have hz2 := hb2.size; (try simp only [World.size_alloc] at hz2)
  have c2_4 := cell_below hb2 c1_4 (by omega)
  have d2_4 := cell_below hb2 d1_4 (by omega)
  have c2_5 := cell_below hb2 c1_5 (by omega)
  have d2_5 := cell_below hb2 d1_5 (by omega)
  have c2_6 := cell_below hb2 c1_6 (by omega)
  have d2_6 := cell_below hb2 d1_6 (by omega)
  have c2_7 := cell_below hb2 c1_7 (by omega)
  have d2_7 := cell_below hb2 d1_7 (by omega)
  have c2_8 := cell_below hb2 c1_8 (by omega)
  have d2_8 := cell_below hb2 d1_8 (by omega)
  have c2_9 := cell_below hb2 c1_9 (by omega)
  have d2_9 := cell_below hb2 d1_9 (by omega)
  have c2_10 := cell_below hb2 c1_10 (by omega)
  have d2_10 := cell_below hb2 d1_10 (by omega)
  clear c1_2 d1_2 c1_3 d1_3 c1_4 d1_4 c1_5 d1_5 c1_6 d1_6 c1_7 d1_7 c1_8 d1_8 c1_9 d1_9 c1_10 d1_10
  have hr3 := hr3.below hb2 (by first | exact Nat.le_refl _ | simp)
  have hs3 := hs3.below hb2 (by first | exact Nat.le_refl _ | simp)
  go_wp2_with fail
  go_at_call 75
  refine (HC3.out _ hr3 hs3).mono ?_; rintro e w3 ⟨rfl, hb3⟩
  have hz3 := hb3.size; (try simp only [World.size_alloc] at hz3)
  have c3_6 := cell_below hb3 c2_6 (by omega)
  have d3_6 := cell_below hb3 d2_6 (by omega)
  have c3_7 := cell_below hb3 c2_7 (by omega)
  have d3_7 := cell_below hb3 d2_7 (by omega)
  have c3_8 := cell_below hb3 c2_8 (by omega)
  have d3_8 := cell_below hb3 d2_8 (by omega)
  have c3_9 := cell_below hb3 c2_9 (by omega)
  have d3_9 := cell_below hb3 d2_9 (by omega)
  have c3_10 := cell_below hb3 c2_10 (by omega)
  have d3_10 := cell_below hb3 d2_10 (by omega)
  clear c2_4 d2_4 c2_5 d2_5 c2_6 d2_6 c2_7 d2_7 c2_8 d2_8 c2_9 d2_9 c2_10 d2_10
  go_wp2
  go_ret
  exact ⟨rfl, (by repeat (first | (with_reducible refine Below.setCell ?_ (by first | omega | (· simp) | (· (simp; omega))) _) | (with_reducible refine Below.alloc ?_ (by first | omega | (· simp) | (· (simp; omega))) _) | (with_reducible refine Below.drew ?_) | (with_reducible refine bdrewN ?_ _) | (with_reducible exact Below.refl _ _) | (with_reducible assumption) | (with_reducible refine Below.trans ?_ (Below.mono (by assumption) (by first | omega | (· simp) | (· (simp; omega))))) | (with_reducible refine Below.trans ?_ (Kp.below (by assumption) (by first | omega | (· simp) | (· (simp; omega))) (by first | omega | (· simp) | (· (simp; omega)))))))⟩
end Go.Proofs.YtkhioiehcaaejaaDoor
