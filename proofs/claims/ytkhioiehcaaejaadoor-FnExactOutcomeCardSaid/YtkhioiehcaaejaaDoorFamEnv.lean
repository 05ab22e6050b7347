/- The type Env, and slices of it: shape; the laws' own functions. -/
import Derived.Test.YtkhioiehcaaejaaDoorFamNamed
import Derived.Test.YtkhioiehcaaejaaDoorFamTable
import Derived.Deep.RegionHeld3
namespace Go.Proofs.YtkhioiehcaaejaaDoor
open Go.RowKit

theorem shape_laws_Env {e : E} (h : e.Ty Tryd.prog 56) : ∃ (x0A : Option Addr) (x0c : Nat) (x0l : List E) (x1A : Option Addr) (x1c : Nat) (x1l : List E), e = (E.agg [.lst 4 207 x0A x0c x0l, .lst 2 211 x1A x1c x1l]) ∧ ((∀ y ∈ x0l, y.Ty Tryd.prog 207) ∧ (∀ y ∈ x0l, y.enc.length = 4)) ∧ ((∀ y ∈ x1l, y.Ty Tryd.prog 211) ∧ (∀ y ∈ x1l, y.enc.length = 2)) ∧ True := by
  obtain ⟨fs, rfl, q0⟩ := h.agg_ Tryd.underlying56
  change E.TyF _ _ [53, 54] at q0
  obtain ⟨e0, r0, rfl, h0, q1⟩ := q0.cons_
  obtain ⟨e1, r1, rfl, h1, q2⟩ := q1.cons_
  obtain rfl := q2.nil_
  obtain ⟨x0A, x0c, x0l, rfl, gx0, gx0'⟩ := h0.lst_ Tryd.underlying53 (k := 4) (by kernel_rfl)
  obtain ⟨x1A, x1c, x1l, rfl, gx1, gx1'⟩ := h1.lst_ Tryd.underlying54 (k := 2) (by kernel_rfl)
  exact ⟨x0A, x0c, x0l, x1A, x1c, x1l, rfl, ⟨gx0, gx0'⟩, ⟨gx1, gx1'⟩, trivial⟩
theorem shape_impl_Env {e : E} (h : e.Ty Tryd.prog 66) : ∃ (x0A : Option Addr) (x0c : Nat) (x0l : List E) (x1A : Option Addr) (x1c : Nat) (x1l : List E), e = (E.agg [.lst 4 213 x0A x0c x0l, .lst 2 217 x1A x1c x1l]) ∧ ((∀ y ∈ x0l, y.Ty Tryd.prog 213) ∧ (∀ y ∈ x0l, y.enc.length = 4)) ∧ ((∀ y ∈ x1l, y.Ty Tryd.prog 217) ∧ (∀ y ∈ x1l, y.enc.length = 2)) ∧ True := by
  obtain ⟨fs, rfl, q0⟩ := h.agg_ Tryd.underlying66
  change E.TyF _ _ [63, 64] at q0
  obtain ⟨e0, r0, rfl, h0, q1⟩ := q0.cons_
  obtain ⟨e1, r1, rfl, h1, q2⟩ := q1.cons_
  obtain rfl := q2.nil_
  obtain ⟨x0A, x0c, x0l, rfl, gx0, gx0'⟩ := h0.lst_ Tryd.underlying63 (k := 4) (by kernel_rfl)
  obtain ⟨x1A, x1c, x1l, rfl, gx1, gx1'⟩ := h1.lst_ Tryd.underlying64 (k := 2) (by kernel_rfl)
  exact ⟨x0A, x0c, x0l, x1A, x1c, x1l, rfl, ⟨gx0, gx0'⟩, ⟨gx1, gx1'⟩, trivial⟩
set_option maxRecDepth 100000 in
set_option maxHeartbeats 1000000 in
theorem szEnv_all {e : E} (ht : e.Ty Tryd.prog 56) : Sz 66 e := by
  obtain ⟨x0A, x0c, x0l, x1A, x1c, x1l, rfl, gx0, gx1, -⟩ := shape_laws_Env ht
  intro left w hr h0 h1
  have HSZ : Hid ((E.agg [.lst 4 207 x0A x0c x0l, .lst 2 211 x1A x1c x1l]).sz = ((E.lst 4 207 x0A x0c x0l).sz + ((E.lst 2 211 x1A x1c x1l).sz + 0))) := rfl
  change Calls _ _ #[.agg #[.slice x0A x0l.length x0c, .slice x1A x1l.length x1c], .int .i64 left] w _
  have hr0 := (hr.fld (i := 0) rfl).alloc (.cells #[.slice x0A x0l.length x0c, .slice x1A x1l.length x1c] 56)
  have hr1 := (hr.fld (i := 1) rfl).alloc (.cells #[.slice x0A x0l.length x0c, .slice x1A x1l.length x1c] 56)
  go_enter Tryd.func66, Tryd.ntmps66
  go_wp2_with fail
  go_at_call 103
  refine ((szNamedS_all (E.Ty.mk_lst Tryd.underlying53 (by kernel_rfl) gx0.1 gx0.2)) _ _ hr0 (by omega) (by omega)).mono ?_; rintro e w1 ⟨r1, rfl, hr1s, hl1, hb1⟩
  have hz1 := hb1.size; (try simp only [World.size_alloc] at hz1)
  have c1_1 : w1.cell? ⟨w.heap.size, 1, none⟩ = some (.slice x1A x1l.length x1c) := (by repeat (first | (with_reducible assumption) | (with_reducible refine cell_drew ?_) | (with_reducible refine cell_drewN ?_) | (with_reducible exact cell_new rfl) | (exact cell_new' rfl (by first | rfl | (simp; done))) | (with_reducible refine cell_alloc ?_ ?_) | (refine cell_below (by with_reducible assumption) ?_ ?_) | (refine cell_kp (by with_reducible assumption) ?_ ?_) | omega | (· simp) | (· (simp; omega))))
  have hr1 := hr1.below hb1 (by first | exact Nat.le_refl _ | simp)
  by_cases hn1 : r1 < 0
  · go_wp2
    go_ret
    exact ⟨-1, rfl, .inl (by omega), by omega, by exact (by repeat (first | (with_reducible refine Below.setCell ?_ (by first | omega | (· simp) | (· (simp; omega))) _) | (with_reducible refine Below.alloc ?_ (by first | omega | (· simp) | (· (simp; omega))) _) | (with_reducible refine Below.drew ?_) | (with_reducible refine bdrewN ?_ _) | (with_reducible exact Below.refl _ _) | (with_reducible assumption) | (with_reducible refine Below.trans ?_ (Below.mono (by assumption) (by first | omega | (· simp) | (· (simp; omega))))) | (with_reducible refine Below.trans ?_ (Kp.below (by assumption) (by first | omega | (· simp) | (· (simp; omega))) (by first | omega | (· simp) | (· (simp; omega)))))))⟩
  have hq1 := hr1s.resolve_left hn1
  go_wp2_with fail
  go_at_call 104
  refine ((szTableS_all (E.Ty.mk_lst Tryd.underlying54 (by kernel_rfl) gx1.1 gx1.2)) _ _ hr1 (by omega) (by omega)).mono ?_; rintro e w2 ⟨r2, rfl, hr2s, hl2, hb2⟩
  have hz2 := hb2.size; (try simp only [World.size_alloc] at hz2)
  by_cases hn2 : r2 < 0
  · go_wp2
    go_ret
    exact ⟨-1, rfl, .inl (by omega), by omega, by exact (by repeat (first | (with_reducible refine Below.setCell ?_ (by first | omega | (· simp) | (· (simp; omega))) _) | (with_reducible refine Below.alloc ?_ (by first | omega | (· simp) | (· (simp; omega))) _) | (with_reducible refine Below.drew ?_) | (with_reducible refine bdrewN ?_ _) | (with_reducible exact Below.refl _ _) | (with_reducible assumption) | (with_reducible refine Below.trans ?_ (Below.mono (by assumption) (by first | omega | (· simp) | (· (simp; omega))))) | (with_reducible refine Below.trans ?_ (Kp.below (by assumption) (by first | omega | (· simp) | (· (simp; omega))) (by first | omega | (· simp) | (· (simp; omega)))))))⟩
  have hq2 := hr2s.resolve_left hn2
  go_wp2
  go_ret
  refine ⟨_, rfl, .inr ?_, by omega, by exact (by repeat (first | (with_reducible refine Below.setCell ?_ (by first | omega | (· simp) | (· (simp; omega))) _) | (with_reducible refine Below.alloc ?_ (by first | omega | (· simp) | (· (simp; omega))) _) | (with_reducible refine Below.drew ?_) | (with_reducible refine bdrewN ?_ _) | (with_reducible exact Below.refl _ _) | (with_reducible assumption) | (with_reducible refine Below.trans ?_ (Below.mono (by assumption) (by first | omega | (· simp) | (· (simp; omega))))) | (with_reducible refine Below.trans ?_ (Kp.below (by assumption) (by first | omega | (· simp) | (· (simp; omega))) (by first | omega | (· simp) | (· (simp; omega)))))))⟩
  show _ = _
  rw [HSZ.out]
  have e1 := hq1.out
  have e2 := hq2.out
  push_cast
  omega
set_option maxRecDepth 100000 in
set_option maxHeartbeats 1000000 in
theorem toEnv_all {e : E} (ht : e.Ty Tryd.prog 56) : To 69 66 e := by
  have HT0 := Lib.hid ht
  obtain ⟨x0A, x0c, x0l, x1A, x1c, x1l, rfl, gx0, gx1, -⟩ := shape_laws_Env ht
  intro w hr hsz
  have hsz' : ((E.lst 4 207 x0A x0c x0l).sz + ((E.lst 2 211 x1A x1c x1l).sz + 0)) ≤ 1048576 := hsz
  have hs0 : (E.lst 4 207 x0A x0c x0l).sz ≤ 1048576 := by omega
  have hs1 : (E.lst 2 211 x1A x1c x1l).sz ≤ 1048576 := by omega
  clear hsz hsz'
  have hr0 := hr.fld (i := 0) rfl
  have ty0 : (E.lst 4 207 x0A x0c x0l).Ty Tryd.prog 53 := E.Ty.mk_lst Tryd.underlying53 (by kernel_rfl) gx0.1 gx0.2
  have HC0 := Lib.hid (toNamedS_all ty0)
  clear ty0
  have hr1 := hr.fld (i := 1) rfl
  have ty1 : (E.lst 2 211 x1A x1c x1l).Ty Tryd.prog 54 := E.Ty.mk_lst Tryd.underlying54 (by kernel_rfl) gx1.1 gx1.2
  have HC1 := Lib.hid (toTableS_all ty1)
  clear ty1
  change Calls _ _ #[.agg #[.slice x0A x0l.length x0c, .slice x1A x1l.length x1c]] w _
  go_enter Tryd.func69, Tryd.ntmps69
  go_wp2_with fail
  go_at_call 105
  refine (HC0.out _ (((hr0.alloc _).alloc _).alloc _) hs0).mono ?_; rintro e w1 ⟨v1, he, HD1, ht1, ho1, hn1, hb1⟩
  have HT1 := Lib.hid ht1
  have HN1 := Lib.hid hn1
  obtain ⟨A1, q1, l1, rfl, -, -⟩ := ht1.lst_ Tryd.underlying63 (k := 4) (by kernel_rfl)
  obtain rfl : e = .returned (.slice A1 l1.length q1) := he
  clear hn1 ht1
  have B0_1 : w1.heap[w.heap.size]? = some (.cells #[.slice x0A x0l.length x0c, .slice x1A x1l.length x1c] 56 (0, 0)) := (hb1.block (w.heap.size) (by simp; omega)).trans three.1
  have B1_1 : w1.heap[w.heap.size + 1]? = some (.cells #[.slice none 0 0, .slice none 0 0] 66 (0, 0)) := (hb1.block (w.heap.size + 1) (by simp)).trans three.2.1
  have B2_1 : w1.heap[w.heap.size + 1 + 1]? = some (.cells #[.slice none 0 0, .slice none 0 0] 66 (0, 0)) := (hb1.block (w.heap.size + 1 + 1) (by simp)).trans three.2.2
  have hz1 := hb1.size; simp only [World.size_alloc] at hz1
  have hB1 : Below w.heap.size w w1 := (by exact (by repeat (first | (with_reducible refine Below.setCell ?_ (by first | omega | (· simp) | (· (simp; omega))) _) | (with_reducible refine Below.alloc ?_ (by first | omega | (· simp) | (· (simp; omega))) _) | (with_reducible refine Below.drew ?_) | (with_reducible refine bdrewN ?_ _) | (with_reducible exact Below.refl _ _) | (with_reducible assumption) | (with_reducible refine Below.trans ?_ (Below.mono (by assumption) (by first | omega | (· simp) | (· (simp; omega))))) | (with_reducible refine Below.trans ?_ (Kp.below (by assumption) (by first | omega | (· simp) | (· (simp; omega))) (by first | omega | (· simp) | (· (simp; omega))))))) : Below w.heap.size w _).trans (hb1.mono (by simp; omega))
  have ho1 := ho1.wider (lo' := w.heap.size + 1 + 1 + 1) (by simp) (Nat.le_refl _)
  have c1_0 : w1.cell? ⟨w.heap.size, 0, none⟩ = some (.slice x0A x0l.length x0c) := cell_of B0_1 rfl
  have c1_1 : w1.cell? ⟨w.heap.size, 1, none⟩ = some (.slice x1A x1l.length x1c) := cell_of B0_1 rfl
  have d1_0 : w1.cell? ⟨w.heap.size + 1 + 1, 0, none⟩ = some (.slice none 0 0) := cell_of B2_1 rfl
  have d1_1 : w1.cell? ⟨w.heap.size + 1 + 1, 1, none⟩ = some (.slice none 0 0) := cell_of B2_1 rfl
  have f1 := frz_of B2_1
  go_wp2_with fail
  have hK1 : Kp (w.heap.size + 1 + 1) (w.heap.size + 1 + 1 + 1) w1 (w1.setCell ⟨w.heap.size + 1 + 1, 0, none⟩ (.slice A1 l1.length q1)) := (by repeat (first | (with_reducible exact Kp.refl _ _ _) | (refine Kp.set ?_ (by first | omega | (dsimp only; omega) | (simp; omega)) (by first | omega | (dsimp only; omega) | (simp; omega)) _)))
  have A0_1 := (hK1.block (w.heap.size) (by omega) (.inl (by omega))).trans B0_1
  have A1_1 := (hK1.block (w.heap.size + 1) (by omega) (.inl (by omega))).trans B1_1
  have A2_1 : (w1.setCell ⟨w.heap.size + 1 + 1, 0, none⟩ (.slice A1 l1.length q1)).heap[w.heap.size + 1 + 1]? = some (.cells #[.slice A1 l1.length q1, .slice none 0 0] 66 (0, 0)) := by simp only [heap_set, B2_1]; simp [setAt]
  have hW1 : (w1.setCell ⟨w.heap.size + 1 + 1, 0, none⟩ (.slice A1 l1.length q1)).heap.size = w1.heap.size := by simp
  have hBW1 : Below w.heap.size w (w1.setCell ⟨w.heap.size + 1 + 1, 0, none⟩ (.slice A1 l1.length q1)) := hB1.trans (hK1.below (by omega) (by omega))
  have ho1 := ho1.kp hK1 (.inr (by omega))
  clear c1_0 c1_1 d1_0 d1_1 f1 B0_1 B1_1 B2_1 hK1 hB1
  generalize (w1.setCell ⟨w.heap.size + 1 + 1, 0, none⟩ (.slice A1 l1.length q1)) = W1 at *
  go_at_call 106
  refine (HC1.out _ (E.In.below hr1 hBW1 (Nat.le_refl _)) hs1).mono ?_; rintro e w2 ⟨v2, he, HD2, ht2, ho2, hn2, hb2⟩
  have HT2 := Lib.hid ht2
  have HN2 := Lib.hid hn2
  obtain ⟨A2, q2, l2, rfl, -, -⟩ := ht2.lst_ Tryd.underlying64 (k := 2) (by kernel_rfl)
  obtain rfl : e = .returned (.slice A2 l2.length q2) := he
  clear hn2 ht2
  have B0_2 := (hb2.block (w.heap.size) (by omega)).trans A0_1
  have B1_2 := (hb2.block (w.heap.size + 1) (by omega)).trans A1_1
  have B2_2 := (hb2.block (w.heap.size + 1 + 1) (by omega)).trans A2_1
  have hz2 := hb2.size
  have hB2 : Below w.heap.size w w2 := hBW1.trans (hb2.mono (by omega))
  have ho1 := ho1.below hb2 (by omega)
  have ho2 := ho2.wider (lo' := w1.heap.size) (by omega) (Nat.le_refl _)
  clear A0_1 A1_1 A2_1
  have c2_0 : w2.cell? ⟨w.heap.size, 0, none⟩ = some (.slice x0A x0l.length x0c) := cell_of B0_2 rfl
  have c2_1 : w2.cell? ⟨w.heap.size, 1, none⟩ = some (.slice x1A x1l.length x1c) := cell_of B0_2 rfl
  have d2_0 : w2.cell? ⟨w.heap.size + 1 + 1, 0, none⟩ = some (.slice A1 l1.length q1) := cell_of B2_2 rfl
  have d2_1 : w2.cell? ⟨w.heap.size + 1 + 1, 1, none⟩ = some (.slice none 0 0) := cell_of B2_2 rfl
  have f2 := frz_of B2_2
  have r0' := cell_of B1_2 (o := 0) rfl; have r1' := cell_of B1_2 (o := 1) rfl
  have fr' := frz_of B1_2
  go_wp2
  have OWN : Owns w2 (w.heap.size + 1 + 1 + 1) w2.heap.size [(E.lst 4 213 A1 q1 l1), (E.lst 2 217 A2 q2 l2)] := (Owns.cons (mid := w1.heap.size) ho1 HN1.out (Owns.cons (mid := w2.heap.size) ho2 HN2.out Owns.nil (by omega) (by omega)) (by omega) (by omega))
  refine bodyPost_ret (v := .agg #[.slice A1 l1.length q1, .slice A2 l2.length q2]) (ret_cell (t := 66) (fr := (0, 0)) rfl rfl Tryd.underlying66 (by kernel_rfl) ?_) rfl ⟨(E.agg [(E.lst 4 213 A1 q1 l1), (E.lst 2 217 A2 q2 l2)]), rfl, ?_, E.Ty.mk_agg Tryd.underlying66 (E.TyF.mk_cons HT1.out (E.TyF.mk_cons HT2.out (E.TyF.mk_nil))), ?_, ?_, ?_⟩
  · simp only [heap_set, B1_2, B2_2]; simp [setAt]
  · show E.d _ = E.d _
    simp only [E.d, E.dL]
    have y1 := HD1.out; simp only [E.d, E.dL] at y1
    have y2 := HD2.out; simp only [E.d, E.dL] at y2
    simp only [E.agg.injEq, List.cons.injEq, E.lst.injEq, E.int.injEq, E.str.injEq, E.bool.injEq, true_and, and_true] at *
    simp [*]
  · exact ((E.Ho.mk_agg OWN.1).kp (lo' := w.heap.size + 1) (hi' := w.heap.size + 1 + 1 + 1) (by repeat (first | (with_reducible exact Kp.refl _ _ _) | (refine Kp.set ?_ (by first | omega | (dsimp only; omega) | (simp; omega)) (by first | omega | (dsimp only; omega) | (simp; omega)) _))) (.inr (by omega))).wider (by omega) (by simp)
  · exact OWN.2
  · exact hB2.trans (Kp.below (lo := w.heap.size + 1) (hi := w.heap.size + 1 + 1 + 1) (by repeat (first | (with_reducible exact Kp.refl _ _ _) | (refine Kp.set ?_ (by first | omega | (dsimp only; omega) | (simp; omega)) (by first | omega | (dsimp only; omega) | (simp; omega)) _))) (by omega) (by omega))
set_option maxRecDepth 100000 in
set_option maxHeartbeats 1000000 in
theorem eqEnv_all {e e' : E} (ht : e.Ty Tryd.prog 66) (ht' : e'.Ty Tryd.prog 66) : Eq 73 e e' := by
  obtain ⟨x0A, x0c, x0l, x1A, x1c, x1l, rfl, gx0, gx1, -⟩ := shape_impl_Env ht
  obtain ⟨y0A, y0c, y0l, y1A, y1c, y1l, rfl, gy0, gy1, -⟩ := shape_impl_Env ht'
  intro hd w hr hr'
  simp only [E.d, E.dL, E.agg.injEq, List.cons.injEq, E.int.injEq, E.str.injEq, E.bool.injEq, E.lst.injEq, true_and, and_true] at hd
  obtain ⟨hd0, hd1⟩ := hd
  have hr0 := ((hr.fld (i := 0) rfl).alloc (.cells #[.slice x0A x0l.length x0c, .slice x1A x1l.length x1c] 66)).alloc (.cells #[.slice y0A y0l.length y0c, .slice y1A y1l.length y1c] 66)
  have hs0 := ((hr'.fld (i := 0) rfl).alloc (.cells #[.slice x0A x0l.length x0c, .slice x1A x1l.length x1c] 66)).alloc (.cells #[.slice y0A y0l.length y0c, .slice y1A y1l.length y1c] 66)
  have t0 : (E.lst 4 213 x0A x0c x0l).Ty Tryd.prog 63 := E.Ty.mk_lst Tryd.underlying63 (by kernel_rfl) gx0.1 gx0.2
  have u0 : (E.lst 4 213 y0A y0c y0l).Ty Tryd.prog 63 := E.Ty.mk_lst Tryd.underlying63 (by kernel_rfl) gy0.1 gy0.2
  have HC0 := Lib.hid (eqNamedS_all t0 u0 (by simp only [E.d, E.dL, E.agg.injEq, List.cons.injEq, E.int.injEq, E.str.injEq, E.bool.injEq, E.lst.injEq, true_and, and_true]; exact hd0))
  clear t0 u0
  have hr1 := ((hr.fld (i := 1) rfl).alloc (.cells #[.slice x0A x0l.length x0c, .slice x1A x1l.length x1c] 66)).alloc (.cells #[.slice y0A y0l.length y0c, .slice y1A y1l.length y1c] 66)
  have hs1 := ((hr'.fld (i := 1) rfl).alloc (.cells #[.slice x0A x0l.length x0c, .slice x1A x1l.length x1c] 66)).alloc (.cells #[.slice y0A y0l.length y0c, .slice y1A y1l.length y1c] 66)
  have t1 : (E.lst 2 217 x1A x1c x1l).Ty Tryd.prog 64 := E.Ty.mk_lst Tryd.underlying64 (by kernel_rfl) gx1.1 gx1.2
  have u1 : (E.lst 2 217 y1A y1c y1l).Ty Tryd.prog 64 := E.Ty.mk_lst Tryd.underlying64 (by kernel_rfl) gy1.1 gy1.2
  have HC1 := Lib.hid (eqTableS_all t1 u1 (by simp only [E.d, E.dL, E.agg.injEq, List.cons.injEq, E.int.injEq, E.str.injEq, E.bool.injEq, E.lst.injEq, true_and, and_true]; exact hd1))
  clear t1 u1
  clear hd0 hd1
  change Calls _ _ #[.agg #[.slice x0A x0l.length x0c, .slice x1A x1l.length x1c], .agg #[.slice y0A y0l.length y0c, .slice y1A y1l.length y1c]] w _
  go_enter Tryd.func73, Tryd.ntmps73
  go_wp2_with fail
  go_at_call 107
  refine (HC0.out _ hr0 hs0).mono ?_; rintro e w1 ⟨rfl, hb1⟩
  have hz1 := hb1.size; (try simp only [World.size_alloc] at hz1)
  have c1_1 : w1.cell? ⟨w.heap.size, 1, none⟩ = some (.slice x1A x1l.length x1c) := cell_below hb1 (cell_alloc (cell_new rfl) (by simp)) (by simp; omega)
  have d1_1 : w1.cell? ⟨w.heap.size + 1, 1, none⟩ = some (.slice y1A y1l.length y1c) := cell_below hb1 (cell_new' rfl (by simp)) (by simp)
  have hr1 := hr1.below hb1 (by first | exact Nat.le_refl _ | simp)
  have hs1 := hs1.below hb1 (by first | exact Nat.le_refl _ | simp)
  go_wp2_with fail
  go_at_call 108
  refine (HC1.out _ hr1 hs1).mono ?_; rintro e w2 ⟨rfl, hb2⟩
  have hz2 := hb2.size; (try simp only [World.size_alloc] at hz2)
  clear c1_1 d1_1
  go_wp2
  go_ret
  exact ⟨rfl, (by repeat (first | (with_reducible refine Below.setCell ?_ (by first | omega | (· simp) | (· (simp; omega))) _) | (with_reducible refine Below.alloc ?_ (by first | omega | (· simp) | (· (simp; omega))) _) | (with_reducible refine Below.drew ?_) | (with_reducible refine bdrewN ?_ _) | (with_reducible exact Below.refl _ _) | (with_reducible assumption) | (with_reducible refine Below.trans ?_ (Below.mono (by assumption) (by first | omega | (· simp) | (· (simp; omega))))) | (with_reducible refine Below.trans ?_ (Kp.below (by assumption) (by first | omega | (· simp) | (· (simp; omega))) (by first | omega | (· simp) | (· (simp; omega)))))))⟩
end Go.Proofs.YtkhioiehcaaejaaDoor
