/- spec.SameModule, impl.SameModule: by the abstract machine. -/
import Derived.Test.YtfnnbjkjfoiboaaT14
import Derived.Test.YtfnnbjkjfoiboaaAH
namespace Go.Proofs.Ytfnnbjkjfoiboaa
open Go.RowKit
set_option maxRecDepth 100000
def eqMod (a b : E) : Bool := match a, b with
  | .agg [.lst _ _ _ _ l0, .lst _ _ _ _ l1, .int _ x2, .int _ x3, .lst _ _ _ _ l4], .agg [.lst _ _ _ _ m0, .lst _ _ _ _ m1, .int _ y2, .int _ y3, .lst _ _ _ _ m4] => eqLs eqVal l0 m0 && (eqLs eqStr l1 m1 && (x2 == y2 && (x3 == y3 && eqLs eqMFn l4 m4)))
  | _, _ => false
def eqM (l0 l1 : List E) (x2 x3 : Int) (l4 m0 m1 : List E) (y2 y3 : Int) (m4 : List E) : Bool := eqLs eqVal l0 m0 && (eqLs eqStr l1 m1 && (x2 == y2 && (x3 == y3 && eqLs eqMFn l4 m4)))
theorem eqM_no {l0 l1 l4 m0 m1 m4 : List E} {x2 x3 y2 y3 : Int} (h : l0.length ≠ m0.length ∨ l1.length ≠ m1.length ∨ x2 ≠ y2 ∨ x3 ≠ y3 ∨ l4.length ≠ m4.length ∨ eqLs eqVal l0 m0 = false ∨ eqLs eqStr l1 m1 = false ∨ eqLs eqMFn l4 m4 = false) : eqM l0 l1 x2 x3 l4 m0 m1 y2 y3 m4 = false := by
  unfold eqM
  rcases h with h | h | h | h | h | h | h | h
  · rw [eqLs_len h]; rfl
  · rw [eqLs_len (f := eqStr) h]; simp
  · simp [h]
  · simp [h]
  · rw [eqLs_len (f := eqMFn) h]; simp
  all_goals simp [h]
theorem eqM_yes {l0 l1 l4 m0 m1 m4 : List E} {x2 x3 y2 y3 : Int} (h0 : eqLs eqVal l0 m0 = true) (h1 : eqLs eqStr l1 m1 = true) (h2 : x2 = y2) (h3 : x3 = y3) (h4 : eqLs eqMFn l4 m4 = true) : eqM l0 l1 x2 x3 l4 m0 m1 y2 y3 m4 = true := by
  unfold eqM; simp [*]

set_option maxHeartbeats 2000000 in
theorem specSameModule_c {a b : E} (ha : a.Ty Try.prog 95) (hb : b.Ty Try.prog 95) (hsa : a.sz ≤ 1048576) (hsb : b.sz ≤ 1048576) : Ctr Try.prog 64 [.ag (acE a), .ag (acE b)] [] (.c (.v (.bool (eqMod a b)))) [] := by
  obtain ⟨x0A, x0c, l0, x1A, x1c, l1, x2, x3, x4A, x4c, l4, rfl, ⟨a0, ka0⟩, ⟨a1, ka1⟩, -, -, ⟨a4, ka4⟩, -⟩ := shape_impl_Module ha
  obtain ⟨y0A, y0c, m0, y1A, y1c, m1, y2, y3, y4A, y4c, m4, rfl, ⟨b0, kb0⟩, ⟨b1, kb1⟩, -, -, ⟨b4, kb4⟩, -⟩ := shape_impl_Module hb
  simp only [E.sz, E.szL] at hsa hsb
  refine ctr_of Try.func64 rfl rfl ?_
  repeat' (first | refine awp_seq ?_ | refine awp_block ?_ | refine awp_skip ?_ | refine awp_exit ?_ | refine awp_region0 fun C => ?_ | refine awp_region1 (by kernel_rfl) (by kernel_rfl) fun C => ?_ | refine walk_end ?_ | (refine x_gm ?_ ?_ <;> intro hG <;> (try cases hG)) | refine x_nop ?_ | refine x_bs ?_ | refine x_gr ?_ | refine x_st ?_ | refine x_mv ?_ | refine x_sk ?_ | refine x_sk0 ?_ | refine x_ix ?_ | refine x_ixs ?_ | refine x_sto ?_ | refine x_app ?_ | refine x_app0 ?_ | refine x_ld ?_ | refine x_cal ?_ | (refine awp_cond (by rfl) ?_ ?_ <;> intro hC <;> (try cases hC)))
  all_goals first
    | (refine awp_ret ?_
       refine ret0 (x := .c (.v (.bool false))) rfl clV_v ⟨?_, rfl⟩
       rw [show eqMod _ _ = eqM l0 l1 x2 x3 l4 m0 m1 y2 y3 m4 from rfl, eqM_no]
       first | (revert hC; simp; omega) | (revert hG; simp; omega))
    | skip
  rename_i q1 q2 q3
  have e0 : l0.length = m0.length := by have := q1; simp at this; omega
  have e1 : l1.length = m1.length := by have := q2; simp at this; omega
  have e2 : x2 = y2 := by simpa using q3
  have e3 : x3 = y3 := by simpa using hG
  have e4 : l4.length = m4.length := by have := hC; simp at this; omega
  clear q1 q2 q3 hG hC
  refine awp_loopd (fun k : Nat => ⟨tmsF [(2, .c (.pt 2 0)), (3, .c (.pt 3 0)), (5, .c (.v (.int .i64 k)))], hpsF [(2, 2, ⟨95, 0, 0, true, [.ro l0.length 3 (acL l0), .ro l1.length 1 (acL l1), .v (.int .i64 x2), .v (.int .i64 x3), .ro l4.length 2 (acL l4)]⟩), (3, 3, ⟨95, 0, 0, true, [.ro m0.length 3 (acL m0), .ro m1.length 1 (acL m1), .v (.int .i64 y2), .v (.int .i64 y3), .ro m4.length 2 (acL m4)]⟩)], 0, [2, 3], 119⟩)
    (fun N k => k + N = l0.length ∧ ∀ j p q, j < k → l0[j]? = some p → m0[j]? = some q → eqVal p q = true) l0.length 0 ⟨by omega, by omega⟩ ?_ ?_
  · (refine gh_tidy _ _ rfl rfl ?_ ?_ <;> (repeat' (first | exact TmOk.nil | exact RwOk.nil | refine TmOk.cons ?_ ?_ | refine RwOk.cons ?_ ?_ | rfl | (refine rnV_id' rfl ?_; (first | rfl | (simp [cloV, cloL, clo, acE_clo, acL_clo, owE_clo, owL_clo, cloL_app]; done))) | (refine rn_int ?_; first | rfl | omega | (rw [wrap_nat (by omega) (by omega)]; omega)) | (refine rw_same rfl ?_; (first | rfl | (simp [cloV, cloL, clo, acE_clo, acL_clo, owE_clo, owL_clo, cloL_app]; done))) | exact rw_rn rfl rfl | (refine rw_mid (by rfl) (by rfl) ?_ ?_ <;> (first | rfl | (simp [cloV, cloL, clo, acE_clo, acL_clo, owE_clo, owL_clo, cloL_app]; done))) | (refine rw_rn' rfl rfl ?_; simp; done))))
  rintro N k ⟨hN, hno⟩
  repeat (first | refine awp_seq ?_ | refine awp_block ?_ | refine awp_skip ?_ | refine awp_exit ?_ | refine awp_ret ?_ | refine awp_region0 fun C => ?_ | refine awp_region1 (by kernel_rfl) (by kernel_rfl) fun C => ?_ | refine walk_end ?_ | refine x_eqVal ?_ | refine x_neVal ?_ | refine x_eqIns ?_ | refine x_neIns ?_ | refine x_nop ?_ | refine x_bs ?_ | refine x_gr ?_ | refine x_st ?_ | refine x_mv ?_ | refine x_sk ?_ | refine x_sk0 ?_ | refine x_ix ?_ | refine x_ixs ?_ | refine x_sto ?_ | refine x_app ?_ | refine x_app0 ?_ | refine x_ld ?_)
  refine awp_cond (by rfl) (fun h2 => ?_) fun h2 => ?_
  · have hk' : k < l0.length := by simpa using h2
    obtain ⟨x, hx⟩ : ∃ x, l0[k]? = some x := ⟨_, List.getElem?_eq_getElem hk'⟩
    obtain ⟨y, hy⟩ : ∃ y, m0[k]? = some y := ⟨_, List.getElem?_eq_getElem (by omega)⟩
    obtain ⟨p0, p1, p2, rfl, -⟩ := shape_impl_Val (a0 x (List.mem_of_getElem? hx))
    obtain ⟨r0, r1, r2, rfl, -⟩ := shape_impl_Val (b0 y (List.mem_of_getElem? hy))
    repeat (first | refine awp_seq ?_ | refine awp_block ?_ | refine awp_skip ?_ | refine awp_exit ?_ | refine awp_ret ?_ | refine awp_region0 fun C => ?_ | refine awp_region1 (by kernel_rfl) (by kernel_rfl) fun C => ?_ | refine walk_end ?_ | refine x_eqVal ?_ | refine x_neVal ?_ | refine x_eqIns ?_ | refine x_neIns ?_ | refine x_nop ?_ | refine x_bs ?_ | refine x_gr ?_ | refine x_st ?_ | refine x_mv ?_ | refine x_sk ?_ | refine x_sk0 ?_ | refine x_ix ?_ | refine x_ixs ?_ | refine x_sto ?_ | refine x_app ?_ | refine x_app0 ?_ | refine x_ld ?_)
    refine awp_cond (by rfl) (fun h3 => ?_) fun h3 => ?_
    · repeat (first | refine awp_seq ?_ | refine awp_block ?_ | refine awp_skip ?_ | refine awp_exit ?_ | refine awp_ret ?_ | refine awp_region0 fun C => ?_ | refine awp_region1 (by kernel_rfl) (by kernel_rfl) fun C => ?_ | refine walk_end ?_ | refine x_eqVal ?_ | refine x_neVal ?_ | refine x_eqIns ?_ | refine x_neIns ?_ | refine x_nop ?_ | refine x_bs ?_ | refine x_gr ?_ | refine x_st ?_ | refine x_mv ?_ | refine x_sk ?_ | refine x_sk0 ?_ | refine x_ix ?_ | refine x_ixs ?_ | refine x_sto ?_ | refine x_app ?_ | refine x_app0 ?_ | refine x_ld ?_)
      refine ret0 (x := .c (.v (.bool false))) rfl clV_v ⟨?_, rfl⟩
      rw [show eqMod _ _ = eqM l0 l1 x2 x3 l4 m0 m1 y2 y3 m4 from rfl, eqM_no]
      simp only [eqLs_no hx hy (show eqVal _ _ = false by first | exact (Bool.not_eq_true' _).mp h3 | simpa [eqVal] using h3), true_or, or_true]
    · repeat (first | refine awp_seq ?_ | refine awp_block ?_ | refine awp_skip ?_ | refine awp_exit ?_ | refine awp_ret ?_ | refine awp_region0 fun C => ?_ | refine awp_region1 (by kernel_rfl) (by kernel_rfl) fun C => ?_ | refine walk_end ?_ | refine x_eqVal ?_ | refine x_neVal ?_ | refine x_eqIns ?_ | refine x_neIns ?_ | refine x_nop ?_ | refine x_bs ?_ | refine x_gr ?_ | refine x_st ?_ | refine x_mv ?_ | refine x_sk ?_ | refine x_sk0 ?_ | refine x_ix ?_ | refine x_ixs ?_ | refine x_sto ?_ | refine x_app ?_ | refine x_app0 ?_ | refine x_ld ?_)
      refine ⟨N - 1, k + 1, by omega, ⟨by omega, fun j p q hj hp hq => ?_⟩, ?_⟩
      · by_cases e : j = k
        · rw [e, hx] at hp; rw [e, hy] at hq; injection hp with hp; injection hq with hq; subst hp hq; simpa [eqVal] using h3
        · exact hno j p q (by omega) hp hq
      · (refine gh_tidy _ _ rfl rfl ?_ ?_ <;> (repeat' (first | exact TmOk.nil | exact RwOk.nil | refine TmOk.cons ?_ ?_ | refine RwOk.cons ?_ ?_ | rfl | (refine rnV_id' rfl ?_; (first | rfl | (simp [cloV, cloL, clo, acE_clo, acL_clo, owE_clo, owL_clo, cloL_app]; done))) | (refine rn_int ?_; first | rfl | omega | (rw [wrap_nat (by omega) (by omega)]; omega)) | (refine rw_same rfl ?_; (first | rfl | (simp [cloV, cloL, clo, acE_clo, acL_clo, owE_clo, owL_clo, cloL_app]; done))) | exact rw_rn rfl rfl | (refine rw_mid (by rfl) (by rfl) ?_ ?_ <;> (first | rfl | (simp [cloV, cloL, clo, acE_clo, acL_clo, owE_clo, owL_clo, cloL_app]; done))) | (refine rw_rn' rfl rfl ?_; simp; done))))
  have hk' : ¬ k < l0.length := by simpa using h2
  have q0 : eqLs eqVal l0 m0 = true := eqLs_yes (by omega) fun j p q hj hp hq => hno j p q (by omega) hp hq
  clear hno hN h2 hk'
  repeat (first | refine awp_seq ?_ | refine awp_block ?_ | refine awp_skip ?_ | refine awp_exit ?_ | refine awp_ret ?_ | refine awp_region0 fun C => ?_ | refine awp_region1 (by kernel_rfl) (by kernel_rfl) fun C => ?_ | refine walk_end ?_ | refine x_eqVal ?_ | refine x_neVal ?_ | refine x_eqIns ?_ | refine x_neIns ?_ | refine x_nop ?_ | refine x_bs ?_ | refine x_gr ?_ | refine x_st ?_ | refine x_mv ?_ | refine x_sk ?_ | refine x_sk0 ?_ | refine x_ix ?_ | refine x_ixs ?_ | refine x_sto ?_ | refine x_app ?_ | refine x_app0 ?_ | refine x_ld ?_)
  refine awp_loopd (fun k : Nat => ⟨tmsF [(2, .c (.pt 2 0)), (3, .c (.pt 3 0)), (6, .c (.v (.int .i64 k)))], hpsF [(2, 2, ⟨95, 0, 0, true, [.ro l0.length 3 (acL l0), .ro l1.length 1 (acL l1), .v (.int .i64 x2), .v (.int .i64 x3), .ro l4.length 2 (acL l4)]⟩), (3, 3, ⟨95, 0, 0, true, [.ro m0.length 3 (acL m0), .ro m1.length 1 (acL m1), .v (.int .i64 y2), .v (.int .i64 y3), .ro m4.length 2 (acL m4)]⟩)], 0, [2, 3], 119⟩)
    (fun N k => k + N = l1.length ∧ ∀ j p q, j < k → l1[j]? = some p → m1[j]? = some q → eqStr p q = true) l1.length 0 ⟨by omega, by omega⟩ ?_ ?_
  · (refine gh_tidy _ _ rfl rfl ?_ ?_ <;> (repeat' (first | exact TmOk.nil | exact RwOk.nil | refine TmOk.cons ?_ ?_ | refine RwOk.cons ?_ ?_ | rfl | (refine rnV_id' rfl ?_; (first | rfl | (simp [cloV, cloL, clo, acE_clo, acL_clo, owE_clo, owL_clo, cloL_app]; done))) | (refine rn_int ?_; first | rfl | omega | (rw [wrap_nat (by omega) (by omega)]; omega)) | (refine rw_same rfl ?_; (first | rfl | (simp [cloV, cloL, clo, acE_clo, acL_clo, owE_clo, owL_clo, cloL_app]; done))) | exact rw_rn rfl rfl | (refine rw_mid (by rfl) (by rfl) ?_ ?_ <;> (first | rfl | (simp [cloV, cloL, clo, acE_clo, acL_clo, owE_clo, owL_clo, cloL_app]; done))) | (refine rw_rn' rfl rfl ?_; simp; done))))
  rintro N k ⟨hN, hno⟩
  repeat (first | refine awp_seq ?_ | refine awp_block ?_ | refine awp_skip ?_ | refine awp_exit ?_ | refine awp_ret ?_ | refine awp_region0 fun C => ?_ | refine awp_region1 (by kernel_rfl) (by kernel_rfl) fun C => ?_ | refine walk_end ?_ | refine x_eqVal ?_ | refine x_neVal ?_ | refine x_eqIns ?_ | refine x_neIns ?_ | refine x_nop ?_ | refine x_bs ?_ | refine x_gr ?_ | refine x_st ?_ | refine x_mv ?_ | refine x_sk ?_ | refine x_sk0 ?_ | refine x_ix ?_ | refine x_ixs ?_ | refine x_sto ?_ | refine x_app ?_ | refine x_app0 ?_ | refine x_ld ?_)
  refine awp_cond (by rfl) (fun h2 => ?_) fun h2 => ?_
  · have hk' : k < l1.length := by simpa using h2
    obtain ⟨x, hx⟩ : ∃ x, l1[k]? = some x := ⟨_, List.getElem?_eq_getElem hk'⟩
    obtain ⟨y, hy⟩ : ∃ y, m1[k]? = some y := ⟨_, List.getElem?_eq_getElem (by omega)⟩
    obtain ⟨p0, rfl, -⟩ := (a1 x (List.mem_of_getElem? hx)).str_ Try.underlying9
    obtain ⟨r0, rfl, -⟩ := (b1 y (List.mem_of_getElem? hy)).str_ Try.underlying9
    repeat (first | refine awp_seq ?_ | refine awp_block ?_ | refine awp_skip ?_ | refine awp_exit ?_ | refine awp_ret ?_ | refine awp_region0 fun C => ?_ | refine awp_region1 (by kernel_rfl) (by kernel_rfl) fun C => ?_ | refine walk_end ?_ | refine x_eqVal ?_ | refine x_neVal ?_ | refine x_eqIns ?_ | refine x_neIns ?_ | refine x_nop ?_ | refine x_bs ?_ | refine x_gr ?_ | refine x_st ?_ | refine x_mv ?_ | refine x_sk ?_ | refine x_sk0 ?_ | refine x_ix ?_ | refine x_ixs ?_ | refine x_sto ?_ | refine x_app ?_ | refine x_app0 ?_ | refine x_ld ?_)
    refine awp_cond (by rfl) (fun h3 => ?_) fun h3 => ?_
    · repeat (first | refine awp_seq ?_ | refine awp_block ?_ | refine awp_skip ?_ | refine awp_exit ?_ | refine awp_ret ?_ | refine awp_region0 fun C => ?_ | refine awp_region1 (by kernel_rfl) (by kernel_rfl) fun C => ?_ | refine walk_end ?_ | refine x_eqVal ?_ | refine x_neVal ?_ | refine x_eqIns ?_ | refine x_neIns ?_ | refine x_nop ?_ | refine x_bs ?_ | refine x_gr ?_ | refine x_st ?_ | refine x_mv ?_ | refine x_sk ?_ | refine x_sk0 ?_ | refine x_ix ?_ | refine x_ixs ?_ | refine x_sto ?_ | refine x_app ?_ | refine x_app0 ?_ | refine x_ld ?_)
      refine ret0 (x := .c (.v (.bool false))) rfl clV_v ⟨?_, rfl⟩
      rw [show eqMod _ _ = eqM l0 l1 x2 x3 l4 m0 m1 y2 y3 m4 from rfl, eqM_no]
      simp only [eqLs_no hx hy (show eqStr _ _ = false by first | exact (Bool.not_eq_true' _).mp h3 | simpa [eqStr] using h3), true_or, or_true]
    · repeat (first | refine awp_seq ?_ | refine awp_block ?_ | refine awp_skip ?_ | refine awp_exit ?_ | refine awp_ret ?_ | refine awp_region0 fun C => ?_ | refine awp_region1 (by kernel_rfl) (by kernel_rfl) fun C => ?_ | refine walk_end ?_ | refine x_eqVal ?_ | refine x_neVal ?_ | refine x_eqIns ?_ | refine x_neIns ?_ | refine x_nop ?_ | refine x_bs ?_ | refine x_gr ?_ | refine x_st ?_ | refine x_mv ?_ | refine x_sk ?_ | refine x_sk0 ?_ | refine x_ix ?_ | refine x_ixs ?_ | refine x_sto ?_ | refine x_app ?_ | refine x_app0 ?_ | refine x_ld ?_)
      refine ⟨N - 1, k + 1, by omega, ⟨by omega, fun j p q hj hp hq => ?_⟩, ?_⟩
      · by_cases e : j = k
        · rw [e, hx] at hp; rw [e, hy] at hq; injection hp with hp; injection hq with hq; subst hp hq; simpa [eqStr] using h3
        · exact hno j p q (by omega) hp hq
      · (refine gh_tidy _ _ rfl rfl ?_ ?_ <;> (repeat' (first | exact TmOk.nil | exact RwOk.nil | refine TmOk.cons ?_ ?_ | refine RwOk.cons ?_ ?_ | rfl | (refine rnV_id' rfl ?_; (first | rfl | (simp [cloV, cloL, clo, acE_clo, acL_clo, owE_clo, owL_clo, cloL_app]; done))) | (refine rn_int ?_; first | rfl | omega | (rw [wrap_nat (by omega) (by omega)]; omega)) | (refine rw_same rfl ?_; (first | rfl | (simp [cloV, cloL, clo, acE_clo, acL_clo, owE_clo, owL_clo, cloL_app]; done))) | exact rw_rn rfl rfl | (refine rw_mid (by rfl) (by rfl) ?_ ?_ <;> (first | rfl | (simp [cloV, cloL, clo, acE_clo, acL_clo, owE_clo, owL_clo, cloL_app]; done))) | (refine rw_rn' rfl rfl ?_; simp; done))))
  have hk' : ¬ k < l1.length := by simpa using h2
  have q1 : eqLs eqStr l1 m1 = true := eqLs_yes (by omega) fun j p q hj hp hq => hno j p q (by omega) hp hq
  clear hno hN h2 hk'
  repeat (first | refine awp_seq ?_ | refine awp_block ?_ | refine awp_skip ?_ | refine awp_exit ?_ | refine awp_ret ?_ | refine awp_region0 fun C => ?_ | refine awp_region1 (by kernel_rfl) (by kernel_rfl) fun C => ?_ | refine walk_end ?_ | refine x_eqVal ?_ | refine x_neVal ?_ | refine x_eqIns ?_ | refine x_neIns ?_ | refine x_nop ?_ | refine x_bs ?_ | refine x_gr ?_ | refine x_st ?_ | refine x_mv ?_ | refine x_sk ?_ | refine x_sk0 ?_ | refine x_ix ?_ | refine x_ixs ?_ | refine x_sto ?_ | refine x_app ?_ | refine x_app0 ?_ | refine x_ld ?_)
  refine awp_loopd (fun k : Nat => ⟨tmsF [(2, .c (.pt 2 0)), (3, .c (.pt 3 0)), (7, .c (.v (.int .i64 k)))], hpsF [(2, 2, ⟨95, 0, 0, true, [.ro l0.length 3 (acL l0), .ro l1.length 1 (acL l1), .v (.int .i64 x2), .v (.int .i64 x3), .ro l4.length 2 (acL l4)]⟩), (3, 3, ⟨95, 0, 0, true, [.ro m0.length 3 (acL m0), .ro m1.length 1 (acL m1), .v (.int .i64 y2), .v (.int .i64 y3), .ro m4.length 2 (acL m4)]⟩)], 0, [2, 3], 119⟩)
    (fun N k => k + N = l4.length ∧ ∀ j p q, j < k → l4[j]? = some p → m4[j]? = some q → eqMFn p q = true) l4.length 0 ⟨by omega, by omega⟩ ?_ ?_
  · (refine gh_tidy _ _ rfl rfl ?_ ?_ <;> (repeat' (first | exact TmOk.nil | exact RwOk.nil | refine TmOk.cons ?_ ?_ | refine RwOk.cons ?_ ?_ | rfl | (refine rnV_id' rfl ?_; (first | rfl | (simp [cloV, cloL, clo, acE_clo, acL_clo, owE_clo, owL_clo, cloL_app]; done))) | (refine rn_int ?_; first | rfl | omega | (rw [wrap_nat (by omega) (by omega)]; omega)) | (refine rw_same rfl ?_; (first | rfl | (simp [cloV, cloL, clo, acE_clo, acL_clo, owE_clo, owL_clo, cloL_app]; done))) | exact rw_rn rfl rfl | (refine rw_mid (by rfl) (by rfl) ?_ ?_ <;> (first | rfl | (simp [cloV, cloL, clo, acE_clo, acL_clo, owE_clo, owL_clo, cloL_app]; done))) | (refine rw_rn' rfl rfl ?_; simp; done))))
  rintro N k ⟨hN, hno⟩
  repeat (first | refine awp_seq ?_ | refine awp_block ?_ | refine awp_skip ?_ | refine awp_exit ?_ | refine awp_ret ?_ | refine awp_region0 fun C => ?_ | refine awp_region1 (by kernel_rfl) (by kernel_rfl) fun C => ?_ | refine walk_end ?_ | refine x_eqVal ?_ | refine x_neVal ?_ | refine x_eqIns ?_ | refine x_neIns ?_ | refine x_nop ?_ | refine x_bs ?_ | refine x_gr ?_ | refine x_st ?_ | refine x_mv ?_ | refine x_sk ?_ | refine x_sk0 ?_ | refine x_ix ?_ | refine x_ixs ?_ | refine x_sto ?_ | refine x_app ?_ | refine x_app0 ?_ | refine x_ld ?_)
  refine awp_cond (by rfl) (fun h2 => ?_) fun h2 => ?_
  · have hk' : k < l4.length := by simpa using h2
    obtain ⟨x, hx⟩ : ∃ x, l4[k]? = some x := ⟨_, List.getElem?_eq_getElem hk'⟩
    obtain ⟨y, hy⟩ : ∃ y, m4[k]? = some y := ⟨_, List.getElem?_eq_getElem (by omega)⟩
    obtain ⟨pp, pA, pc, p, rfl, -, ⟨hp, hkp⟩, -⟩ := shape_impl_MFn (a4 x (List.mem_of_getElem? hx))
    obtain ⟨rr, rA, rc, r, rfl, -, ⟨hr, hkr⟩, -⟩ := shape_impl_MFn (b4 y (List.mem_of_getElem? hy))
    have sx := E.szL_mem (List.mem_of_getElem? hx)
    have sy := E.szL_mem (List.mem_of_getElem? hy)
    simp only [E.sz, E.szL] at sx sy
    have hc := sameCode_c hp hkp hr hkr (by omega) (by omega)
    repeat' (first | refine awp_seq ?_ | refine awp_block ?_ | refine awp_skip ?_ | refine awp_exit ?_ | refine awp_region0 fun C => ?_ | refine awp_region1 (by kernel_rfl) (by kernel_rfl) fun C => ?_ | refine walk_end ?_ | (refine x_gm ?_ ?_ <;> intro hG <;> (try cases hG)) | refine x_nop ?_ | refine x_bs ?_ | refine x_gr ?_ | refine x_st ?_ | refine x_mv ?_ | refine x_sk ?_ | refine x_sk0 ?_ | refine x_ix ?_ | refine x_ixs ?_ | refine x_sto ?_ | refine x_app ?_ | refine x_app0 ?_ | refine x_ld ?_ | refine x_cal ?_ | (refine awp_cond (by rfl) ?_ ?_ <;> intro hC <;> (try cases hC)))
    · refine awp_ret ?_
      refine ret0 (x := .c (.v (.bool false))) rfl clV_v ⟨?_, rfl⟩
      rw [show eqMod _ _ = eqM l0 l1 x2 x3 l4 m0 m1 y2 y3 m4 from rfl, eqM_no]
      simp only [eqLs_no hx hy (show eqMFn _ _ = false by simp at hG; simp [eqMFn, hG]), true_or, or_true]
    · refine awp_ret ?_
      refine ret0 (x := .c (.v (.bool false))) rfl clV_v ⟨?_, rfl⟩
      rw [show eqMod _ _ = eqM l0 l1 x2 x3 l4 m0 m1 y2 y3 m4 from rfl, eqM_no]
      simp only [eqLs_no hx hy (show eqMFn _ _ = false by simp at hC; simp [eqMFn, hC]), true_or, or_true]
    · refine ⟨N - 1, k + 1, by omega, ⟨by omega, fun j p q hj hp hq => ?_⟩, ?_⟩
      · by_cases e : j = k
        · rw [e, hx] at hp; rw [e, hy] at hq; injection hp with hp; injection hq with hq; subst hp hq; simp at hG hC; simp [eqMFn, hG, hC]
        · exact hno j p q (by omega) hp hq
      · (refine gh_tidy _ _ rfl rfl ?_ ?_ <;> (repeat' (first | exact TmOk.nil | exact RwOk.nil | refine TmOk.cons ?_ ?_ | refine RwOk.cons ?_ ?_ | rfl | (refine rnV_id' rfl ?_; (first | rfl | (simp [cloV, cloL, clo, acE_clo, acL_clo, owE_clo, owL_clo, cloL_app]; done))) | (refine rn_int ?_; first | rfl | omega | (rw [wrap_nat (by omega) (by omega)]; omega)) | (refine rw_same rfl ?_; (first | rfl | (simp [cloV, cloL, clo, acE_clo, acL_clo, owE_clo, owL_clo, cloL_app]; done))) | exact rw_rn rfl rfl | (refine rw_mid (by rfl) (by rfl) ?_ ?_ <;> (first | rfl | (simp [cloV, cloL, clo, acE_clo, acL_clo, owE_clo, owL_clo, cloL_app]; done))) | (refine rw_rn' rfl rfl ?_; simp; done))))
  have hk' : ¬ k < l4.length := by simpa using h2
  have q4 : eqLs eqMFn l4 m4 = true := eqLs_yes (by omega) fun j p q hj hp hq => hno j p q (by omega) hp hq
  clear hno hN h2 hk'
  repeat' (first | refine awp_seq ?_ | refine awp_block ?_ | refine awp_skip ?_ | refine awp_exit ?_ | refine awp_region0 fun C => ?_ | refine awp_region1 (by kernel_rfl) (by kernel_rfl) fun C => ?_ | refine walk_end ?_ | (refine x_gm ?_ ?_ <;> intro hG <;> (try cases hG)) | refine x_nop ?_ | refine x_bs ?_ | refine x_gr ?_ | refine x_st ?_ | refine x_mv ?_ | refine x_sk ?_ | refine x_sk0 ?_ | refine x_ix ?_ | refine x_ixs ?_ | refine x_sto ?_ | refine x_app ?_ | refine x_app0 ?_ | refine x_ld ?_ | refine x_cal ?_ | (refine awp_cond (by rfl) ?_ ?_ <;> intro hC <;> (try cases hC)))
  refine awp_ret ?_
  refine ret0 (x := .c (.v (.bool true))) rfl clV_v ⟨?_, rfl⟩
  rw [show eqMod _ _ = eqM l0 l1 x2 x3 l4 m0 m1 y2 y3 m4 from rfl, eqM_yes q0 q1 e2 e3 q4]
theorem implSameModule_c {a b : E} (ha : a.Ty Try.prog 95) (hb : b.Ty Try.prog 95) (hsa : a.sz ≤ 1048576) (hsb : b.sz ≤ 1048576) : Ctr Try.prog 66 [.ag (acE a), .ag (acE b)] [] (.c (.v (.bool (eqMod a b)))) [] := by
  obtain ⟨x0A, x0c, l0, x1A, x1c, l1, x2, x3, x4A, x4c, l4, rfl, ⟨a0, ka0⟩, ⟨a1, ka1⟩, -, -, ⟨a4, ka4⟩, -⟩ := shape_impl_Module ha
  obtain ⟨y0A, y0c, m0, y1A, y1c, m1, y2, y3, y4A, y4c, m4, rfl, ⟨b0, kb0⟩, ⟨b1, kb1⟩, -, -, ⟨b4, kb4⟩, -⟩ := shape_impl_Module hb
  simp only [E.sz, E.szL] at hsa hsb
  have c0 := equalVal_c a0 ka0 b0 kb0 (by omega) (by omega)
  have c1 := equalStr_c a1 ka1 b1 kb1 (by omega) (by omega)
  have c4 := equalMFn_c a4 ka4 b4 kb4 (by omega) (by omega) (fun e he => by have := E.szL_mem he; omega) (fun e he => by have := E.szL_mem he; omega)
  refine ctr_of Try.func66 rfl rfl ?_
  repeat' (first | refine awp_seq ?_ | refine awp_block ?_ | refine awp_skip ?_ | refine awp_exit ?_ | refine awp_region0 fun C => ?_ | refine awp_region1 (by kernel_rfl) (by kernel_rfl) fun C => ?_ | refine walk_end ?_ | (refine x_gm ?_ ?_ <;> intro hG <;> (try cases hG)) | refine x_nop ?_ | refine x_bs ?_ | refine x_gr ?_ | refine x_st ?_ | refine x_mv ?_ | refine x_sk ?_ | refine x_sk0 ?_ | refine x_ix ?_ | refine x_ixs ?_ | refine x_sto ?_ | refine x_app ?_ | refine x_app0 ?_ | refine x_ld ?_ | refine x_cal ?_ | (refine awp_cond (by rfl) ?_ ?_ <;> intro hC <;> (try cases hC)))
  all_goals
    refine awp_ret ?_
    refine ret0 rfl clV_v ⟨?_, rfl⟩
    rw [show eqMod _ _ = eqM l0 l1 x2 x3 l4 m0 m1 y2 y3 m4 from rfl]
    unfold eqM
    simp_all
end Go.Proofs.Ytfnnbjkjfoiboaa
