/- Lists compared: slices.Equal, slices.EqualFunc, l18SameCode, sameMFn: by the abstract machine. -/
import Derived.Test.YtfnnbjkjfoiboaaAE
import Derived.Test.YtfnnbjkjfoiboaaFamModule
namespace Go.Proofs.Ytfnnbjkjfoiboaa
open Go.RowKit
set_option maxRecDepth 100000
/-- Lists compared element by element. -/
def eqLs (f : E → E → Bool) : List E → List E → Bool
  | [], [] => true
  | x :: a, y :: b => f x y && eqLs f a b
  | _, _ => false
theorem eqLs_len {f : E → E → Bool} : ∀ {a b : List E}, a.length ≠ b.length → eqLs f a b = false
  | [], [], h => absurd rfl h
  | [], _ :: _, _ => rfl
  | _ :: _, [], _ => rfl
  | x :: a, y :: b, h => by simp only [eqLs]; rw [eqLs_len (by simpa using h), Bool.and_false]
theorem eqLs_no {f : E → E → Bool} : ∀ {a b : List E} {k : Nat} {x y : E}, a[k]? = some x → b[k]? = some y → f x y = false → eqLs f a b = false
  | [], _, _, _, _, h, _, _ => by simp at h
  | _ :: _, [], _, _, _, _, h, _ => by simp at h
  | p :: a, q :: b, 0, x, y, h, h', e => by
    simp only [List.getElem?_cons_zero, Option.some.injEq] at h h'
    subst h h'
    simp only [eqLs, e, Bool.false_and]
  | p :: a, q :: b, k + 1, x, y, h, h', e => by
    simp only [List.getElem?_cons_succ] at h h'
    simp only [eqLs, eqLs_no h h' e, Bool.and_false]
theorem eqLs_yes {f : E → E → Bool} : ∀ {a b : List E}, a.length = b.length → (∀ (j : Nat) x y, j < a.length → a[j]? = some x → b[j]? = some y → f x y = true) → eqLs f a b = true
  | [], [], _, _ => rfl
  | [], _ :: _, h, _ => by simp at h
  | _ :: _, [], h, _ => by simp at h
  | x :: a, y :: b, h, hh => by
    simp only [eqLs, Bool.and_eq_true]
    exact ⟨hh 0 x y (by simp) rfl rfl, eqLs_yes (by simpa using h) fun j p q hj hp hq => hh (j + 1) p q (by simpa using hj) (by simpa using hp) (by simpa using hq)⟩
def eqVal (x y : E) : Bool := match x, y with | .agg [.int _ a0, .int _ a1, .str s0], .agg [.int _ b0, .int _ b1, .str s1] => (a0 == b0) && ((a1 == b1) && (s0.toList == s1.toList)) | _, _ => false
def eqStr (x y : E) : Bool := match x, y with | .str s0, .str s1 => s0.toList == s1.toList | _, _ => false
def eqIns (x y : E) : Bool := match x, y with | .agg [.int _ a0, .int _ a1], .agg [.int _ b0, .int _ b1] => (a0 == b0) && (a1 == b1) | _, _ => false
def eqMFn (x y : E) : Bool := match x, y with | .agg [.int _ p, .lst _ _ _ _ l], .agg [.int _ q, .lst _ _ _ _ m] => (p == q) && eqLs eqIns l m | _, _ => false
set_option maxHeartbeats 600000 in
theorem equalVal_c {la lb : List E} (ha : ∀ e ∈ la, e.Ty Try.prog 35) (hka : ∀ e ∈ la, e.enc.length = 3) (hb : ∀ e ∈ lb, e.Ty Try.prog 35) (hkb : ∀ e ∈ lb, e.enc.length = 3) (hla : la.length ≤ 1073741824) (hlb : lb.length ≤ 1073741824) : Ctr Try.prog 123 [.c (.ro la.length 3 (acL la)), .c (.ro lb.length 3 (acL lb))] [] (.c (.v (.bool (eqLs eqVal la lb)))) [] := by
  refine ctr_of Try.func123 rfl rfl ?_
  repeat (first | refine awp_seq ?_ | refine awp_block ?_ | refine awp_skip ?_ | refine awp_exit ?_ | refine awp_ret ?_ | refine awp_region0 fun C => ?_ | refine awp_region1 (by kernel_rfl) (by kernel_rfl) fun C => ?_ | refine walk_end ?_ | refine x_eqVal ?_ | refine x_neVal ?_ | refine x_eqIns ?_ | refine x_neIns ?_ | refine x_nop ?_ | refine x_bs ?_ | refine x_gr ?_ | refine x_st ?_ | refine x_mv ?_ | refine x_sk ?_ | refine x_sk0 ?_ | refine x_ix ?_ | refine x_ixs ?_ | refine x_sto ?_ | refine x_app ?_ | refine x_app0 ?_ | refine x_ld ?_)
  refine awp_cond (by rfl) (fun h1 => ?_) fun h1 => ?_
  · repeat (first | refine awp_seq ?_ | refine awp_block ?_ | refine awp_skip ?_ | refine awp_exit ?_ | refine awp_ret ?_ | refine awp_region0 fun C => ?_ | refine awp_region1 (by kernel_rfl) (by kernel_rfl) fun C => ?_ | refine walk_end ?_ | refine x_eqVal ?_ | refine x_neVal ?_ | refine x_eqIns ?_ | refine x_neIns ?_ | refine x_nop ?_ | refine x_bs ?_ | refine x_gr ?_ | refine x_st ?_ | refine x_mv ?_ | refine x_sk ?_ | refine x_sk0 ?_ | refine x_ix ?_ | refine x_ixs ?_ | refine x_sto ?_ | refine x_app ?_ | refine x_app0 ?_ | refine x_ld ?_)
    refine ret0 (x := .c (.v (.bool false))) rfl clV_v ⟨?_, rfl⟩
    rw [eqLs_len (by simp at h1; omega)]
  · have hl : la.length = lb.length := by simp at h1; omega
    repeat (first | refine awp_seq ?_ | refine awp_block ?_ | refine awp_skip ?_ | refine awp_exit ?_ | refine awp_ret ?_ | refine awp_region0 fun C => ?_ | refine awp_region1 (by kernel_rfl) (by kernel_rfl) fun C => ?_ | refine walk_end ?_ | refine x_eqVal ?_ | refine x_neVal ?_ | refine x_eqIns ?_ | refine x_neIns ?_ | refine x_nop ?_ | refine x_bs ?_ | refine x_gr ?_ | refine x_st ?_ | refine x_mv ?_ | refine x_sk ?_ | refine x_sk0 ?_ | refine x_ix ?_ | refine x_ixs ?_ | refine x_sto ?_ | refine x_app ?_ | refine x_app0 ?_ | refine x_ld ?_)
    refine awp_loopd (fun k : Nat => ⟨tmsF [(0, .c (.ro la.length 3 (acL la))), (1, .c (.ro lb.length 3 (acL lb))), (12, .c (.v (.int .i64 la.length))), (13, .c (.v (.int .i64 k)))], hpsF [], 0, [], 26⟩)
      (fun N k => k + N = la.length ∧ ∀ j x y, j < k → la[j]? = some x → lb[j]? = some y → eqVal x y = true) la.length 0 ⟨by omega, by omega⟩ ?_ ?_
    · (refine gh_tidy _ _ rfl rfl ?_ ?_ <;> (repeat' (first | exact TmOk.nil | exact RwOk.nil | refine TmOk.cons ?_ ?_ | refine RwOk.cons ?_ ?_ | rfl | (refine rnV_id' rfl ?_; (first | rfl | (simp [cloV, cloL, clo, acE_clo, acL_clo, owE_clo, owL_clo, cloL_app]; done))) | (refine rn_int ?_; first | rfl | omega | (rw [wrap_nat (by omega) (by omega)]; omega)) | (refine rw_same rfl ?_; (first | rfl | (simp [cloV, cloL, clo, acE_clo, acL_clo, owE_clo, owL_clo, cloL_app]; done))) | exact rw_rn rfl rfl | (refine rw_mid (by rfl) (by rfl) ?_ ?_ <;> (first | rfl | (simp [cloV, cloL, clo, acE_clo, acL_clo, owE_clo, owL_clo, cloL_app]; done))) | (refine rw_rn' rfl rfl ?_; simp; done))))
    rintro N k ⟨hN, hno⟩
    repeat (first | refine awp_seq ?_ | refine awp_block ?_ | refine awp_skip ?_ | refine awp_exit ?_ | refine awp_ret ?_ | refine awp_region0 fun C => ?_ | refine awp_region1 (by kernel_rfl) (by kernel_rfl) fun C => ?_ | refine walk_end ?_ | refine x_eqVal ?_ | refine x_neVal ?_ | refine x_eqIns ?_ | refine x_neIns ?_ | refine x_nop ?_ | refine x_bs ?_ | refine x_gr ?_ | refine x_st ?_ | refine x_mv ?_ | refine x_sk ?_ | refine x_sk0 ?_ | refine x_ix ?_ | refine x_ixs ?_ | refine x_sto ?_ | refine x_app ?_ | refine x_app0 ?_ | refine x_ld ?_)
    refine awp_cond (by rfl) (fun h2 => ?_) fun h2 => ?_
    · have hk' : k < la.length := by simpa using h2
      obtain ⟨x, hx⟩ : ∃ x, la[k]? = some x := ⟨_, List.getElem?_eq_getElem hk'⟩
      obtain ⟨y, hy⟩ : ∃ y, lb[k]? = some y := ⟨_, List.getElem?_eq_getElem (by omega)⟩
      obtain ⟨x0, x1, x2, rfl, -⟩ := shape_impl_Val (ha x (List.mem_of_getElem? hx))
      obtain ⟨y0, y1, y2, rfl, -⟩ := shape_impl_Val (hb y (List.mem_of_getElem? hy))
      repeat (first | refine awp_seq ?_ | refine awp_block ?_ | refine awp_skip ?_ | refine awp_exit ?_ | refine awp_ret ?_ | refine awp_region0 fun C => ?_ | refine awp_region1 (by kernel_rfl) (by kernel_rfl) fun C => ?_ | refine walk_end ?_ | refine x_eqVal ?_ | refine x_neVal ?_ | refine x_eqIns ?_ | refine x_neIns ?_ | refine x_nop ?_ | refine x_bs ?_ | refine x_gr ?_ | refine x_st ?_ | refine x_mv ?_ | refine x_sk ?_ | refine x_sk0 ?_ | refine x_ix ?_ | refine x_ixs ?_ | refine x_sto ?_ | refine x_app ?_ | refine x_app0 ?_ | refine x_ld ?_)
      refine awp_cond (by rfl) (fun h3 => ?_) fun h3 => ?_
      · repeat (first | refine awp_seq ?_ | refine awp_block ?_ | refine awp_skip ?_ | refine awp_exit ?_ | refine awp_ret ?_ | refine awp_region0 fun C => ?_ | refine awp_region1 (by kernel_rfl) (by kernel_rfl) fun C => ?_ | refine walk_end ?_ | refine x_eqVal ?_ | refine x_neVal ?_ | refine x_eqIns ?_ | refine x_neIns ?_ | refine x_nop ?_ | refine x_bs ?_ | refine x_gr ?_ | refine x_st ?_ | refine x_mv ?_ | refine x_sk ?_ | refine x_sk0 ?_ | refine x_ix ?_ | refine x_ixs ?_ | refine x_sto ?_ | refine x_app ?_ | refine x_app0 ?_ | refine x_ld ?_)
        refine ret0 (x := .c (.v (.bool false))) rfl clV_v ⟨?_, rfl⟩
        rw [eqLs_no hx hy (by first | exact (Bool.not_eq_true' _).mp h3 | simpa [eqVal] using h3)]
      · repeat (first | refine awp_seq ?_ | refine awp_block ?_ | refine awp_skip ?_ | refine awp_exit ?_ | refine awp_ret ?_ | refine awp_region0 fun C => ?_ | refine awp_region1 (by kernel_rfl) (by kernel_rfl) fun C => ?_ | refine walk_end ?_ | refine x_eqVal ?_ | refine x_neVal ?_ | refine x_eqIns ?_ | refine x_neIns ?_ | refine x_nop ?_ | refine x_bs ?_ | refine x_gr ?_ | refine x_st ?_ | refine x_mv ?_ | refine x_sk ?_ | refine x_sk0 ?_ | refine x_ix ?_ | refine x_ixs ?_ | refine x_sto ?_ | refine x_app ?_ | refine x_app0 ?_ | refine x_ld ?_)
        refine ⟨N - 1, k + 1, by omega, ⟨by omega, fun j p q hj hp hq => ?_⟩, ?_⟩
        · by_cases e : j = k
          · rw [e, hx] at hp; rw [e, hy] at hq; injection hp with hp; injection hq with hq; subst hp hq; simpa [eqVal] using h3
          · exact hno j p q (by omega) hp hq
        · (refine gh_tidy _ _ rfl rfl ?_ ?_ <;> (repeat' (first | exact TmOk.nil | exact RwOk.nil | refine TmOk.cons ?_ ?_ | refine RwOk.cons ?_ ?_ | rfl | (refine rnV_id' rfl ?_; (first | rfl | (simp [cloV, cloL, clo, acE_clo, acL_clo, owE_clo, owL_clo, cloL_app]; done))) | (refine rn_int ?_; first | rfl | omega | (rw [wrap_nat (by omega) (by omega)]; omega)) | (refine rw_same rfl ?_; (first | rfl | (simp [cloV, cloL, clo, acE_clo, acL_clo, owE_clo, owL_clo, cloL_app]; done))) | exact rw_rn rfl rfl | (refine rw_mid (by rfl) (by rfl) ?_ ?_ <;> (first | rfl | (simp [cloV, cloL, clo, acE_clo, acL_clo, owE_clo, owL_clo, cloL_app]; done))) | (refine rw_rn' rfl rfl ?_; simp; done))))
    · have hk' : ¬ k < la.length := by simpa using h2
      repeat (first | refine awp_seq ?_ | refine awp_block ?_ | refine awp_skip ?_ | refine awp_exit ?_ | refine awp_ret ?_ | refine awp_region0 fun C => ?_ | refine awp_region1 (by kernel_rfl) (by kernel_rfl) fun C => ?_ | refine walk_end ?_ | refine x_eqVal ?_ | refine x_neVal ?_ | refine x_eqIns ?_ | refine x_neIns ?_ | refine x_nop ?_ | refine x_bs ?_ | refine x_gr ?_ | refine x_st ?_ | refine x_mv ?_ | refine x_sk ?_ | refine x_sk0 ?_ | refine x_ix ?_ | refine x_ixs ?_ | refine x_sto ?_ | refine x_app ?_ | refine x_app0 ?_ | refine x_ld ?_)
      refine ret0 (x := .c (.v (.bool true))) rfl clV_v ⟨?_, rfl⟩
      rw [eqLs_yes hl fun j x y hj hx hy => hno j x y (by omega) hx hy]
set_option maxHeartbeats 600000 in
theorem equalStr_c {la lb : List E} (ha : ∀ e ∈ la, e.Ty Try.prog 9) (hka : ∀ e ∈ la, e.enc.length = 1) (hb : ∀ e ∈ lb, e.Ty Try.prog 9) (hkb : ∀ e ∈ lb, e.enc.length = 1) (hla : la.length ≤ 1073741824) (hlb : lb.length ≤ 1073741824) : Ctr Try.prog 124 [.c (.ro la.length 1 (acL la)), .c (.ro lb.length 1 (acL lb))] [] (.c (.v (.bool (eqLs eqStr la lb)))) [] := by
  refine ctr_of Try.func124 rfl rfl ?_
  repeat (first | refine awp_seq ?_ | refine awp_block ?_ | refine awp_skip ?_ | refine awp_exit ?_ | refine awp_ret ?_ | refine awp_region0 fun C => ?_ | refine awp_region1 (by kernel_rfl) (by kernel_rfl) fun C => ?_ | refine walk_end ?_ | refine x_eqVal ?_ | refine x_neVal ?_ | refine x_eqIns ?_ | refine x_neIns ?_ | refine x_nop ?_ | refine x_bs ?_ | refine x_gr ?_ | refine x_st ?_ | refine x_mv ?_ | refine x_sk ?_ | refine x_sk0 ?_ | refine x_ix ?_ | refine x_ixs ?_ | refine x_sto ?_ | refine x_app ?_ | refine x_app0 ?_ | refine x_ld ?_)
  refine awp_cond (by rfl) (fun h1 => ?_) fun h1 => ?_
  · repeat (first | refine awp_seq ?_ | refine awp_block ?_ | refine awp_skip ?_ | refine awp_exit ?_ | refine awp_ret ?_ | refine awp_region0 fun C => ?_ | refine awp_region1 (by kernel_rfl) (by kernel_rfl) fun C => ?_ | refine walk_end ?_ | refine x_eqVal ?_ | refine x_neVal ?_ | refine x_eqIns ?_ | refine x_neIns ?_ | refine x_nop ?_ | refine x_bs ?_ | refine x_gr ?_ | refine x_st ?_ | refine x_mv ?_ | refine x_sk ?_ | refine x_sk0 ?_ | refine x_ix ?_ | refine x_ixs ?_ | refine x_sto ?_ | refine x_app ?_ | refine x_app0 ?_ | refine x_ld ?_)
    refine ret0 (x := .c (.v (.bool false))) rfl clV_v ⟨?_, rfl⟩
    rw [eqLs_len (by simp at h1; omega)]
  · have hl : la.length = lb.length := by simp at h1; omega
    repeat (first | refine awp_seq ?_ | refine awp_block ?_ | refine awp_skip ?_ | refine awp_exit ?_ | refine awp_ret ?_ | refine awp_region0 fun C => ?_ | refine awp_region1 (by kernel_rfl) (by kernel_rfl) fun C => ?_ | refine walk_end ?_ | refine x_eqVal ?_ | refine x_neVal ?_ | refine x_eqIns ?_ | refine x_neIns ?_ | refine x_nop ?_ | refine x_bs ?_ | refine x_gr ?_ | refine x_st ?_ | refine x_mv ?_ | refine x_sk ?_ | refine x_sk0 ?_ | refine x_ix ?_ | refine x_ixs ?_ | refine x_sto ?_ | refine x_app ?_ | refine x_app0 ?_ | refine x_ld ?_)
    refine awp_loopd (fun k : Nat => ⟨tmsF [(0, .c (.ro la.length 1 (acL la))), (1, .c (.ro lb.length 1 (acL lb))), (12, .c (.v (.int .i64 la.length))), (13, .c (.v (.int .i64 k)))], hpsF [], 0, [], 26⟩)
      (fun N k => k + N = la.length ∧ ∀ j x y, j < k → la[j]? = some x → lb[j]? = some y → eqStr x y = true) la.length 0 ⟨by omega, by omega⟩ ?_ ?_
    · (refine gh_tidy _ _ rfl rfl ?_ ?_ <;> (repeat' (first | exact TmOk.nil | exact RwOk.nil | refine TmOk.cons ?_ ?_ | refine RwOk.cons ?_ ?_ | rfl | (refine rnV_id' rfl ?_; (first | rfl | (simp [cloV, cloL, clo, acE_clo, acL_clo, owE_clo, owL_clo, cloL_app]; done))) | (refine rn_int ?_; first | rfl | omega | (rw [wrap_nat (by omega) (by omega)]; omega)) | (refine rw_same rfl ?_; (first | rfl | (simp [cloV, cloL, clo, acE_clo, acL_clo, owE_clo, owL_clo, cloL_app]; done))) | exact rw_rn rfl rfl | (refine rw_mid (by rfl) (by rfl) ?_ ?_ <;> (first | rfl | (simp [cloV, cloL, clo, acE_clo, acL_clo, owE_clo, owL_clo, cloL_app]; done))) | (refine rw_rn' rfl rfl ?_; simp; done))))
    rintro N k ⟨hN, hno⟩
    repeat (first | refine awp_seq ?_ | refine awp_block ?_ | refine awp_skip ?_ | refine awp_exit ?_ | refine awp_ret ?_ | refine awp_region0 fun C => ?_ | refine awp_region1 (by kernel_rfl) (by kernel_rfl) fun C => ?_ | refine walk_end ?_ | refine x_eqVal ?_ | refine x_neVal ?_ | refine x_eqIns ?_ | refine x_neIns ?_ | refine x_nop ?_ | refine x_bs ?_ | refine x_gr ?_ | refine x_st ?_ | refine x_mv ?_ | refine x_sk ?_ | refine x_sk0 ?_ | refine x_ix ?_ | refine x_ixs ?_ | refine x_sto ?_ | refine x_app ?_ | refine x_app0 ?_ | refine x_ld ?_)
    refine awp_cond (by rfl) (fun h2 => ?_) fun h2 => ?_
    · have hk' : k < la.length := by simpa using h2
      obtain ⟨x, hx⟩ : ∃ x, la[k]? = some x := ⟨_, List.getElem?_eq_getElem hk'⟩
      obtain ⟨y, hy⟩ : ∃ y, lb[k]? = some y := ⟨_, List.getElem?_eq_getElem (by omega)⟩
      obtain ⟨x0, rfl, xg⟩ := (ha x (List.mem_of_getElem? hx)).str_ Try.underlying9
      obtain ⟨y0, rfl, yg⟩ := (hb y (List.mem_of_getElem? hy)).str_ Try.underlying9
      repeat (first | refine awp_seq ?_ | refine awp_block ?_ | refine awp_skip ?_ | refine awp_exit ?_ | refine awp_ret ?_ | refine awp_region0 fun C => ?_ | refine awp_region1 (by kernel_rfl) (by kernel_rfl) fun C => ?_ | refine walk_end ?_ | refine x_eqVal ?_ | refine x_neVal ?_ | refine x_eqIns ?_ | refine x_neIns ?_ | refine x_nop ?_ | refine x_bs ?_ | refine x_gr ?_ | refine x_st ?_ | refine x_mv ?_ | refine x_sk ?_ | refine x_sk0 ?_ | refine x_ix ?_ | refine x_ixs ?_ | refine x_sto ?_ | refine x_app ?_ | refine x_app0 ?_ | refine x_ld ?_)
      refine awp_cond (by rfl) (fun h3 => ?_) fun h3 => ?_
      · repeat (first | refine awp_seq ?_ | refine awp_block ?_ | refine awp_skip ?_ | refine awp_exit ?_ | refine awp_ret ?_ | refine awp_region0 fun C => ?_ | refine awp_region1 (by kernel_rfl) (by kernel_rfl) fun C => ?_ | refine walk_end ?_ | refine x_eqVal ?_ | refine x_neVal ?_ | refine x_eqIns ?_ | refine x_neIns ?_ | refine x_nop ?_ | refine x_bs ?_ | refine x_gr ?_ | refine x_st ?_ | refine x_mv ?_ | refine x_sk ?_ | refine x_sk0 ?_ | refine x_ix ?_ | refine x_ixs ?_ | refine x_sto ?_ | refine x_app ?_ | refine x_app0 ?_ | refine x_ld ?_)
        refine ret0 (x := .c (.v (.bool false))) rfl clV_v ⟨?_, rfl⟩
        rw [eqLs_no hx hy (by first | exact (Bool.not_eq_true' _).mp h3 | simpa [eqStr] using h3)]
      · repeat (first | refine awp_seq ?_ | refine awp_block ?_ | refine awp_skip ?_ | refine awp_exit ?_ | refine awp_ret ?_ | refine awp_region0 fun C => ?_ | refine awp_region1 (by kernel_rfl) (by kernel_rfl) fun C => ?_ | refine walk_end ?_ | refine x_eqVal ?_ | refine x_neVal ?_ | refine x_eqIns ?_ | refine x_neIns ?_ | refine x_nop ?_ | refine x_bs ?_ | refine x_gr ?_ | refine x_st ?_ | refine x_mv ?_ | refine x_sk ?_ | refine x_sk0 ?_ | refine x_ix ?_ | refine x_ixs ?_ | refine x_sto ?_ | refine x_app ?_ | refine x_app0 ?_ | refine x_ld ?_)
        refine ⟨N - 1, k + 1, by omega, ⟨by omega, fun j p q hj hp hq => ?_⟩, ?_⟩
        · by_cases e : j = k
          · rw [e, hx] at hp; rw [e, hy] at hq; injection hp with hp; injection hq with hq; subst hp hq; simpa [eqStr] using h3
          · exact hno j p q (by omega) hp hq
        · (refine gh_tidy _ _ rfl rfl ?_ ?_ <;> (repeat' (first | exact TmOk.nil | exact RwOk.nil | refine TmOk.cons ?_ ?_ | refine RwOk.cons ?_ ?_ | rfl | (refine rnV_id' rfl ?_; (first | rfl | (simp [cloV, cloL, clo, acE_clo, acL_clo, owE_clo, owL_clo, cloL_app]; done))) | (refine rn_int ?_; first | rfl | omega | (rw [wrap_nat (by omega) (by omega)]; omega)) | (refine rw_same rfl ?_; (first | rfl | (simp [cloV, cloL, clo, acE_clo, acL_clo, owE_clo, owL_clo, cloL_app]; done))) | exact rw_rn rfl rfl | (refine rw_mid (by rfl) (by rfl) ?_ ?_ <;> (first | rfl | (simp [cloV, cloL, clo, acE_clo, acL_clo, owE_clo, owL_clo, cloL_app]; done))) | (refine rw_rn' rfl rfl ?_; simp; done))))
    · have hk' : ¬ k < la.length := by simpa using h2
      repeat (first | refine awp_seq ?_ | refine awp_block ?_ | refine awp_skip ?_ | refine awp_exit ?_ | refine awp_ret ?_ | refine awp_region0 fun C => ?_ | refine awp_region1 (by kernel_rfl) (by kernel_rfl) fun C => ?_ | refine walk_end ?_ | refine x_eqVal ?_ | refine x_neVal ?_ | refine x_eqIns ?_ | refine x_neIns ?_ | refine x_nop ?_ | refine x_bs ?_ | refine x_gr ?_ | refine x_st ?_ | refine x_mv ?_ | refine x_sk ?_ | refine x_sk0 ?_ | refine x_ix ?_ | refine x_ixs ?_ | refine x_sto ?_ | refine x_app ?_ | refine x_app0 ?_ | refine x_ld ?_)
      refine ret0 (x := .c (.v (.bool true))) rfl clV_v ⟨?_, rfl⟩
      rw [eqLs_yes hl fun j x y hj hx hy => hno j x y (by omega) hx hy]
set_option maxHeartbeats 600000 in
theorem equalIns_c {la lb : List E} (ha : ∀ e ∈ la, e.Ty Try.prog 191) (hka : ∀ e ∈ la, e.enc.length = 2) (hb : ∀ e ∈ lb, e.Ty Try.prog 191) (hkb : ∀ e ∈ lb, e.enc.length = 2) (hla : la.length ≤ 1073741824) (hlb : lb.length ≤ 1073741824) : Ctr Try.prog 163 [.c (.ro la.length 2 (acL la)), .c (.ro lb.length 2 (acL lb))] [] (.c (.v (.bool (eqLs eqIns la lb)))) [] := by
  refine ctr_of Try.func163 rfl rfl ?_
  repeat (first | refine awp_seq ?_ | refine awp_block ?_ | refine awp_skip ?_ | refine awp_exit ?_ | refine awp_ret ?_ | refine awp_region0 fun C => ?_ | refine awp_region1 (by kernel_rfl) (by kernel_rfl) fun C => ?_ | refine walk_end ?_ | refine x_eqVal ?_ | refine x_neVal ?_ | refine x_eqIns ?_ | refine x_neIns ?_ | refine x_nop ?_ | refine x_bs ?_ | refine x_gr ?_ | refine x_st ?_ | refine x_mv ?_ | refine x_sk ?_ | refine x_sk0 ?_ | refine x_ix ?_ | refine x_ixs ?_ | refine x_sto ?_ | refine x_app ?_ | refine x_app0 ?_ | refine x_ld ?_)
  refine awp_cond (by rfl) (fun h1 => ?_) fun h1 => ?_
  · repeat (first | refine awp_seq ?_ | refine awp_block ?_ | refine awp_skip ?_ | refine awp_exit ?_ | refine awp_ret ?_ | refine awp_region0 fun C => ?_ | refine awp_region1 (by kernel_rfl) (by kernel_rfl) fun C => ?_ | refine walk_end ?_ | refine x_eqVal ?_ | refine x_neVal ?_ | refine x_eqIns ?_ | refine x_neIns ?_ | refine x_nop ?_ | refine x_bs ?_ | refine x_gr ?_ | refine x_st ?_ | refine x_mv ?_ | refine x_sk ?_ | refine x_sk0 ?_ | refine x_ix ?_ | refine x_ixs ?_ | refine x_sto ?_ | refine x_app ?_ | refine x_app0 ?_ | refine x_ld ?_)
    refine ret0 (x := .c (.v (.bool false))) rfl clV_v ⟨?_, rfl⟩
    rw [eqLs_len (by simp at h1; omega)]
  · have hl : la.length = lb.length := by simp at h1; omega
    repeat (first | refine awp_seq ?_ | refine awp_block ?_ | refine awp_skip ?_ | refine awp_exit ?_ | refine awp_ret ?_ | refine awp_region0 fun C => ?_ | refine awp_region1 (by kernel_rfl) (by kernel_rfl) fun C => ?_ | refine walk_end ?_ | refine x_eqVal ?_ | refine x_neVal ?_ | refine x_eqIns ?_ | refine x_neIns ?_ | refine x_nop ?_ | refine x_bs ?_ | refine x_gr ?_ | refine x_st ?_ | refine x_mv ?_ | refine x_sk ?_ | refine x_sk0 ?_ | refine x_ix ?_ | refine x_ixs ?_ | refine x_sto ?_ | refine x_app ?_ | refine x_app0 ?_ | refine x_ld ?_)
    refine awp_loopd (fun k : Nat => ⟨tmsF [(0, .c (.ro la.length 2 (acL la))), (1, .c (.ro lb.length 2 (acL lb))), (12, .c (.v (.int .i64 la.length))), (13, .c (.v (.int .i64 k)))], hpsF [], 0, [], 26⟩)
      (fun N k => k + N = la.length ∧ ∀ j x y, j < k → la[j]? = some x → lb[j]? = some y → eqIns x y = true) la.length 0 ⟨by omega, by omega⟩ ?_ ?_
    · (refine gh_tidy _ _ rfl rfl ?_ ?_ <;> (repeat' (first | exact TmOk.nil | exact RwOk.nil | refine TmOk.cons ?_ ?_ | refine RwOk.cons ?_ ?_ | rfl | (refine rnV_id' rfl ?_; (first | rfl | (simp [cloV, cloL, clo, acE_clo, acL_clo, owE_clo, owL_clo, cloL_app]; done))) | (refine rn_int ?_; first | rfl | omega | (rw [wrap_nat (by omega) (by omega)]; omega)) | (refine rw_same rfl ?_; (first | rfl | (simp [cloV, cloL, clo, acE_clo, acL_clo, owE_clo, owL_clo, cloL_app]; done))) | exact rw_rn rfl rfl | (refine rw_mid (by rfl) (by rfl) ?_ ?_ <;> (first | rfl | (simp [cloV, cloL, clo, acE_clo, acL_clo, owE_clo, owL_clo, cloL_app]; done))) | (refine rw_rn' rfl rfl ?_; simp; done))))
    rintro N k ⟨hN, hno⟩
    repeat (first | refine awp_seq ?_ | refine awp_block ?_ | refine awp_skip ?_ | refine awp_exit ?_ | refine awp_ret ?_ | refine awp_region0 fun C => ?_ | refine awp_region1 (by kernel_rfl) (by kernel_rfl) fun C => ?_ | refine walk_end ?_ | refine x_eqVal ?_ | refine x_neVal ?_ | refine x_eqIns ?_ | refine x_neIns ?_ | refine x_nop ?_ | refine x_bs ?_ | refine x_gr ?_ | refine x_st ?_ | refine x_mv ?_ | refine x_sk ?_ | refine x_sk0 ?_ | refine x_ix ?_ | refine x_ixs ?_ | refine x_sto ?_ | refine x_app ?_ | refine x_app0 ?_ | refine x_ld ?_)
    refine awp_cond (by rfl) (fun h2 => ?_) fun h2 => ?_
    · have hk' : k < la.length := by simpa using h2
      obtain ⟨x, hx⟩ : ∃ x, la[k]? = some x := ⟨_, List.getElem?_eq_getElem hk'⟩
      obtain ⟨y, hy⟩ : ∃ y, lb[k]? = some y := ⟨_, List.getElem?_eq_getElem (by omega)⟩
      obtain ⟨x0, x1, rfl, -⟩ := shape_impl_Ins (ha x (List.mem_of_getElem? hx))
      obtain ⟨y0, y1, rfl, -⟩ := shape_impl_Ins (hb y (List.mem_of_getElem? hy))
      repeat (first | refine awp_seq ?_ | refine awp_block ?_ | refine awp_skip ?_ | refine awp_exit ?_ | refine awp_ret ?_ | refine awp_region0 fun C => ?_ | refine awp_region1 (by kernel_rfl) (by kernel_rfl) fun C => ?_ | refine walk_end ?_ | refine x_eqVal ?_ | refine x_neVal ?_ | refine x_eqIns ?_ | refine x_neIns ?_ | refine x_nop ?_ | refine x_bs ?_ | refine x_gr ?_ | refine x_st ?_ | refine x_mv ?_ | refine x_sk ?_ | refine x_sk0 ?_ | refine x_ix ?_ | refine x_ixs ?_ | refine x_sto ?_ | refine x_app ?_ | refine x_app0 ?_ | refine x_ld ?_)
      refine awp_cond (by rfl) (fun h3 => ?_) fun h3 => ?_
      · repeat (first | refine awp_seq ?_ | refine awp_block ?_ | refine awp_skip ?_ | refine awp_exit ?_ | refine awp_ret ?_ | refine awp_region0 fun C => ?_ | refine awp_region1 (by kernel_rfl) (by kernel_rfl) fun C => ?_ | refine walk_end ?_ | refine x_eqVal ?_ | refine x_neVal ?_ | refine x_eqIns ?_ | refine x_neIns ?_ | refine x_nop ?_ | refine x_bs ?_ | refine x_gr ?_ | refine x_st ?_ | refine x_mv ?_ | refine x_sk ?_ | refine x_sk0 ?_ | refine x_ix ?_ | refine x_ixs ?_ | refine x_sto ?_ | refine x_app ?_ | refine x_app0 ?_ | refine x_ld ?_)
        refine ret0 (x := .c (.v (.bool false))) rfl clV_v ⟨?_, rfl⟩
        rw [eqLs_no hx hy (by first | exact (Bool.not_eq_true' _).mp h3 | simpa [eqIns] using h3)]
      · repeat (first | refine awp_seq ?_ | refine awp_block ?_ | refine awp_skip ?_ | refine awp_exit ?_ | refine awp_ret ?_ | refine awp_region0 fun C => ?_ | refine awp_region1 (by kernel_rfl) (by kernel_rfl) fun C => ?_ | refine walk_end ?_ | refine x_eqVal ?_ | refine x_neVal ?_ | refine x_eqIns ?_ | refine x_neIns ?_ | refine x_nop ?_ | refine x_bs ?_ | refine x_gr ?_ | refine x_st ?_ | refine x_mv ?_ | refine x_sk ?_ | refine x_sk0 ?_ | refine x_ix ?_ | refine x_ixs ?_ | refine x_sto ?_ | refine x_app ?_ | refine x_app0 ?_ | refine x_ld ?_)
        refine ⟨N - 1, k + 1, by omega, ⟨by omega, fun j p q hj hp hq => ?_⟩, ?_⟩
        · by_cases e : j = k
          · rw [e, hx] at hp; rw [e, hy] at hq; injection hp with hp; injection hq with hq; subst hp hq; simpa [eqIns] using h3
          · exact hno j p q (by omega) hp hq
        · (refine gh_tidy _ _ rfl rfl ?_ ?_ <;> (repeat' (first | exact TmOk.nil | exact RwOk.nil | refine TmOk.cons ?_ ?_ | refine RwOk.cons ?_ ?_ | rfl | (refine rnV_id' rfl ?_; (first | rfl | (simp [cloV, cloL, clo, acE_clo, acL_clo, owE_clo, owL_clo, cloL_app]; done))) | (refine rn_int ?_; first | rfl | omega | (rw [wrap_nat (by omega) (by omega)]; omega)) | (refine rw_same rfl ?_; (first | rfl | (simp [cloV, cloL, clo, acE_clo, acL_clo, owE_clo, owL_clo, cloL_app]; done))) | exact rw_rn rfl rfl | (refine rw_mid (by rfl) (by rfl) ?_ ?_ <;> (first | rfl | (simp [cloV, cloL, clo, acE_clo, acL_clo, owE_clo, owL_clo, cloL_app]; done))) | (refine rw_rn' rfl rfl ?_; simp; done))))
    · have hk' : ¬ k < la.length := by simpa using h2
      repeat (first | refine awp_seq ?_ | refine awp_block ?_ | refine awp_skip ?_ | refine awp_exit ?_ | refine awp_ret ?_ | refine awp_region0 fun C => ?_ | refine awp_region1 (by kernel_rfl) (by kernel_rfl) fun C => ?_ | refine walk_end ?_ | refine x_eqVal ?_ | refine x_neVal ?_ | refine x_eqIns ?_ | refine x_neIns ?_ | refine x_nop ?_ | refine x_bs ?_ | refine x_gr ?_ | refine x_st ?_ | refine x_mv ?_ | refine x_sk ?_ | refine x_sk0 ?_ | refine x_ix ?_ | refine x_ixs ?_ | refine x_sto ?_ | refine x_app ?_ | refine x_app0 ?_ | refine x_ld ?_)
      refine ret0 (x := .c (.v (.bool true))) rfl clV_v ⟨?_, rfl⟩
      rw [eqLs_yes hl fun j x y hj hx hy => hno j x y (by omega) hx hy]
set_option maxHeartbeats 600000 in
theorem sameCode_c {la lb : List E} (ha : ∀ e ∈ la, e.Ty Try.prog 191) (hka : ∀ e ∈ la, e.enc.length = 2) (hb : ∀ e ∈ lb, e.Ty Try.prog 191) (hkb : ∀ e ∈ lb, e.enc.length = 2) (hla : la.length ≤ 1073741824) (hlb : lb.length ≤ 1073741824) : Ctr Try.prog 119 [.c (.ro la.length 2 (acL la)), .c (.ro lb.length 2 (acL lb))] [] (.c (.v (.bool (eqLs eqIns la lb)))) [] := by
  refine ctr_of Try.func119 rfl rfl ?_
  repeat (first | refine awp_seq ?_ | refine awp_block ?_ | refine awp_skip ?_ | refine awp_exit ?_ | refine awp_ret ?_ | refine awp_region0 fun C => ?_ | refine awp_region1 (by kernel_rfl) (by kernel_rfl) fun C => ?_ | refine walk_end ?_ | refine x_eqVal ?_ | refine x_neVal ?_ | refine x_eqIns ?_ | refine x_neIns ?_ | refine x_nop ?_ | refine x_bs ?_ | refine x_gr ?_ | refine x_st ?_ | refine x_mv ?_ | refine x_sk ?_ | refine x_sk0 ?_ | refine x_ix ?_ | refine x_ixs ?_ | refine x_sto ?_ | refine x_app ?_ | refine x_app0 ?_ | refine x_ld ?_)
  refine awp_cond (by rfl) (fun h1 => ?_) fun h1 => ?_
  · repeat (first | refine awp_seq ?_ | refine awp_block ?_ | refine awp_skip ?_ | refine awp_exit ?_ | refine awp_ret ?_ | refine awp_region0 fun C => ?_ | refine awp_region1 (by kernel_rfl) (by kernel_rfl) fun C => ?_ | refine walk_end ?_ | refine x_eqVal ?_ | refine x_neVal ?_ | refine x_eqIns ?_ | refine x_neIns ?_ | refine x_nop ?_ | refine x_bs ?_ | refine x_gr ?_ | refine x_st ?_ | refine x_mv ?_ | refine x_sk ?_ | refine x_sk0 ?_ | refine x_ix ?_ | refine x_ixs ?_ | refine x_sto ?_ | refine x_app ?_ | refine x_app0 ?_ | refine x_ld ?_)
    refine ret0 (x := .c (.v (.bool false))) rfl clV_v ⟨?_, rfl⟩
    rw [eqLs_len (by simp at h1; omega)]
  · have hl : la.length = lb.length := by simp at h1; omega
    repeat (first | refine awp_seq ?_ | refine awp_block ?_ | refine awp_skip ?_ | refine awp_exit ?_ | refine awp_ret ?_ | refine awp_region0 fun C => ?_ | refine awp_region1 (by kernel_rfl) (by kernel_rfl) fun C => ?_ | refine walk_end ?_ | refine x_eqVal ?_ | refine x_neVal ?_ | refine x_eqIns ?_ | refine x_neIns ?_ | refine x_nop ?_ | refine x_bs ?_ | refine x_gr ?_ | refine x_st ?_ | refine x_mv ?_ | refine x_sk ?_ | refine x_sk0 ?_ | refine x_ix ?_ | refine x_ixs ?_ | refine x_sto ?_ | refine x_app ?_ | refine x_app0 ?_ | refine x_ld ?_)
    refine awp_loopd (fun k : Nat => ⟨tmsF [(0, .c (.ro la.length 2 (acL la))), (1, .c (.ro lb.length 2 (acL lb))), (5, .c (.v (.int .i64 k)))], hpsF [], 0, [], 26⟩)
      (fun N k => k + N = la.length ∧ ∀ j x y, j < k → la[j]? = some x → lb[j]? = some y → eqIns x y = true) la.length 0 ⟨by omega, by omega⟩ ?_ ?_
    · (refine gh_tidy _ _ rfl rfl ?_ ?_ <;> (repeat' (first | exact TmOk.nil | exact RwOk.nil | refine TmOk.cons ?_ ?_ | refine RwOk.cons ?_ ?_ | rfl | (refine rnV_id' rfl ?_; (first | rfl | (simp [cloV, cloL, clo, acE_clo, acL_clo, owE_clo, owL_clo, cloL_app]; done))) | (refine rn_int ?_; first | rfl | omega | (rw [wrap_nat (by omega) (by omega)]; omega)) | (refine rw_same rfl ?_; (first | rfl | (simp [cloV, cloL, clo, acE_clo, acL_clo, owE_clo, owL_clo, cloL_app]; done))) | exact rw_rn rfl rfl | (refine rw_mid (by rfl) (by rfl) ?_ ?_ <;> (first | rfl | (simp [cloV, cloL, clo, acE_clo, acL_clo, owE_clo, owL_clo, cloL_app]; done))) | (refine rw_rn' rfl rfl ?_; simp; done))))
    rintro N k ⟨hN, hno⟩
    repeat (first | refine awp_seq ?_ | refine awp_block ?_ | refine awp_skip ?_ | refine awp_exit ?_ | refine awp_ret ?_ | refine awp_region0 fun C => ?_ | refine awp_region1 (by kernel_rfl) (by kernel_rfl) fun C => ?_ | refine walk_end ?_ | refine x_eqVal ?_ | refine x_neVal ?_ | refine x_eqIns ?_ | refine x_neIns ?_ | refine x_nop ?_ | refine x_bs ?_ | refine x_gr ?_ | refine x_st ?_ | refine x_mv ?_ | refine x_sk ?_ | refine x_sk0 ?_ | refine x_ix ?_ | refine x_ixs ?_ | refine x_sto ?_ | refine x_app ?_ | refine x_app0 ?_ | refine x_ld ?_)
    refine awp_cond (by rfl) (fun h2 => ?_) fun h2 => ?_
    · have hk' : k < la.length := by simpa using h2
      obtain ⟨x, hx⟩ : ∃ x, la[k]? = some x := ⟨_, List.getElem?_eq_getElem hk'⟩
      obtain ⟨y, hy⟩ : ∃ y, lb[k]? = some y := ⟨_, List.getElem?_eq_getElem (by omega)⟩
      obtain ⟨x0, x1, rfl, -⟩ := shape_impl_Ins (ha x (List.mem_of_getElem? hx))
      obtain ⟨y0, y1, rfl, -⟩ := shape_impl_Ins (hb y (List.mem_of_getElem? hy))
      repeat (first | refine awp_seq ?_ | refine awp_block ?_ | refine awp_skip ?_ | refine awp_exit ?_ | refine awp_ret ?_ | refine awp_region0 fun C => ?_ | refine awp_region1 (by kernel_rfl) (by kernel_rfl) fun C => ?_ | refine walk_end ?_ | refine x_eqVal ?_ | refine x_neVal ?_ | refine x_eqIns ?_ | refine x_neIns ?_ | refine x_nop ?_ | refine x_bs ?_ | refine x_gr ?_ | refine x_st ?_ | refine x_mv ?_ | refine x_sk ?_ | refine x_sk0 ?_ | refine x_ix ?_ | refine x_ixs ?_ | refine x_sto ?_ | refine x_app ?_ | refine x_app0 ?_ | refine x_ld ?_)
      refine awp_cond (by rfl) (fun h3 => ?_) fun h3 => ?_
      · repeat (first | refine awp_seq ?_ | refine awp_block ?_ | refine awp_skip ?_ | refine awp_exit ?_ | refine awp_ret ?_ | refine awp_region0 fun C => ?_ | refine awp_region1 (by kernel_rfl) (by kernel_rfl) fun C => ?_ | refine walk_end ?_ | refine x_eqVal ?_ | refine x_neVal ?_ | refine x_eqIns ?_ | refine x_neIns ?_ | refine x_nop ?_ | refine x_bs ?_ | refine x_gr ?_ | refine x_st ?_ | refine x_mv ?_ | refine x_sk ?_ | refine x_sk0 ?_ | refine x_ix ?_ | refine x_ixs ?_ | refine x_sto ?_ | refine x_app ?_ | refine x_app0 ?_ | refine x_ld ?_)
        refine ret0 (x := .c (.v (.bool false))) rfl clV_v ⟨?_, rfl⟩
        rw [eqLs_no hx hy (by first | exact (Bool.not_eq_true' _).mp h3 | simpa [eqIns] using h3)]
      · repeat (first | refine awp_seq ?_ | refine awp_block ?_ | refine awp_skip ?_ | refine awp_exit ?_ | refine awp_ret ?_ | refine awp_region0 fun C => ?_ | refine awp_region1 (by kernel_rfl) (by kernel_rfl) fun C => ?_ | refine walk_end ?_ | refine x_eqVal ?_ | refine x_neVal ?_ | refine x_eqIns ?_ | refine x_neIns ?_ | refine x_nop ?_ | refine x_bs ?_ | refine x_gr ?_ | refine x_st ?_ | refine x_mv ?_ | refine x_sk ?_ | refine x_sk0 ?_ | refine x_ix ?_ | refine x_ixs ?_ | refine x_sto ?_ | refine x_app ?_ | refine x_app0 ?_ | refine x_ld ?_)
        refine ⟨N - 1, k + 1, by omega, ⟨by omega, fun j p q hj hp hq => ?_⟩, ?_⟩
        · by_cases e : j = k
          · rw [e, hx] at hp; rw [e, hy] at hq; injection hp with hp; injection hq with hq; subst hp hq; simpa [eqIns] using h3
          · exact hno j p q (by omega) hp hq
        · (refine gh_tidy _ _ rfl rfl ?_ ?_ <;> (repeat' (first | exact TmOk.nil | exact RwOk.nil | refine TmOk.cons ?_ ?_ | refine RwOk.cons ?_ ?_ | rfl | (refine rnV_id' rfl ?_; (first | rfl | (simp [cloV, cloL, clo, acE_clo, acL_clo, owE_clo, owL_clo, cloL_app]; done))) | (refine rn_int ?_; first | rfl | omega | (rw [wrap_nat (by omega) (by omega)]; omega)) | (refine rw_same rfl ?_; (first | rfl | (simp [cloV, cloL, clo, acE_clo, acL_clo, owE_clo, owL_clo, cloL_app]; done))) | exact rw_rn rfl rfl | (refine rw_mid (by rfl) (by rfl) ?_ ?_ <;> (first | rfl | (simp [cloV, cloL, clo, acE_clo, acL_clo, owE_clo, owL_clo, cloL_app]; done))) | (refine rw_rn' rfl rfl ?_; simp; done))))
    · have hk' : ¬ k < la.length := by simpa using h2
      repeat (first | refine awp_seq ?_ | refine awp_block ?_ | refine awp_skip ?_ | refine awp_exit ?_ | refine awp_ret ?_ | refine awp_region0 fun C => ?_ | refine awp_region1 (by kernel_rfl) (by kernel_rfl) fun C => ?_ | refine walk_end ?_ | refine x_eqVal ?_ | refine x_neVal ?_ | refine x_eqIns ?_ | refine x_neIns ?_ | refine x_nop ?_ | refine x_bs ?_ | refine x_gr ?_ | refine x_st ?_ | refine x_mv ?_ | refine x_sk ?_ | refine x_sk0 ?_ | refine x_ix ?_ | refine x_ixs ?_ | refine x_sto ?_ | refine x_app ?_ | refine x_app0 ?_ | refine x_ld ?_)
      refine ret0 (x := .c (.v (.bool true))) rfl clV_v ⟨?_, rfl⟩
      rw [eqLs_yes hl fun j x y hj hx hy => hno j x y (by omega) hx hy]
theorem sameMFn_c {x y : E} (hx : x.Ty Try.prog 144) (hy : y.Ty Try.prog 144) (hsx : x.sz ≤ 1048576) (hsy : y.sz ≤ 1048576) : Ctr Try.prog 126 [.ag (acE x), .ag (acE y)] [] (.c (.v (.bool (eqMFn x y)))) [] := by
  obtain ⟨p, aA, ac, a, rfl, gp, ⟨ha, hka⟩, -⟩ := shape_impl_MFn hx
  obtain ⟨q, bA, bc, b, rfl, gq, ⟨hb, hkb⟩, -⟩ := shape_impl_MFn hy
  have hla : a.length ≤ 1073741824 := by simp only [E.sz, E.szL] at hsx; omega
  have hlb : b.length ≤ 1073741824 := by simp only [E.sz, E.szL] at hsy; omega
  have hc := equalIns_c ha hka hb hkb hla hlb
  refine ctr_of Try.func126 rfl rfl ?_
  repeat (first | refine awp_seq ?_ | refine awp_block ?_ | refine awp_skip ?_ | refine awp_exit ?_ | refine awp_ret ?_ | refine awp_region0 fun C => ?_ | refine awp_region1 (by kernel_rfl) (by kernel_rfl) fun C => ?_ | refine walk_end ?_ | refine x_nop ?_ | refine x_bs ?_ | refine x_gr ?_ | refine x_st ?_ | refine x_mv ?_ | refine x_sk ?_ | refine x_sk0 ?_ | refine x_ix ?_ | refine x_ixs ?_ | refine x_sto ?_ | refine x_app ?_ | refine x_app0 ?_ | refine x_ld ?_)
  cases h1 : (p == q)
  · repeat (first | refine awp_seq ?_ | refine awp_block ?_ | refine awp_skip ?_ | refine awp_exit ?_ | refine awp_ret ?_ | refine awp_region0 fun C => ?_ | refine awp_region1 (by kernel_rfl) (by kernel_rfl) fun C => ?_ | refine walk_end ?_ | refine x_nop ?_ | refine x_bs ?_ | refine x_gr ?_ | refine x_st ?_ | refine x_mv ?_ | refine x_sk ?_ | refine x_sk0 ?_ | refine x_ix ?_ | refine x_ixs ?_ | refine x_sto ?_ | refine x_app ?_ | refine x_app0 ?_ | refine x_ld ?_)
    refine ret0 (x := .c (.v (.bool false))) rfl clV_v ⟨?_, rfl⟩
    simp [eqMFn, h1]
  · repeat (first | refine awp_seq ?_ | refine awp_block ?_ | refine awp_skip ?_ | refine awp_exit ?_ | refine awp_ret ?_ | refine awp_region0 fun C => ?_ | refine awp_region1 (by kernel_rfl) (by kernel_rfl) fun C => ?_ | refine walk_end ?_ | refine x_nop ?_ | refine x_bs ?_ | refine x_gr ?_ | refine x_st ?_ | refine x_mv ?_ | refine x_sk ?_ | refine x_sk0 ?_ | refine x_ix ?_ | refine x_ixs ?_ | refine x_sto ?_ | refine x_app ?_ | refine x_app0 ?_ | refine x_ld ?_)
    refine x_call 100 hc ?_
    repeat (first | refine awp_seq ?_ | refine awp_block ?_ | refine awp_skip ?_ | refine awp_exit ?_ | refine awp_ret ?_ | refine awp_region0 fun C => ?_ | refine awp_region1 (by kernel_rfl) (by kernel_rfl) fun C => ?_ | refine walk_end ?_ | refine x_nop ?_ | refine x_bs ?_ | refine x_gr ?_ | refine x_st ?_ | refine x_mv ?_ | refine x_sk ?_ | refine x_sk0 ?_ | refine x_ix ?_ | refine x_ixs ?_ | refine x_sto ?_ | refine x_app ?_ | refine x_app0 ?_ | refine x_ld ?_)
    refine ret0 (x := .c (.v (.bool (eqLs eqIns a b)))) rfl clV_v ⟨?_, rfl⟩
    simp [eqMFn, h1]
theorem equalMFn_c {la lb : List E} (ha : ∀ e ∈ la, e.Ty Try.prog 144) (hka : ∀ e ∈ la, e.enc.length = 2) (hb : ∀ e ∈ lb, e.Ty Try.prog 144) (hkb : ∀ e ∈ lb, e.enc.length = 2) (hla : la.length ≤ 1073741824) (hlb : lb.length ≤ 1073741824) (hsa : ∀ e ∈ la, e.sz ≤ 1048576) (hsb : ∀ e ∈ lb, e.sz ≤ 1048576) : Ctr Try.prog 125 [.c (.ro la.length 2 (acL la)), .c (.ro lb.length 2 (acL lb)), .c (.fn 126 [])] [] (.c (.v (.bool (eqLs eqMFn la lb)))) [] := by
  refine ctr_of Try.func125 rfl rfl ?_
  repeat (first | refine awp_seq ?_ | refine awp_block ?_ | refine awp_skip ?_ | refine awp_exit ?_ | refine awp_ret ?_ | refine awp_region0 fun C => ?_ | refine awp_region1 (by kernel_rfl) (by kernel_rfl) fun C => ?_ | refine walk_end ?_ | refine x_nop ?_ | refine x_bs ?_ | refine x_gr ?_ | refine x_st ?_ | refine x_mv ?_ | refine x_sk ?_ | refine x_sk0 ?_ | refine x_ix ?_ | refine x_ixs ?_ | refine x_sto ?_ | refine x_app ?_ | refine x_app0 ?_ | refine x_ld ?_)
  refine awp_cond (by rfl) (fun h1 => ?_) fun h1 => ?_
  · repeat (first | refine awp_seq ?_ | refine awp_block ?_ | refine awp_skip ?_ | refine awp_exit ?_ | refine awp_ret ?_ | refine awp_region0 fun C => ?_ | refine awp_region1 (by kernel_rfl) (by kernel_rfl) fun C => ?_ | refine walk_end ?_ | refine x_nop ?_ | refine x_bs ?_ | refine x_gr ?_ | refine x_st ?_ | refine x_mv ?_ | refine x_sk ?_ | refine x_sk0 ?_ | refine x_ix ?_ | refine x_ixs ?_ | refine x_sto ?_ | refine x_app ?_ | refine x_app0 ?_ | refine x_ld ?_)
    refine ret0 (x := .c (.v (.bool false))) rfl clV_v ⟨?_, rfl⟩
    rw [eqLs_len (by simp at h1; omega)]
  · have hl : la.length = lb.length := by simp at h1; omega
    repeat (first | refine awp_seq ?_ | refine awp_block ?_ | refine awp_skip ?_ | refine awp_exit ?_ | refine awp_ret ?_ | refine awp_region0 fun C => ?_ | refine awp_region1 (by kernel_rfl) (by kernel_rfl) fun C => ?_ | refine walk_end ?_ | refine x_nop ?_ | refine x_bs ?_ | refine x_gr ?_ | refine x_st ?_ | refine x_mv ?_ | refine x_sk ?_ | refine x_sk0 ?_ | refine x_ix ?_ | refine x_ixs ?_ | refine x_sto ?_ | refine x_app ?_ | refine x_app0 ?_ | refine x_ld ?_)
    refine awp_loopd (fun k : Nat => ⟨tmsF [(1, .c (.ro lb.length 2 (acL lb))), (2, .c (.fn 126 [])), (15, .c (.ro la.length 2 (acL la))), (16, .c (.v (.int .i64 la.length))), (17, .c (.v (.int .i64 k)))], hpsF [], 0, [], 32⟩)
      (fun N k => k + N = la.length ∧ ∀ j x y, j < k → la[j]? = some x → lb[j]? = some y → eqMFn x y = true) la.length 0 ⟨by omega, by omega⟩ ?_ ?_
    · (refine gh_tidy _ _ rfl rfl ?_ ?_ <;> (repeat' (first | exact TmOk.nil | exact RwOk.nil | refine TmOk.cons ?_ ?_ | refine RwOk.cons ?_ ?_ | rfl | (refine rnV_id' rfl ?_; (first | rfl | (simp [cloV, cloL, clo, acE_clo, acL_clo, owE_clo, owL_clo, cloL_app]; done))) | (refine rn_int ?_; first | rfl | omega | (rw [wrap_nat (by omega) (by omega)]; omega)) | (refine rw_same rfl ?_; (first | rfl | (simp [cloV, cloL, clo, acE_clo, acL_clo, owE_clo, owL_clo, cloL_app]; done))) | exact rw_rn rfl rfl | (refine rw_mid (by rfl) (by rfl) ?_ ?_ <;> (first | rfl | (simp [cloV, cloL, clo, acE_clo, acL_clo, owE_clo, owL_clo, cloL_app]; done))) | (refine rw_rn' rfl rfl ?_; simp; done))))
    rintro N k ⟨hN, hno⟩
    repeat (first | refine awp_seq ?_ | refine awp_block ?_ | refine awp_skip ?_ | refine awp_exit ?_ | refine awp_ret ?_ | refine awp_region0 fun C => ?_ | refine awp_region1 (by kernel_rfl) (by kernel_rfl) fun C => ?_ | refine walk_end ?_ | refine x_nop ?_ | refine x_bs ?_ | refine x_gr ?_ | refine x_st ?_ | refine x_mv ?_ | refine x_sk ?_ | refine x_sk0 ?_ | refine x_ix ?_ | refine x_ixs ?_ | refine x_sto ?_ | refine x_app ?_ | refine x_app0 ?_ | refine x_ld ?_)
    refine awp_cond (by rfl) (fun h2 => ?_) fun h2 => ?_
    · have hk' : k < la.length := by simpa using h2
      obtain ⟨x, hx⟩ : ∃ x, la[k]? = some x := ⟨_, List.getElem?_eq_getElem hk'⟩
      obtain ⟨y, hy⟩ : ∃ y, lb[k]? = some y := ⟨_, List.getElem?_eq_getElem (by omega)⟩
      have hc := sameMFn_c (ha x (List.mem_of_getElem? hx)) (hb y (List.mem_of_getElem? hy)) (hsa x (List.mem_of_getElem? hx)) (hsb y (List.mem_of_getElem? hy))
      obtain ⟨p, aA, ac, a, rfl, -⟩ := shape_impl_MFn (ha x (List.mem_of_getElem? hx))
      obtain ⟨q, bA, bc, b, rfl, -⟩ := shape_impl_MFn (hb y (List.mem_of_getElem? hy))
      repeat (first | refine awp_seq ?_ | refine awp_block ?_ | refine awp_skip ?_ | refine awp_exit ?_ | refine awp_ret ?_ | refine awp_region0 fun C => ?_ | refine awp_region1 (by kernel_rfl) (by kernel_rfl) fun C => ?_ | refine walk_end ?_ | refine x_nop ?_ | refine x_bs ?_ | refine x_gr ?_ | refine x_st ?_ | refine x_mv ?_ | refine x_sk ?_ | refine x_sk0 ?_ | refine x_ix ?_ | refine x_ixs ?_ | refine x_sto ?_ | refine x_app ?_ | refine x_app0 ?_ | refine x_ld ?_)
      refine x_call 100 hc ?_
      repeat (first | refine awp_seq ?_ | refine awp_block ?_ | refine awp_skip ?_ | refine awp_exit ?_ | refine awp_ret ?_ | refine awp_region0 fun C => ?_ | refine awp_region1 (by kernel_rfl) (by kernel_rfl) fun C => ?_ | refine walk_end ?_ | refine x_nop ?_ | refine x_bs ?_ | refine x_gr ?_ | refine x_st ?_ | refine x_mv ?_ | refine x_sk ?_ | refine x_sk0 ?_ | refine x_ix ?_ | refine x_ixs ?_ | refine x_sto ?_ | refine x_app ?_ | refine x_app0 ?_ | refine x_ld ?_)
      refine awp_cond (by rfl) (fun h3 => ?_) fun h3 => ?_
      · repeat (first | refine awp_seq ?_ | refine awp_block ?_ | refine awp_skip ?_ | refine awp_exit ?_ | refine awp_ret ?_ | refine awp_region0 fun C => ?_ | refine awp_region1 (by kernel_rfl) (by kernel_rfl) fun C => ?_ | refine walk_end ?_ | refine x_nop ?_ | refine x_bs ?_ | refine x_gr ?_ | refine x_st ?_ | refine x_mv ?_ | refine x_sk ?_ | refine x_sk0 ?_ | refine x_ix ?_ | refine x_ixs ?_ | refine x_sto ?_ | refine x_app ?_ | refine x_app0 ?_ | refine x_ld ?_)
        refine ret0 (x := .c (.v (.bool false))) rfl clV_v ⟨?_, rfl⟩
        rw [eqLs_no hx hy (by simpa using h3)]
      · repeat (first | refine awp_seq ?_ | refine awp_block ?_ | refine awp_skip ?_ | refine awp_exit ?_ | refine awp_ret ?_ | refine awp_region0 fun C => ?_ | refine awp_region1 (by kernel_rfl) (by kernel_rfl) fun C => ?_ | refine walk_end ?_ | refine x_nop ?_ | refine x_bs ?_ | refine x_gr ?_ | refine x_st ?_ | refine x_mv ?_ | refine x_sk ?_ | refine x_sk0 ?_ | refine x_ix ?_ | refine x_ixs ?_ | refine x_sto ?_ | refine x_app ?_ | refine x_app0 ?_ | refine x_ld ?_)
        refine ⟨N - 1, k + 1, by omega, ⟨by omega, fun j p q hj hp hq => ?_⟩, ?_⟩
        · by_cases e : j = k
          · rw [e, hx] at hp; rw [e, hy] at hq; injection hp with hp; injection hq with hq; subst hp hq; simpa using h3
          · exact hno j p q (by omega) hp hq
        · (refine gh_tidy _ _ rfl rfl ?_ ?_ <;> (repeat' (first | exact TmOk.nil | exact RwOk.nil | refine TmOk.cons ?_ ?_ | refine RwOk.cons ?_ ?_ | rfl | (refine rnV_id' rfl ?_; (first | rfl | (simp [cloV, cloL, clo, acE_clo, acL_clo, owE_clo, owL_clo, cloL_app]; done))) | (refine rn_int ?_; first | rfl | omega | (rw [wrap_nat (by omega) (by omega)]; omega)) | (refine rw_same rfl ?_; (first | rfl | (simp [cloV, cloL, clo, acE_clo, acL_clo, owE_clo, owL_clo, cloL_app]; done))) | exact rw_rn rfl rfl | (refine rw_mid (by rfl) (by rfl) ?_ ?_ <;> (first | rfl | (simp [cloV, cloL, clo, acE_clo, acL_clo, owE_clo, owL_clo, cloL_app]; done))) | (refine rw_rn' rfl rfl ?_; simp; done))))
    · have hk' : ¬ k < la.length := by simpa using h2
      repeat (first | refine awp_seq ?_ | refine awp_block ?_ | refine awp_skip ?_ | refine awp_exit ?_ | refine awp_ret ?_ | refine awp_region0 fun C => ?_ | refine awp_region1 (by kernel_rfl) (by kernel_rfl) fun C => ?_ | refine walk_end ?_ | refine x_nop ?_ | refine x_bs ?_ | refine x_gr ?_ | refine x_st ?_ | refine x_mv ?_ | refine x_sk ?_ | refine x_sk0 ?_ | refine x_ix ?_ | refine x_ixs ?_ | refine x_sto ?_ | refine x_app ?_ | refine x_app0 ?_ | refine x_ld ?_)
      refine ret0 (x := .c (.v (.bool true))) rfl clV_v ⟨?_, rfl⟩
      rw [eqLs_yes hl fun j x y hj hx hy => hno j x y (by omega) hx hy]
end Go.Proofs.Ytfnnbjkjfoiboaa
