/- The program's SameExpr, SameStmt, sameRule, sameFn, SameProg: by the abstract machine. -/
import Derived.Test.YtkhioiehcaaejaaAH
import Derived.Test.YtkhioiehcaaejaaEqD
import Derived.Test.YtkhioiehcaaejaaFamProg
namespace Go.Proofs.Ytkhioiehcaaejaa
open Go.RowKit
set_option maxRecDepth 100000

set_option maxHeartbeats 600000 in
theorem equalFExpr_c {la lb : List E} (ha : ∀ e ∈ la, e.Ty Try.prog 90) (hka : ∀ e ∈ la, e.enc.length = 4) (hb : ∀ e ∈ lb, e.Ty Try.prog 90) (hkb : ∀ e ∈ lb, e.enc.length = 4) (hla : la.length ≤ 1073741824) (hlb : lb.length ≤ 1073741824) (hc : ∀ x ∈ la, ∀ y ∈ lb, Ctr Try.prog 92 [.ag (acE x), .ag (acE y)] [] (.c (.v (.bool (eqD x y)))) []) : Ctr Try.prog 116 [.c (.ro la.length 4 (acL la)), .c (.ro lb.length 4 (acL lb)), .c (.fn 92 [])] [] (.c (.v (.bool (eqDL la lb)))) [] := by
  refine ctr_of Try.func116 rfl rfl ?_
  repeat (first | refine awp_seq ?_ | refine awp_block ?_ | refine awp_skip ?_ | refine awp_exit ?_ | refine awp_ret ?_ | refine awp_region0 fun C => ?_ | refine awp_region1 (by kernel_rfl) (by kernel_rfl) fun C => ?_ | refine walk_end ?_ | refine x_nop ?_ | refine x_bs ?_ | refine x_gr ?_ | refine x_st ?_ | refine x_mv ?_ | refine x_sk ?_ | refine x_sk0 ?_ | refine x_ix ?_ | refine x_ixs ?_ | refine x_sto ?_ | refine x_app ?_ | refine x_app0 ?_ | refine x_ld ?_)
  refine awp_cond (by rfl) (fun h1 => ?_) fun h1 => ?_
  · repeat (first | refine awp_seq ?_ | refine awp_block ?_ | refine awp_skip ?_ | refine awp_exit ?_ | refine awp_ret ?_ | refine awp_region0 fun C => ?_ | refine awp_region1 (by kernel_rfl) (by kernel_rfl) fun C => ?_ | refine walk_end ?_ | refine x_nop ?_ | refine x_bs ?_ | refine x_gr ?_ | refine x_st ?_ | refine x_mv ?_ | refine x_sk ?_ | refine x_sk0 ?_ | refine x_ix ?_ | refine x_ixs ?_ | refine x_sto ?_ | refine x_app ?_ | refine x_app0 ?_ | refine x_ld ?_)
    refine ret0 (x := .c (.v (.bool false))) rfl clV_v ⟨?_, rfl⟩
    rw [eqDL_len (by simp at h1; omega)]
  · have hl : la.length = lb.length := by simp at h1; omega
    repeat (first | refine awp_seq ?_ | refine awp_block ?_ | refine awp_skip ?_ | refine awp_exit ?_ | refine awp_ret ?_ | refine awp_region0 fun C => ?_ | refine awp_region1 (by kernel_rfl) (by kernel_rfl) fun C => ?_ | refine walk_end ?_ | refine x_nop ?_ | refine x_bs ?_ | refine x_gr ?_ | refine x_st ?_ | refine x_mv ?_ | refine x_sk ?_ | refine x_sk0 ?_ | refine x_ix ?_ | refine x_ixs ?_ | refine x_sto ?_ | refine x_app ?_ | refine x_app0 ?_ | refine x_ld ?_)
    refine awp_loopd (fun k : Nat => ⟨tmsF [(1, .c (.ro lb.length 4 (acL lb))), (2, .c (.fn 92 [])), (15, .c (.ro la.length 4 (acL la))), (16, .c (.v (.int .i64 la.length))), (17, .c (.v (.int .i64 k)))], hpsF [], 0, [], 32⟩)
      (fun N k => k + N = la.length ∧ ∀ j x y, j < k → la[j]? = some x → lb[j]? = some y → eqD x y = true) la.length 0 ⟨by omega, by omega⟩ ?_ ?_
    · (refine gh_tidy _ _ rfl rfl ?_ ?_ <;> (repeat' (first | exact TmOk.nil | exact RwOk.nil | refine TmOk.cons ?_ ?_ | refine RwOk.cons ?_ ?_ | rfl | (refine rnV_id' rfl ?_; (first | rfl | (simp [cloV, cloL, clo, acE_clo, acL_clo, owE_clo, owL_clo, cloL_app]; done))) | (refine rn_int ?_; first | rfl | omega | (rw [wrap_nat (by omega) (by omega)]; omega)) | (refine rw_same rfl ?_; (first | rfl | (simp [cloV, cloL, clo, acE_clo, acL_clo, owE_clo, owL_clo, cloL_app]; done))) | exact rw_rn rfl rfl | (refine rw_mid (by rfl) (by rfl) ?_ ?_ <;> (first | rfl | (simp [cloV, cloL, clo, acE_clo, acL_clo, owE_clo, owL_clo, cloL_app]; done))) | (refine rw_rn' rfl rfl ?_; simp; done))))
    rintro N k ⟨hN, hno⟩
    repeat (first | refine awp_seq ?_ | refine awp_block ?_ | refine awp_skip ?_ | refine awp_exit ?_ | refine awp_ret ?_ | refine awp_region0 fun C => ?_ | refine awp_region1 (by kernel_rfl) (by kernel_rfl) fun C => ?_ | refine walk_end ?_ | refine x_nop ?_ | refine x_bs ?_ | refine x_gr ?_ | refine x_st ?_ | refine x_mv ?_ | refine x_sk ?_ | refine x_sk0 ?_ | refine x_ix ?_ | refine x_ixs ?_ | refine x_sto ?_ | refine x_app ?_ | refine x_app0 ?_ | refine x_ld ?_)
    refine awp_cond (by rfl) (fun h2 => ?_) fun h2 => ?_
    · have hk' : k < la.length := by simpa using h2
      obtain ⟨x, hx⟩ : ∃ x, la[k]? = some x := ⟨_, List.getElem?_eq_getElem hk'⟩
      obtain ⟨y, hy⟩ : ∃ y, lb[k]? = some y := ⟨_, List.getElem?_eq_getElem (by omega)⟩
      have hcc := hc x (List.mem_of_getElem? hx) y (List.mem_of_getElem? hy)
      obtain ⟨x0, x1, x2, x3A, x3c, x3l, rfl, gx0, gx1, gx2, gx3, -⟩ := shape_impl_Expr (ha x (List.mem_of_getElem? hx))
      obtain ⟨y0, y1, y2, y3A, y3c, y3l, rfl, gy0, gy1, gy2, gy3, -⟩ := shape_impl_Expr (hb y (List.mem_of_getElem? hy))
      repeat (first | refine awp_seq ?_ | refine awp_block ?_ | refine awp_skip ?_ | refine awp_exit ?_ | refine awp_ret ?_ | refine awp_region0 fun C => ?_ | refine awp_region1 (by kernel_rfl) (by kernel_rfl) fun C => ?_ | refine walk_end ?_ | refine x_nop ?_ | refine x_bs ?_ | refine x_gr ?_ | refine x_st ?_ | refine x_mv ?_ | refine x_sk ?_ | refine x_sk0 ?_ | refine x_ix ?_ | refine x_ixs ?_ | refine x_sto ?_ | refine x_app ?_ | refine x_app0 ?_ | refine x_ld ?_)
      refine x_call 100 hcc ?_
      repeat (first | refine awp_seq ?_ | refine awp_block ?_ | refine awp_skip ?_ | refine awp_exit ?_ | refine awp_ret ?_ | refine awp_region0 fun C => ?_ | refine awp_region1 (by kernel_rfl) (by kernel_rfl) fun C => ?_ | refine walk_end ?_ | refine x_nop ?_ | refine x_bs ?_ | refine x_gr ?_ | refine x_st ?_ | refine x_mv ?_ | refine x_sk ?_ | refine x_sk0 ?_ | refine x_ix ?_ | refine x_ixs ?_ | refine x_sto ?_ | refine x_app ?_ | refine x_app0 ?_ | refine x_ld ?_)
      refine awp_cond (by rfl) (fun h3 => ?_) fun h3 => ?_
      · repeat (first | refine awp_seq ?_ | refine awp_block ?_ | refine awp_skip ?_ | refine awp_exit ?_ | refine awp_ret ?_ | refine awp_region0 fun C => ?_ | refine awp_region1 (by kernel_rfl) (by kernel_rfl) fun C => ?_ | refine walk_end ?_ | refine x_nop ?_ | refine x_bs ?_ | refine x_gr ?_ | refine x_st ?_ | refine x_mv ?_ | refine x_sk ?_ | refine x_sk0 ?_ | refine x_ix ?_ | refine x_ixs ?_ | refine x_sto ?_ | refine x_app ?_ | refine x_app0 ?_ | refine x_ld ?_)
        refine ret0 (x := .c (.v (.bool false))) rfl clV_v ⟨?_, rfl⟩
        rw [eqDL_no hx hy (by simpa using h3)]
      · repeat (first | refine awp_seq ?_ | refine awp_block ?_ | refine awp_skip ?_ | refine awp_exit ?_ | refine awp_ret ?_ | refine awp_region0 fun C => ?_ | refine awp_region1 (by kernel_rfl) (by kernel_rfl) fun C => ?_ | refine walk_end ?_ | refine x_nop ?_ | refine x_bs ?_ | refine x_gr ?_ | refine x_st ?_ | refine x_mv ?_ | refine x_sk ?_ | refine x_sk0 ?_ | refine x_ix ?_ | refine x_ixs ?_ | refine x_sto ?_ | refine x_app ?_ | refine x_app0 ?_ | refine x_ld ?_)
        refine ⟨N - 1, k + 1, by omega, ⟨by omega, fun j p q hj hp hq => ?_⟩, ?_⟩
        · by_cases e : j = k
          · rw [e, hx] at hp; rw [e, hy] at hq; injection hp with hp; injection hq with hq; subst hp hq; simpa using h3
          · exact hno j p q (by omega) hp hq
        · (refine gh_tidy _ _ rfl rfl ?_ ?_ <;> (repeat' (first | exact TmOk.nil | exact RwOk.nil | refine TmOk.cons ?_ ?_ | refine RwOk.cons ?_ ?_ | rfl | (refine rnV_id' rfl ?_; (first | rfl | (simp [cloV, cloL, clo, acE_clo, acL_clo, owE_clo, owL_clo, cloL_app]; done))) | (refine rn_int ?_; first | rfl | omega | (rw [wrap_nat (by omega) (by omega)]; omega)) | (refine rw_same rfl ?_; (first | rfl | (simp [cloV, cloL, clo, acE_clo, acL_clo, owE_clo, owL_clo, cloL_app]; done))) | exact rw_rn rfl rfl | (refine rw_mid (by rfl) (by rfl) ?_ ?_ <;> (first | rfl | (simp [cloV, cloL, clo, acE_clo, acL_clo, owE_clo, owL_clo, cloL_app]; done))) | (refine rw_rn' rfl rfl ?_; simp; done))))
    · have hk' : ¬ k < la.length := by simpa using h2
      repeat (first | refine awp_seq ?_ | refine awp_block ?_ | refine awp_skip ?_ | refine awp_exit ?_ | refine awp_ret ?_ | refine awp_region0 fun C => ?_ | refine awp_region1 (by kernel_rfl) (by kernel_rfl) fun C => ?_ | refine walk_end ?_ | refine x_nop ?_ | refine x_bs ?_ | refine x_gr ?_ | refine x_st ?_ | refine x_mv ?_ | refine x_sk ?_ | refine x_sk0 ?_ | refine x_ix ?_ | refine x_ixs ?_ | refine x_sto ?_ | refine x_app ?_ | refine x_app0 ?_ | refine x_ld ?_)
      refine ret0 (x := .c (.v (.bool true))) rfl clV_v ⟨?_, rfl⟩
      rw [eqDL_yes hl fun j x y hj hx hy => hno j x y (by omega) hx hy]

set_option maxHeartbeats 600000 in
theorem equalFStmt_c {la lb : List E} (ha : ∀ e ∈ la, e.Ty Try.prog 141) (hka : ∀ e ∈ la, e.enc.length = 6) (hb : ∀ e ∈ lb, e.Ty Try.prog 141) (hkb : ∀ e ∈ lb, e.enc.length = 6) (hla : la.length ≤ 1073741824) (hlb : lb.length ≤ 1073741824) (hc : ∀ x ∈ la, ∀ y ∈ lb, Ctr Try.prog 94 [.ag (acE x), .ag (acE y)] [] (.c (.v (.bool (eqD x y)))) []) : Ctr Try.prog 93 [.c (.ro la.length 6 (acL la)), .c (.ro lb.length 6 (acL lb)), .c (.fn 94 [])] [] (.c (.v (.bool (eqDL la lb)))) [] := by
  refine ctr_of Try.func93 rfl rfl ?_
  repeat (first | refine awp_seq ?_ | refine awp_block ?_ | refine awp_skip ?_ | refine awp_exit ?_ | refine awp_ret ?_ | refine awp_region0 fun C => ?_ | refine awp_region1 (by kernel_rfl) (by kernel_rfl) fun C => ?_ | refine walk_end ?_ | refine x_nop ?_ | refine x_bs ?_ | refine x_gr ?_ | refine x_st ?_ | refine x_mv ?_ | refine x_sk ?_ | refine x_sk0 ?_ | refine x_ix ?_ | refine x_ixs ?_ | refine x_sto ?_ | refine x_app ?_ | refine x_app0 ?_ | refine x_ld ?_)
  refine awp_cond (by rfl) (fun h1 => ?_) fun h1 => ?_
  · repeat (first | refine awp_seq ?_ | refine awp_block ?_ | refine awp_skip ?_ | refine awp_exit ?_ | refine awp_ret ?_ | refine awp_region0 fun C => ?_ | refine awp_region1 (by kernel_rfl) (by kernel_rfl) fun C => ?_ | refine walk_end ?_ | refine x_nop ?_ | refine x_bs ?_ | refine x_gr ?_ | refine x_st ?_ | refine x_mv ?_ | refine x_sk ?_ | refine x_sk0 ?_ | refine x_ix ?_ | refine x_ixs ?_ | refine x_sto ?_ | refine x_app ?_ | refine x_app0 ?_ | refine x_ld ?_)
    refine ret0 (x := .c (.v (.bool false))) rfl clV_v ⟨?_, rfl⟩
    rw [eqDL_len (by simp at h1; omega)]
  · have hl : la.length = lb.length := by simp at h1; omega
    repeat (first | refine awp_seq ?_ | refine awp_block ?_ | refine awp_skip ?_ | refine awp_exit ?_ | refine awp_ret ?_ | refine awp_region0 fun C => ?_ | refine awp_region1 (by kernel_rfl) (by kernel_rfl) fun C => ?_ | refine walk_end ?_ | refine x_nop ?_ | refine x_bs ?_ | refine x_gr ?_ | refine x_st ?_ | refine x_mv ?_ | refine x_sk ?_ | refine x_sk0 ?_ | refine x_ix ?_ | refine x_ixs ?_ | refine x_sto ?_ | refine x_app ?_ | refine x_app0 ?_ | refine x_ld ?_)
    refine awp_loopd (fun k : Nat => ⟨tmsF [(1, .c (.ro lb.length 6 (acL lb))), (2, .c (.fn 94 [])), (15, .c (.ro la.length 6 (acL la))), (16, .c (.v (.int .i64 la.length))), (17, .c (.v (.int .i64 k)))], hpsF [], 0, [], 32⟩)
      (fun N k => k + N = la.length ∧ ∀ j x y, j < k → la[j]? = some x → lb[j]? = some y → eqD x y = true) la.length 0 ⟨by omega, by omega⟩ ?_ ?_
    · (refine gh_tidy _ _ rfl rfl ?_ ?_ <;> (repeat' (first | exact TmOk.nil | exact RwOk.nil | refine TmOk.cons ?_ ?_ | refine RwOk.cons ?_ ?_ | rfl | (refine rnV_id' rfl ?_; (first | rfl | (simp [cloV, cloL, clo, acE_clo, acL_clo, owE_clo, owL_clo, cloL_app]; done))) | (refine rn_int ?_; first | rfl | omega | (rw [wrap_nat (by omega) (by omega)]; omega)) | (refine rw_same rfl ?_; (first | rfl | (simp [cloV, cloL, clo, acE_clo, acL_clo, owE_clo, owL_clo, cloL_app]; done))) | exact rw_rn rfl rfl | (refine rw_mid (by rfl) (by rfl) ?_ ?_ <;> (first | rfl | (simp [cloV, cloL, clo, acE_clo, acL_clo, owE_clo, owL_clo, cloL_app]; done))) | (refine rw_rn' rfl rfl ?_; simp; done))))
    rintro N k ⟨hN, hno⟩
    repeat (first | refine awp_seq ?_ | refine awp_block ?_ | refine awp_skip ?_ | refine awp_exit ?_ | refine awp_ret ?_ | refine awp_region0 fun C => ?_ | refine awp_region1 (by kernel_rfl) (by kernel_rfl) fun C => ?_ | refine walk_end ?_ | refine x_nop ?_ | refine x_bs ?_ | refine x_gr ?_ | refine x_st ?_ | refine x_mv ?_ | refine x_sk ?_ | refine x_sk0 ?_ | refine x_ix ?_ | refine x_ixs ?_ | refine x_sto ?_ | refine x_app ?_ | refine x_app0 ?_ | refine x_ld ?_)
    refine awp_cond (by rfl) (fun h2 => ?_) fun h2 => ?_
    · have hk' : k < la.length := by simpa using h2
      obtain ⟨x, hx⟩ : ∃ x, la[k]? = some x := ⟨_, List.getElem?_eq_getElem hk'⟩
      obtain ⟨y, hy⟩ : ∃ y, lb[k]? = some y := ⟨_, List.getElem?_eq_getElem (by omega)⟩
      have hcc := hc x (List.mem_of_getElem? hx) y (List.mem_of_getElem? hy)
      obtain ⟨x0, x1, x2, x3A, x3c, x3l, x4A, x4c, x4l, x5A, x5c, x5l, rfl, gx0, gx1, gx2, gx3, gx4, gx5, -⟩ := shape_impl_Stmt (ha x (List.mem_of_getElem? hx))
      obtain ⟨y0, y1, y2, y3A, y3c, y3l, y4A, y4c, y4l, y5A, y5c, y5l, rfl, gy0, gy1, gy2, gy3, gy4, gy5, -⟩ := shape_impl_Stmt (hb y (List.mem_of_getElem? hy))
      repeat (first | refine awp_seq ?_ | refine awp_block ?_ | refine awp_skip ?_ | refine awp_exit ?_ | refine awp_ret ?_ | refine awp_region0 fun C => ?_ | refine awp_region1 (by kernel_rfl) (by kernel_rfl) fun C => ?_ | refine walk_end ?_ | refine x_nop ?_ | refine x_bs ?_ | refine x_gr ?_ | refine x_st ?_ | refine x_mv ?_ | refine x_sk ?_ | refine x_sk0 ?_ | refine x_ix ?_ | refine x_ixs ?_ | refine x_sto ?_ | refine x_app ?_ | refine x_app0 ?_ | refine x_ld ?_)
      refine x_call 100 hcc ?_
      repeat (first | refine awp_seq ?_ | refine awp_block ?_ | refine awp_skip ?_ | refine awp_exit ?_ | refine awp_ret ?_ | refine awp_region0 fun C => ?_ | refine awp_region1 (by kernel_rfl) (by kernel_rfl) fun C => ?_ | refine walk_end ?_ | refine x_nop ?_ | refine x_bs ?_ | refine x_gr ?_ | refine x_st ?_ | refine x_mv ?_ | refine x_sk ?_ | refine x_sk0 ?_ | refine x_ix ?_ | refine x_ixs ?_ | refine x_sto ?_ | refine x_app ?_ | refine x_app0 ?_ | refine x_ld ?_)
      refine awp_cond (by rfl) (fun h3 => ?_) fun h3 => ?_
      · repeat (first | refine awp_seq ?_ | refine awp_block ?_ | refine awp_skip ?_ | refine awp_exit ?_ | refine awp_ret ?_ | refine awp_region0 fun C => ?_ | refine awp_region1 (by kernel_rfl) (by kernel_rfl) fun C => ?_ | refine walk_end ?_ | refine x_nop ?_ | refine x_bs ?_ | refine x_gr ?_ | refine x_st ?_ | refine x_mv ?_ | refine x_sk ?_ | refine x_sk0 ?_ | refine x_ix ?_ | refine x_ixs ?_ | refine x_sto ?_ | refine x_app ?_ | refine x_app0 ?_ | refine x_ld ?_)
        refine ret0 (x := .c (.v (.bool false))) rfl clV_v ⟨?_, rfl⟩
        rw [eqDL_no hx hy (by simpa using h3)]
      · repeat (first | refine awp_seq ?_ | refine awp_block ?_ | refine awp_skip ?_ | refine awp_exit ?_ | refine awp_ret ?_ | refine awp_region0 fun C => ?_ | refine awp_region1 (by kernel_rfl) (by kernel_rfl) fun C => ?_ | refine walk_end ?_ | refine x_nop ?_ | refine x_bs ?_ | refine x_gr ?_ | refine x_st ?_ | refine x_mv ?_ | refine x_sk ?_ | refine x_sk0 ?_ | refine x_ix ?_ | refine x_ixs ?_ | refine x_sto ?_ | refine x_app ?_ | refine x_app0 ?_ | refine x_ld ?_)
        refine ⟨N - 1, k + 1, by omega, ⟨by omega, fun j p q hj hp hq => ?_⟩, ?_⟩
        · by_cases e : j = k
          · rw [e, hx] at hp; rw [e, hy] at hq; injection hp with hp; injection hq with hq; subst hp hq; simpa using h3
          · exact hno j p q (by omega) hp hq
        · (refine gh_tidy _ _ rfl rfl ?_ ?_ <;> (repeat' (first | exact TmOk.nil | exact RwOk.nil | refine TmOk.cons ?_ ?_ | refine RwOk.cons ?_ ?_ | rfl | (refine rnV_id' rfl ?_; (first | rfl | (simp [cloV, cloL, clo, acE_clo, acL_clo, owE_clo, owL_clo, cloL_app]; done))) | (refine rn_int ?_; first | rfl | omega | (rw [wrap_nat (by omega) (by omega)]; omega)) | (refine rw_same rfl ?_; (first | rfl | (simp [cloV, cloL, clo, acE_clo, acL_clo, owE_clo, owL_clo, cloL_app]; done))) | exact rw_rn rfl rfl | (refine rw_mid (by rfl) (by rfl) ?_ ?_ <;> (first | rfl | (simp [cloV, cloL, clo, acE_clo, acL_clo, owE_clo, owL_clo, cloL_app]; done))) | (refine rw_rn' rfl rfl ?_; simp; done))))
    · have hk' : ¬ k < la.length := by simpa using h2
      repeat (first | refine awp_seq ?_ | refine awp_block ?_ | refine awp_skip ?_ | refine awp_exit ?_ | refine awp_ret ?_ | refine awp_region0 fun C => ?_ | refine awp_region1 (by kernel_rfl) (by kernel_rfl) fun C => ?_ | refine walk_end ?_ | refine x_nop ?_ | refine x_bs ?_ | refine x_gr ?_ | refine x_st ?_ | refine x_mv ?_ | refine x_sk ?_ | refine x_sk0 ?_ | refine x_ix ?_ | refine x_ixs ?_ | refine x_sto ?_ | refine x_app ?_ | refine x_app0 ?_ | refine x_ld ?_)
      refine ret0 (x := .c (.v (.bool true))) rfl clV_v ⟨?_, rfl⟩
      rw [eqDL_yes hl fun j x y hj hx hy => hno j x y (by omega) hx hy]

set_option maxHeartbeats 600000 in
theorem equalFRule_c {la lb : List E} (ha : ∀ e ∈ la, e.Ty Try.prog 93) (hka : ∀ e ∈ la, e.enc.length = 6) (hb : ∀ e ∈ lb, e.Ty Try.prog 93) (hkb : ∀ e ∈ lb, e.enc.length = 6) (hla : la.length ≤ 1073741824) (hlb : lb.length ≤ 1073741824) (hc : ∀ x ∈ la, ∀ y ∈ lb, Ctr Try.prog 63 [.ag (acE x), .ag (acE y)] [] (.c (.v (.bool (eqD x y)))) []) : Ctr Try.prog 62 [.c (.ro la.length 6 (acL la)), .c (.ro lb.length 6 (acL lb)), .c (.fn 63 [])] [] (.c (.v (.bool (eqDL la lb)))) [] := by
  refine ctr_of Try.func62 rfl rfl ?_
  repeat (first | refine awp_seq ?_ | refine awp_block ?_ | refine awp_skip ?_ | refine awp_exit ?_ | refine awp_ret ?_ | refine awp_region0 fun C => ?_ | refine awp_region1 (by kernel_rfl) (by kernel_rfl) fun C => ?_ | refine walk_end ?_ | refine x_nop ?_ | refine x_bs ?_ | refine x_gr ?_ | refine x_st ?_ | refine x_mv ?_ | refine x_sk ?_ | refine x_sk0 ?_ | refine x_ix ?_ | refine x_ixs ?_ | refine x_sto ?_ | refine x_app ?_ | refine x_app0 ?_ | refine x_ld ?_)
  refine awp_cond (by rfl) (fun h1 => ?_) fun h1 => ?_
  · repeat (first | refine awp_seq ?_ | refine awp_block ?_ | refine awp_skip ?_ | refine awp_exit ?_ | refine awp_ret ?_ | refine awp_region0 fun C => ?_ | refine awp_region1 (by kernel_rfl) (by kernel_rfl) fun C => ?_ | refine walk_end ?_ | refine x_nop ?_ | refine x_bs ?_ | refine x_gr ?_ | refine x_st ?_ | refine x_mv ?_ | refine x_sk ?_ | refine x_sk0 ?_ | refine x_ix ?_ | refine x_ixs ?_ | refine x_sto ?_ | refine x_app ?_ | refine x_app0 ?_ | refine x_ld ?_)
    refine ret0 (x := .c (.v (.bool false))) rfl clV_v ⟨?_, rfl⟩
    rw [eqDL_len (by simp at h1; omega)]
  · have hl : la.length = lb.length := by simp at h1; omega
    repeat (first | refine awp_seq ?_ | refine awp_block ?_ | refine awp_skip ?_ | refine awp_exit ?_ | refine awp_ret ?_ | refine awp_region0 fun C => ?_ | refine awp_region1 (by kernel_rfl) (by kernel_rfl) fun C => ?_ | refine walk_end ?_ | refine x_nop ?_ | refine x_bs ?_ | refine x_gr ?_ | refine x_st ?_ | refine x_mv ?_ | refine x_sk ?_ | refine x_sk0 ?_ | refine x_ix ?_ | refine x_ixs ?_ | refine x_sto ?_ | refine x_app ?_ | refine x_app0 ?_ | refine x_ld ?_)
    refine awp_loopd (fun k : Nat => ⟨tmsF [(1, .c (.ro lb.length 6 (acL lb))), (2, .c (.fn 63 [])), (15, .c (.ro la.length 6 (acL la))), (16, .c (.v (.int .i64 la.length))), (17, .c (.v (.int .i64 k)))], hpsF [], 0, [], 32⟩)
      (fun N k => k + N = la.length ∧ ∀ j x y, j < k → la[j]? = some x → lb[j]? = some y → eqD x y = true) la.length 0 ⟨by omega, by omega⟩ ?_ ?_
    · (refine gh_tidy _ _ rfl rfl ?_ ?_ <;> (repeat' (first | exact TmOk.nil | exact RwOk.nil | refine TmOk.cons ?_ ?_ | refine RwOk.cons ?_ ?_ | rfl | (refine rnV_id' rfl ?_; (first | rfl | (simp [cloV, cloL, clo, acE_clo, acL_clo, owE_clo, owL_clo, cloL_app]; done))) | (refine rn_int ?_; first | rfl | omega | (rw [wrap_nat (by omega) (by omega)]; omega)) | (refine rw_same rfl ?_; (first | rfl | (simp [cloV, cloL, clo, acE_clo, acL_clo, owE_clo, owL_clo, cloL_app]; done))) | exact rw_rn rfl rfl | (refine rw_mid (by rfl) (by rfl) ?_ ?_ <;> (first | rfl | (simp [cloV, cloL, clo, acE_clo, acL_clo, owE_clo, owL_clo, cloL_app]; done))) | (refine rw_rn' rfl rfl ?_; simp; done))))
    rintro N k ⟨hN, hno⟩
    repeat (first | refine awp_seq ?_ | refine awp_block ?_ | refine awp_skip ?_ | refine awp_exit ?_ | refine awp_ret ?_ | refine awp_region0 fun C => ?_ | refine awp_region1 (by kernel_rfl) (by kernel_rfl) fun C => ?_ | refine walk_end ?_ | refine x_nop ?_ | refine x_bs ?_ | refine x_gr ?_ | refine x_st ?_ | refine x_mv ?_ | refine x_sk ?_ | refine x_sk0 ?_ | refine x_ix ?_ | refine x_ixs ?_ | refine x_sto ?_ | refine x_app ?_ | refine x_app0 ?_ | refine x_ld ?_)
    refine awp_cond (by rfl) (fun h2 => ?_) fun h2 => ?_
    · have hk' : k < la.length := by simpa using h2
      obtain ⟨x, hx⟩ : ∃ x, la[k]? = some x := ⟨_, List.getElem?_eq_getElem hk'⟩
      obtain ⟨y, hy⟩ : ∃ y, lb[k]? = some y := ⟨_, List.getElem?_eq_getElem (by omega)⟩
      have hcc := hc x (List.mem_of_getElem? hx) y (List.mem_of_getElem? hy)
      obtain ⟨x0, x1, x2, x3, x4A, x4c, x4l, x5A, x5c, x5l, rfl, gx0, gx1, gx2, gx3, gx4, gx5, -⟩ := shape_impl_Rule (ha x (List.mem_of_getElem? hx))
      obtain ⟨y0, y1, y2, y3, y4A, y4c, y4l, y5A, y5c, y5l, rfl, gy0, gy1, gy2, gy3, gy4, gy5, -⟩ := shape_impl_Rule (hb y (List.mem_of_getElem? hy))
      repeat (first | refine awp_seq ?_ | refine awp_block ?_ | refine awp_skip ?_ | refine awp_exit ?_ | refine awp_ret ?_ | refine awp_region0 fun C => ?_ | refine awp_region1 (by kernel_rfl) (by kernel_rfl) fun C => ?_ | refine walk_end ?_ | refine x_nop ?_ | refine x_bs ?_ | refine x_gr ?_ | refine x_st ?_ | refine x_mv ?_ | refine x_sk ?_ | refine x_sk0 ?_ | refine x_ix ?_ | refine x_ixs ?_ | refine x_sto ?_ | refine x_app ?_ | refine x_app0 ?_ | refine x_ld ?_)
      refine x_call 100 hcc ?_
      repeat (first | refine awp_seq ?_ | refine awp_block ?_ | refine awp_skip ?_ | refine awp_exit ?_ | refine awp_ret ?_ | refine awp_region0 fun C => ?_ | refine awp_region1 (by kernel_rfl) (by kernel_rfl) fun C => ?_ | refine walk_end ?_ | refine x_nop ?_ | refine x_bs ?_ | refine x_gr ?_ | refine x_st ?_ | refine x_mv ?_ | refine x_sk ?_ | refine x_sk0 ?_ | refine x_ix ?_ | refine x_ixs ?_ | refine x_sto ?_ | refine x_app ?_ | refine x_app0 ?_ | refine x_ld ?_)
      refine awp_cond (by rfl) (fun h3 => ?_) fun h3 => ?_
      · repeat (first | refine awp_seq ?_ | refine awp_block ?_ | refine awp_skip ?_ | refine awp_exit ?_ | refine awp_ret ?_ | refine awp_region0 fun C => ?_ | refine awp_region1 (by kernel_rfl) (by kernel_rfl) fun C => ?_ | refine walk_end ?_ | refine x_nop ?_ | refine x_bs ?_ | refine x_gr ?_ | refine x_st ?_ | refine x_mv ?_ | refine x_sk ?_ | refine x_sk0 ?_ | refine x_ix ?_ | refine x_ixs ?_ | refine x_sto ?_ | refine x_app ?_ | refine x_app0 ?_ | refine x_ld ?_)
        refine ret0 (x := .c (.v (.bool false))) rfl clV_v ⟨?_, rfl⟩
        rw [eqDL_no hx hy (by simpa using h3)]
      · repeat (first | refine awp_seq ?_ | refine awp_block ?_ | refine awp_skip ?_ | refine awp_exit ?_ | refine awp_ret ?_ | refine awp_region0 fun C => ?_ | refine awp_region1 (by kernel_rfl) (by kernel_rfl) fun C => ?_ | refine walk_end ?_ | refine x_nop ?_ | refine x_bs ?_ | refine x_gr ?_ | refine x_st ?_ | refine x_mv ?_ | refine x_sk ?_ | refine x_sk0 ?_ | refine x_ix ?_ | refine x_ixs ?_ | refine x_sto ?_ | refine x_app ?_ | refine x_app0 ?_ | refine x_ld ?_)
        refine ⟨N - 1, k + 1, by omega, ⟨by omega, fun j p q hj hp hq => ?_⟩, ?_⟩
        · by_cases e : j = k
          · rw [e, hx] at hp; rw [e, hy] at hq; injection hp with hp; injection hq with hq; subst hp hq; simpa using h3
          · exact hno j p q (by omega) hp hq
        · (refine gh_tidy _ _ rfl rfl ?_ ?_ <;> (repeat' (first | exact TmOk.nil | exact RwOk.nil | refine TmOk.cons ?_ ?_ | refine RwOk.cons ?_ ?_ | rfl | (refine rnV_id' rfl ?_; (first | rfl | (simp [cloV, cloL, clo, acE_clo, acL_clo, owE_clo, owL_clo, cloL_app]; done))) | (refine rn_int ?_; first | rfl | omega | (rw [wrap_nat (by omega) (by omega)]; omega)) | (refine rw_same rfl ?_; (first | rfl | (simp [cloV, cloL, clo, acE_clo, acL_clo, owE_clo, owL_clo, cloL_app]; done))) | exact rw_rn rfl rfl | (refine rw_mid (by rfl) (by rfl) ?_ ?_ <;> (first | rfl | (simp [cloV, cloL, clo, acE_clo, acL_clo, owE_clo, owL_clo, cloL_app]; done))) | (refine rw_rn' rfl rfl ?_; simp; done))))
    · have hk' : ¬ k < la.length := by simpa using h2
      repeat (first | refine awp_seq ?_ | refine awp_block ?_ | refine awp_skip ?_ | refine awp_exit ?_ | refine awp_ret ?_ | refine awp_region0 fun C => ?_ | refine awp_region1 (by kernel_rfl) (by kernel_rfl) fun C => ?_ | refine walk_end ?_ | refine x_nop ?_ | refine x_bs ?_ | refine x_gr ?_ | refine x_st ?_ | refine x_mv ?_ | refine x_sk ?_ | refine x_sk0 ?_ | refine x_ix ?_ | refine x_ixs ?_ | refine x_sto ?_ | refine x_app ?_ | refine x_app0 ?_ | refine x_ld ?_)
      refine ret0 (x := .c (.v (.bool true))) rfl clV_v ⟨?_, rfl⟩
      rw [eqDL_yes hl fun j x y hj hx hy => hno j x y (by omega) hx hy]

set_option maxHeartbeats 600000 in
theorem equalFFn_c {la lb : List E} (ha : ∀ e ∈ la, e.Ty Try.prog 97) (hka : ∀ e ∈ la, e.enc.length = 3) (hb : ∀ e ∈ lb, e.Ty Try.prog 97) (hkb : ∀ e ∈ lb, e.enc.length = 3) (hla : la.length ≤ 1073741824) (hlb : lb.length ≤ 1073741824) (hc : ∀ x ∈ la, ∀ y ∈ lb, Ctr Try.prog 65 [.ag (acE x), .ag (acE y)] [] (.c (.v (.bool (eqD x y)))) []) : Ctr Try.prog 64 [.c (.ro la.length 3 (acL la)), .c (.ro lb.length 3 (acL lb)), .c (.fn 65 [])] [] (.c (.v (.bool (eqDL la lb)))) [] := by
  refine ctr_of Try.func64 rfl rfl ?_
  repeat (first | refine awp_seq ?_ | refine awp_block ?_ | refine awp_skip ?_ | refine awp_exit ?_ | refine awp_ret ?_ | refine awp_region0 fun C => ?_ | refine awp_region1 (by kernel_rfl) (by kernel_rfl) fun C => ?_ | refine walk_end ?_ | refine x_nop ?_ | refine x_bs ?_ | refine x_gr ?_ | refine x_st ?_ | refine x_mv ?_ | refine x_sk ?_ | refine x_sk0 ?_ | refine x_ix ?_ | refine x_ixs ?_ | refine x_sto ?_ | refine x_app ?_ | refine x_app0 ?_ | refine x_ld ?_)
  refine awp_cond (by rfl) (fun h1 => ?_) fun h1 => ?_
  · repeat (first | refine awp_seq ?_ | refine awp_block ?_ | refine awp_skip ?_ | refine awp_exit ?_ | refine awp_ret ?_ | refine awp_region0 fun C => ?_ | refine awp_region1 (by kernel_rfl) (by kernel_rfl) fun C => ?_ | refine walk_end ?_ | refine x_nop ?_ | refine x_bs ?_ | refine x_gr ?_ | refine x_st ?_ | refine x_mv ?_ | refine x_sk ?_ | refine x_sk0 ?_ | refine x_ix ?_ | refine x_ixs ?_ | refine x_sto ?_ | refine x_app ?_ | refine x_app0 ?_ | refine x_ld ?_)
    refine ret0 (x := .c (.v (.bool false))) rfl clV_v ⟨?_, rfl⟩
    rw [eqDL_len (by simp at h1; omega)]
  · have hl : la.length = lb.length := by simp at h1; omega
    repeat (first | refine awp_seq ?_ | refine awp_block ?_ | refine awp_skip ?_ | refine awp_exit ?_ | refine awp_ret ?_ | refine awp_region0 fun C => ?_ | refine awp_region1 (by kernel_rfl) (by kernel_rfl) fun C => ?_ | refine walk_end ?_ | refine x_nop ?_ | refine x_bs ?_ | refine x_gr ?_ | refine x_st ?_ | refine x_mv ?_ | refine x_sk ?_ | refine x_sk0 ?_ | refine x_ix ?_ | refine x_ixs ?_ | refine x_sto ?_ | refine x_app ?_ | refine x_app0 ?_ | refine x_ld ?_)
    refine awp_loopd (fun k : Nat => ⟨tmsF [(1, .c (.ro lb.length 3 (acL lb))), (2, .c (.fn 65 [])), (15, .c (.ro la.length 3 (acL la))), (16, .c (.v (.int .i64 la.length))), (17, .c (.v (.int .i64 k)))], hpsF [], 0, [], 32⟩)
      (fun N k => k + N = la.length ∧ ∀ j x y, j < k → la[j]? = some x → lb[j]? = some y → eqD x y = true) la.length 0 ⟨by omega, by omega⟩ ?_ ?_
    · (refine gh_tidy _ _ rfl rfl ?_ ?_ <;> (repeat' (first | exact TmOk.nil | exact RwOk.nil | refine TmOk.cons ?_ ?_ | refine RwOk.cons ?_ ?_ | rfl | (refine rnV_id' rfl ?_; (first | rfl | (simp [cloV, cloL, clo, acE_clo, acL_clo, owE_clo, owL_clo, cloL_app]; done))) | (refine rn_int ?_; first | rfl | omega | (rw [wrap_nat (by omega) (by omega)]; omega)) | (refine rw_same rfl ?_; (first | rfl | (simp [cloV, cloL, clo, acE_clo, acL_clo, owE_clo, owL_clo, cloL_app]; done))) | exact rw_rn rfl rfl | (refine rw_mid (by rfl) (by rfl) ?_ ?_ <;> (first | rfl | (simp [cloV, cloL, clo, acE_clo, acL_clo, owE_clo, owL_clo, cloL_app]; done))) | (refine rw_rn' rfl rfl ?_; simp; done))))
    rintro N k ⟨hN, hno⟩
    repeat (first | refine awp_seq ?_ | refine awp_block ?_ | refine awp_skip ?_ | refine awp_exit ?_ | refine awp_ret ?_ | refine awp_region0 fun C => ?_ | refine awp_region1 (by kernel_rfl) (by kernel_rfl) fun C => ?_ | refine walk_end ?_ | refine x_nop ?_ | refine x_bs ?_ | refine x_gr ?_ | refine x_st ?_ | refine x_mv ?_ | refine x_sk ?_ | refine x_sk0 ?_ | refine x_ix ?_ | refine x_ixs ?_ | refine x_sto ?_ | refine x_app ?_ | refine x_app0 ?_ | refine x_ld ?_)
    refine awp_cond (by rfl) (fun h2 => ?_) fun h2 => ?_
    · have hk' : k < la.length := by simpa using h2
      obtain ⟨x, hx⟩ : ∃ x, la[k]? = some x := ⟨_, List.getElem?_eq_getElem hk'⟩
      obtain ⟨y, hy⟩ : ∃ y, lb[k]? = some y := ⟨_, List.getElem?_eq_getElem (by omega)⟩
      have hcc := hc x (List.mem_of_getElem? hx) y (List.mem_of_getElem? hy)
      obtain ⟨x0, x1A, x1c, x1l, x2A, x2c, x2l, rfl, gx0, gx1, gx2, -⟩ := shape_impl_Fn (ha x (List.mem_of_getElem? hx))
      obtain ⟨y0, y1A, y1c, y1l, y2A, y2c, y2l, rfl, gy0, gy1, gy2, -⟩ := shape_impl_Fn (hb y (List.mem_of_getElem? hy))
      repeat (first | refine awp_seq ?_ | refine awp_block ?_ | refine awp_skip ?_ | refine awp_exit ?_ | refine awp_ret ?_ | refine awp_region0 fun C => ?_ | refine awp_region1 (by kernel_rfl) (by kernel_rfl) fun C => ?_ | refine walk_end ?_ | refine x_nop ?_ | refine x_bs ?_ | refine x_gr ?_ | refine x_st ?_ | refine x_mv ?_ | refine x_sk ?_ | refine x_sk0 ?_ | refine x_ix ?_ | refine x_ixs ?_ | refine x_sto ?_ | refine x_app ?_ | refine x_app0 ?_ | refine x_ld ?_)
      refine x_call 100 hcc ?_
      repeat (first | refine awp_seq ?_ | refine awp_block ?_ | refine awp_skip ?_ | refine awp_exit ?_ | refine awp_ret ?_ | refine awp_region0 fun C => ?_ | refine awp_region1 (by kernel_rfl) (by kernel_rfl) fun C => ?_ | refine walk_end ?_ | refine x_nop ?_ | refine x_bs ?_ | refine x_gr ?_ | refine x_st ?_ | refine x_mv ?_ | refine x_sk ?_ | refine x_sk0 ?_ | refine x_ix ?_ | refine x_ixs ?_ | refine x_sto ?_ | refine x_app ?_ | refine x_app0 ?_ | refine x_ld ?_)
      refine awp_cond (by rfl) (fun h3 => ?_) fun h3 => ?_
      · repeat (first | refine awp_seq ?_ | refine awp_block ?_ | refine awp_skip ?_ | refine awp_exit ?_ | refine awp_ret ?_ | refine awp_region0 fun C => ?_ | refine awp_region1 (by kernel_rfl) (by kernel_rfl) fun C => ?_ | refine walk_end ?_ | refine x_nop ?_ | refine x_bs ?_ | refine x_gr ?_ | refine x_st ?_ | refine x_mv ?_ | refine x_sk ?_ | refine x_sk0 ?_ | refine x_ix ?_ | refine x_ixs ?_ | refine x_sto ?_ | refine x_app ?_ | refine x_app0 ?_ | refine x_ld ?_)
        refine ret0 (x := .c (.v (.bool false))) rfl clV_v ⟨?_, rfl⟩
        rw [eqDL_no hx hy (by simpa using h3)]
      · repeat (first | refine awp_seq ?_ | refine awp_block ?_ | refine awp_skip ?_ | refine awp_exit ?_ | refine awp_ret ?_ | refine awp_region0 fun C => ?_ | refine awp_region1 (by kernel_rfl) (by kernel_rfl) fun C => ?_ | refine walk_end ?_ | refine x_nop ?_ | refine x_bs ?_ | refine x_gr ?_ | refine x_st ?_ | refine x_mv ?_ | refine x_sk ?_ | refine x_sk0 ?_ | refine x_ix ?_ | refine x_ixs ?_ | refine x_sto ?_ | refine x_app ?_ | refine x_app0 ?_ | refine x_ld ?_)
        refine ⟨N - 1, k + 1, by omega, ⟨by omega, fun j p q hj hp hq => ?_⟩, ?_⟩
        · by_cases e : j = k
          · rw [e, hx] at hp; rw [e, hy] at hq; injection hp with hp; injection hq with hq; subst hp hq; simpa using h3
          · exact hno j p q (by omega) hp hq
        · (refine gh_tidy _ _ rfl rfl ?_ ?_ <;> (repeat' (first | exact TmOk.nil | exact RwOk.nil | refine TmOk.cons ?_ ?_ | refine RwOk.cons ?_ ?_ | rfl | (refine rnV_id' rfl ?_; (first | rfl | (simp [cloV, cloL, clo, acE_clo, acL_clo, owE_clo, owL_clo, cloL_app]; done))) | (refine rn_int ?_; first | rfl | omega | (rw [wrap_nat (by omega) (by omega)]; omega)) | (refine rw_same rfl ?_; (first | rfl | (simp [cloV, cloL, clo, acE_clo, acL_clo, owE_clo, owL_clo, cloL_app]; done))) | exact rw_rn rfl rfl | (refine rw_mid (by rfl) (by rfl) ?_ ?_ <;> (first | rfl | (simp [cloV, cloL, clo, acE_clo, acL_clo, owE_clo, owL_clo, cloL_app]; done))) | (refine rw_rn' rfl rfl ?_; simp; done))))
    · have hk' : ¬ k < la.length := by simpa using h2
      repeat (first | refine awp_seq ?_ | refine awp_block ?_ | refine awp_skip ?_ | refine awp_exit ?_ | refine awp_ret ?_ | refine awp_region0 fun C => ?_ | refine awp_region1 (by kernel_rfl) (by kernel_rfl) fun C => ?_ | refine walk_end ?_ | refine x_nop ?_ | refine x_bs ?_ | refine x_gr ?_ | refine x_st ?_ | refine x_mv ?_ | refine x_sk ?_ | refine x_sk0 ?_ | refine x_ix ?_ | refine x_ixs ?_ | refine x_sto ?_ | refine x_app ?_ | refine x_app0 ?_ | refine x_ld ?_)
      refine ret0 (x := .c (.v (.bool true))) rfl clV_v ⟨?_, rfl⟩
      rw [eqDL_yes hl fun j x y hj hx hy => hno j x y (by omega) hx hy]

set_option maxHeartbeats 600000 in
theorem equalS_c {la lb : List E} (ha : ∀ e ∈ la, e.Ty Try.prog 9) (hka : ∀ e ∈ la, e.enc.length = 1) (hb : ∀ e ∈ lb, e.Ty Try.prog 9) (hkb : ∀ e ∈ lb, e.enc.length = 1) (hla : la.length ≤ 1073741824) (hlb : lb.length ≤ 1073741824) : Ctr Try.prog 95 [.c (.ro la.length 1 (acL la)), .c (.ro lb.length 1 (acL lb))] [] (.c (.v (.bool (eqDL la lb)))) [] := by
  refine ctr_of Try.func95 rfl rfl ?_
  repeat (first | refine awp_seq ?_ | refine awp_block ?_ | refine awp_skip ?_ | refine awp_exit ?_ | refine awp_ret ?_ | refine awp_region0 fun C => ?_ | refine awp_region1 (by kernel_rfl) (by kernel_rfl) fun C => ?_ | refine walk_end ?_ | refine x_nop ?_ | refine x_bs ?_ | refine x_gr ?_ | refine x_st ?_ | refine x_mv ?_ | refine x_sk ?_ | refine x_sk0 ?_ | refine x_ix ?_ | refine x_ixs ?_ | refine x_sto ?_ | refine x_app ?_ | refine x_app0 ?_ | refine x_ld ?_)
  refine awp_cond (by rfl) (fun h1 => ?_) fun h1 => ?_
  · repeat (first | refine awp_seq ?_ | refine awp_block ?_ | refine awp_skip ?_ | refine awp_exit ?_ | refine awp_ret ?_ | refine awp_region0 fun C => ?_ | refine awp_region1 (by kernel_rfl) (by kernel_rfl) fun C => ?_ | refine walk_end ?_ | refine x_nop ?_ | refine x_bs ?_ | refine x_gr ?_ | refine x_st ?_ | refine x_mv ?_ | refine x_sk ?_ | refine x_sk0 ?_ | refine x_ix ?_ | refine x_ixs ?_ | refine x_sto ?_ | refine x_app ?_ | refine x_app0 ?_ | refine x_ld ?_)
    refine ret0 (x := .c (.v (.bool false))) rfl clV_v ⟨?_, rfl⟩
    rw [eqDL_len (by simp at h1; omega)]
  · have hl : la.length = lb.length := by simp at h1; omega
    repeat (first | refine awp_seq ?_ | refine awp_block ?_ | refine awp_skip ?_ | refine awp_exit ?_ | refine awp_ret ?_ | refine awp_region0 fun C => ?_ | refine awp_region1 (by kernel_rfl) (by kernel_rfl) fun C => ?_ | refine walk_end ?_ | refine x_nop ?_ | refine x_bs ?_ | refine x_gr ?_ | refine x_st ?_ | refine x_mv ?_ | refine x_sk ?_ | refine x_sk0 ?_ | refine x_ix ?_ | refine x_ixs ?_ | refine x_sto ?_ | refine x_app ?_ | refine x_app0 ?_ | refine x_ld ?_)
    refine awp_loopd (fun k : Nat => ⟨tmsF [(0, .c (.ro la.length 1 (acL la))), (1, .c (.ro lb.length 1 (acL lb))), (12, .c (.v (.int .i64 la.length))), (13, .c (.v (.int .i64 k)))], hpsF [], 0, [], 26⟩)
      (fun N k => k + N = la.length ∧ ∀ j x y, j < k → la[j]? = some x → lb[j]? = some y → eqD x y = true) la.length 0 ⟨by omega, by omega⟩ ?_ ?_
    · (refine gh_tidy _ _ rfl rfl ?_ ?_ <;> (repeat' (first | exact TmOk.nil | exact RwOk.nil | refine TmOk.cons ?_ ?_ | refine RwOk.cons ?_ ?_ | rfl | (refine rnV_id' rfl ?_; (first | rfl | (simp [cloV, cloL, clo, acE_clo, acL_clo, owE_clo, owL_clo, cloL_app]; done))) | (refine rn_int ?_; first | rfl | omega | (rw [wrap_nat (by omega) (by omega)]; omega)) | (refine rw_same rfl ?_; (first | rfl | (simp [cloV, cloL, clo, acE_clo, acL_clo, owE_clo, owL_clo, cloL_app]; done))) | exact rw_rn rfl rfl | (refine rw_mid (by rfl) (by rfl) ?_ ?_ <;> (first | rfl | (simp [cloV, cloL, clo, acE_clo, acL_clo, owE_clo, owL_clo, cloL_app]; done))) | (refine rw_rn' rfl rfl ?_; simp; done))))
    rintro N k ⟨hN, hno⟩
    repeat (first | refine awp_seq ?_ | refine awp_block ?_ | refine awp_skip ?_ | refine awp_exit ?_ | refine awp_ret ?_ | refine awp_region0 fun C => ?_ | refine awp_region1 (by kernel_rfl) (by kernel_rfl) fun C => ?_ | refine walk_end ?_ | refine x_nop ?_ | refine x_bs ?_ | refine x_gr ?_ | refine x_st ?_ | refine x_mv ?_ | refine x_sk ?_ | refine x_sk0 ?_ | refine x_ix ?_ | refine x_ixs ?_ | refine x_sto ?_ | refine x_app ?_ | refine x_app0 ?_ | refine x_ld ?_)
    refine awp_cond (by rfl) (fun h2 => ?_) fun h2 => ?_
    · have hk' : k < la.length := by simpa using h2
      obtain ⟨x, hx⟩ : ∃ x, la[k]? = some x := ⟨_, List.getElem?_eq_getElem hk'⟩
      obtain ⟨y, hy⟩ : ∃ y, lb[k]? = some y := ⟨_, List.getElem?_eq_getElem (by omega)⟩
      obtain ⟨x0, rfl, -⟩ := (ha x (List.mem_of_getElem? hx)).str_ Try.underlying9
      obtain ⟨y0, rfl, -⟩ := (hb y (List.mem_of_getElem? hy)).str_ Try.underlying9
      repeat (first | refine awp_seq ?_ | refine awp_block ?_ | refine awp_skip ?_ | refine awp_exit ?_ | refine awp_ret ?_ | refine awp_region0 fun C => ?_ | refine awp_region1 (by kernel_rfl) (by kernel_rfl) fun C => ?_ | refine walk_end ?_ | refine x_nop ?_ | refine x_bs ?_ | refine x_gr ?_ | refine x_st ?_ | refine x_mv ?_ | refine x_sk ?_ | refine x_sk0 ?_ | refine x_ix ?_ | refine x_ixs ?_ | refine x_sto ?_ | refine x_app ?_ | refine x_app0 ?_ | refine x_ld ?_)
      refine awp_cond (by rfl) (fun h3 => ?_) fun h3 => ?_
      · repeat (first | refine awp_seq ?_ | refine awp_block ?_ | refine awp_skip ?_ | refine awp_exit ?_ | refine awp_ret ?_ | refine awp_region0 fun C => ?_ | refine awp_region1 (by kernel_rfl) (by kernel_rfl) fun C => ?_ | refine walk_end ?_ | refine x_nop ?_ | refine x_bs ?_ | refine x_gr ?_ | refine x_st ?_ | refine x_mv ?_ | refine x_sk ?_ | refine x_sk0 ?_ | refine x_ix ?_ | refine x_ixs ?_ | refine x_sto ?_ | refine x_app ?_ | refine x_app0 ?_ | refine x_ld ?_)
        refine ret0 (x := .c (.v (.bool false))) rfl clV_v ⟨?_, rfl⟩
        rw [eqDL_no hx hy (by rw [eqD_str]; simpa using h3)]
      · repeat (first | refine awp_seq ?_ | refine awp_block ?_ | refine awp_skip ?_ | refine awp_exit ?_ | refine awp_ret ?_ | refine awp_region0 fun C => ?_ | refine awp_region1 (by kernel_rfl) (by kernel_rfl) fun C => ?_ | refine walk_end ?_ | refine x_nop ?_ | refine x_bs ?_ | refine x_gr ?_ | refine x_st ?_ | refine x_mv ?_ | refine x_sk ?_ | refine x_sk0 ?_ | refine x_ix ?_ | refine x_ixs ?_ | refine x_sto ?_ | refine x_app ?_ | refine x_app0 ?_ | refine x_ld ?_)
        refine ⟨N - 1, k + 1, by omega, ⟨by omega, fun j p q hj hp hq => ?_⟩, ?_⟩
        · by_cases e : j = k
          · rw [e, hx] at hp; rw [e, hy] at hq; injection hp with hp; injection hq with hq; subst hp hq; rw [eqD_str]; simpa using h3
          · exact hno j p q (by omega) hp hq
        · (refine gh_tidy _ _ rfl rfl ?_ ?_ <;> (repeat' (first | exact TmOk.nil | exact RwOk.nil | refine TmOk.cons ?_ ?_ | refine RwOk.cons ?_ ?_ | rfl | (refine rnV_id' rfl ?_; (first | rfl | (simp [cloV, cloL, clo, acE_clo, acL_clo, owE_clo, owL_clo, cloL_app]; done))) | (refine rn_int ?_; first | rfl | omega | (rw [wrap_nat (by omega) (by omega)]; omega)) | (refine rw_same rfl ?_; (first | rfl | (simp [cloV, cloL, clo, acE_clo, acL_clo, owE_clo, owL_clo, cloL_app]; done))) | exact rw_rn rfl rfl | (refine rw_mid (by rfl) (by rfl) ?_ ?_ <;> (first | rfl | (simp [cloV, cloL, clo, acE_clo, acL_clo, owE_clo, owL_clo, cloL_app]; done))) | (refine rw_rn' rfl rfl ?_; simp; done))))
    · have hk' : ¬ k < la.length := by simpa using h2
      repeat (first | refine awp_seq ?_ | refine awp_block ?_ | refine awp_skip ?_ | refine awp_exit ?_ | refine awp_ret ?_ | refine awp_region0 fun C => ?_ | refine awp_region1 (by kernel_rfl) (by kernel_rfl) fun C => ?_ | refine walk_end ?_ | refine x_nop ?_ | refine x_bs ?_ | refine x_gr ?_ | refine x_st ?_ | refine x_mv ?_ | refine x_sk ?_ | refine x_sk0 ?_ | refine x_ix ?_ | refine x_ixs ?_ | refine x_sto ?_ | refine x_app ?_ | refine x_app0 ?_ | refine x_ld ?_)
      refine ret0 (x := .c (.v (.bool true))) rfl clV_v ⟨?_, rfl⟩
      rw [eqDL_yes hl fun j x y hj hx hy => hno j x y (by omega) hx hy]

theorem ty_fld1 {P : Program} {t t0 t1 : TypeId} {tr : List TypeId} {F : Array Field} {a b : E} {r : List E} (h : (E.agg (a :: b :: r)).Ty P t) (hu : P.underlying t = some (.struct F)) (hF : F.toList.map (·.type) = t0 :: t1 :: tr) : b.Ty P t1 := by
  obtain ⟨fs, h1, q0⟩ := h.agg_ hu
  rw [hF] at q0
  injection h1 with h1
  subst h1
  obtain ⟨_, _, e0, h0, _, _, e1, h1, _⟩ := q0
  cases e0; cases e1
  exact h1
theorem sameExpr_n (n : Nat) : ∀ (x y : E), x.Ty Try.prog 90 → y.Ty Try.prog 90 → x.sz ≤ n → y.sz ≤ 1048576 → n ≤ 1048576 → Ctr Try.prog 92 [.ag (acE x), .ag (acE y)] [] (.c (.v (.bool (eqD x y)))) [] := by
  induction n using Nat.strongRecOn with
  | _ n ih =>
  intro x y hx hy hsx hsy hn
  obtain ⟨x0, x1, x2, x3A, x3c, x3l, rfl, gx0, gx1, gx2, gx3, -⟩ := shape_impl_Expr hx
  obtain ⟨y0, y1, y2, y3A, y3c, y3l, rfl, gy0, gy1, gy2, gy3, -⟩ := shape_impl_Expr hy
  simp only [E.sz, E.szL] at hsx hsy
  have c1 := equalFExpr_c gx3.1 gx3.2 gy3.1 gy3.2 (by omega) (by omega) (fun p hp q hq => ih p.sz (by have h1 := E.szL_mem hp; have h2 := List.length_pos_of_mem hp; omega) p q (gx3.1 p hp) (gy3.1 q hq) (Nat.le_refl _) (by have h1 := E.szL_mem hq; omega) (by have h1 := E.szL_mem hp; have h2 := List.length_pos_of_mem hp; omega))
  clear ih
  refine ctr_of Try.func92 rfl rfl ?_
  repeat' (first | refine awp_seq ?_ | refine awp_block ?_ | refine awp_skip ?_ | refine awp_exit ?_ | refine awp_region0 fun C => ?_ | refine awp_region1 (by kernel_rfl) (by kernel_rfl) fun C => ?_ | refine walk_end ?_ | (refine x_gm ?_ ?_ <;> intro hG <;> (try cases hG)) | refine x_nop ?_ | refine x_bs ?_ | refine x_gr ?_ | refine x_st ?_ | refine x_mv ?_ | refine x_sk ?_ | refine x_sk0 ?_ | refine x_ix ?_ | refine x_ixs ?_ | refine x_sto ?_ | refine x_app ?_ | refine x_app0 ?_ | refine x_ld ?_ | refine x_cal ?_ | (refine awp_cond (by rfl) ?_ ?_ <;> intro hC <;> (try cases hC)))
  all_goals
    refine awp_ret ?_
    refine ret0 rfl clV_v ⟨?_, rfl⟩
    simp only [eqD_agg, eqD_lst, eqD_int, eqD_bool, eqD_str, eqDL_cons, eqDL_nil]
    first | (simp [*]; done) | (simp_all; done) | skip
theorem implSameExpr_c {x y : E} (hx : x.Ty Try.prog 90) (hy : y.Ty Try.prog 90) (hsx : x.sz ≤ 1048576) (hsy : y.sz ≤ 1048576) : Ctr Try.prog 92 [.ag (acE x), .ag (acE y)] [] (.c (.v (.bool (eqD x y)))) [] := sameExpr_n _ x y hx hy hsx hsy (Nat.le_refl _)
theorem sameStmt_n (n : Nat) : ∀ (x y : E), x.Ty Try.prog 141 → y.Ty Try.prog 141 → x.sz ≤ n → y.sz ≤ 1048576 → n ≤ 1048576 → Ctr Try.prog 94 [.ag (acE x), .ag (acE y)] [] (.c (.v (.bool (eqD x y)))) [] := by
  induction n using Nat.strongRecOn with
  | _ n ih =>
  intro x y hx hy hsx hsy hn
  obtain ⟨x0, x1, x2, x3A, x3c, x3l, x4A, x4c, x4l, x5A, x5c, x5l, rfl, gx0, gx1, gx2, gx3, gx4, gx5, -⟩ := shape_impl_Stmt hx
  obtain ⟨y0, y1, y2, y3A, y3c, y3l, y4A, y4c, y4l, y5A, y5c, y5l, rfl, gy0, gy1, gy2, gy3, gy4, gy5, -⟩ := shape_impl_Stmt hy
  simp only [E.sz, E.szL] at hsx hsy
  have c1 := equalFExpr_c gx3.1 gx3.2 gy3.1 gy3.2 (by omega) (by omega) (fun p hp q hq => implSameExpr_c (gx3.1 p hp) (gy3.1 q hq) (by have h1 := E.szL_mem hp; have h2 := List.length_pos_of_mem hp; omega) (by have h1 := E.szL_mem hq; omega))
  have c2 := equalFStmt_c gx4.1 gx4.2 gy4.1 gy4.2 (by omega) (by omega) (fun p hp q hq => ih p.sz (by have h1 := E.szL_mem hp; have h2 := List.length_pos_of_mem hp; omega) p q (gx4.1 p hp) (gy4.1 q hq) (Nat.le_refl _) (by have h1 := E.szL_mem hq; omega) (by have h1 := E.szL_mem hp; have h2 := List.length_pos_of_mem hp; omega))
  have c3 := equalFStmt_c gx5.1 gx5.2 gy5.1 gy5.2 (by omega) (by omega) (fun p hp q hq => ih p.sz (by have h1 := E.szL_mem hp; have h2 := List.length_pos_of_mem hp; omega) p q (gx5.1 p hp) (gy5.1 q hq) (Nat.le_refl _) (by have h1 := E.szL_mem hq; omega) (by have h1 := E.szL_mem hp; have h2 := List.length_pos_of_mem hp; omega))
  clear ih
  refine ctr_of Try.func94 rfl rfl ?_
  repeat' (first | refine awp_seq ?_ | refine awp_block ?_ | refine awp_skip ?_ | refine awp_exit ?_ | refine awp_region0 fun C => ?_ | refine awp_region1 (by kernel_rfl) (by kernel_rfl) fun C => ?_ | refine walk_end ?_ | (refine x_gm ?_ ?_ <;> intro hG <;> (try cases hG)) | refine x_nop ?_ | refine x_bs ?_ | refine x_gr ?_ | refine x_st ?_ | refine x_mv ?_ | refine x_sk ?_ | refine x_sk0 ?_ | refine x_ix ?_ | refine x_ixs ?_ | refine x_sto ?_ | refine x_app ?_ | refine x_app0 ?_ | refine x_ld ?_ | refine x_cak c1 ?_ | refine x_cak c2 ?_ | refine x_cak c3 ?_ | (refine awp_cond (by rfl) ?_ ?_ <;> intro hC <;> (try cases hC)))
  all_goals
    refine awp_ret ?_
    refine ret0 rfl clV_v ⟨?_, rfl⟩
    simp only [eqD_agg, eqD_lst, eqD_int, eqD_bool, eqD_str, eqDL_cons, eqDL_nil]
    first | (simp [*]; done) | (simp_all; done) | skip
theorem implSameStmt_c {x y : E} (hx : x.Ty Try.prog 141) (hy : y.Ty Try.prog 141) (hsx : x.sz ≤ 1048576) (hsy : y.sz ≤ 1048576) : Ctr Try.prog 94 [.ag (acE x), .ag (acE y)] [] (.c (.v (.bool (eqD x y)))) [] := sameStmt_n _ x y hx hy hsx hsy (Nat.le_refl _)
theorem sameRule_c {x y : E} (hx : x.Ty Try.prog 93) (hy : y.Ty Try.prog 93) (hsx : x.sz ≤ 1048576) (hsy : y.sz ≤ 1048576) : Ctr Try.prog 63 [.ag (acE x), .ag (acE y)] [] (.c (.v (.bool (eqD x y)))) [] := by
  have hx' := hx; have hy' := hy
  obtain ⟨x0, x1, x2, x3, x4A, x4c, x4l, x5A, x5c, x5l, rfl, gx0, gx1, gx2, gx3, gx4, gx5, -⟩ := shape_impl_Rule hx
  obtain ⟨y0, y1, y2, y3, y4A, y4c, y4l, y5A, y5c, y5l, rfl, gy0, gy1, gy2, gy3, gy4, gy5, -⟩ := shape_impl_Rule hy
  have tx := ty_fld1 hx' Try.underlying93 rfl
  have ty := ty_fld1 hy' Try.underlying93 rfl
  simp only [E.sz, E.szL] at hsx hsy
  have c1 := implSameExpr_c tx ty (by simp only [E.sz, E.szL]; omega) (by simp only [E.sz, E.szL]; omega)
  have c2 := equalFStmt_c gx5.1 gx5.2 gy5.1 gy5.2 (by omega) (by omega) (fun p hp q hq => implSameStmt_c (gx5.1 p hp) (gy5.1 q hq) (by have h1 := E.szL_mem hp; have h2 := List.length_pos_of_mem hp; omega) (by have h1 := E.szL_mem hq; omega))
  refine ctr_of Try.func63 rfl rfl ?_
  repeat' (first | refine awp_seq ?_ | refine awp_block ?_ | refine awp_skip ?_ | refine awp_exit ?_ | refine awp_region0 fun C => ?_ | refine awp_region1 (by kernel_rfl) (by kernel_rfl) fun C => ?_ | refine walk_end ?_ | (refine x_gm ?_ ?_ <;> intro hG <;> (try cases hG)) | refine x_nop ?_ | refine x_bs ?_ | refine x_gr ?_ | refine x_st ?_ | refine x_mv ?_ | refine x_sk ?_ | refine x_sk0 ?_ | refine x_ix ?_ | refine x_ixs ?_ | refine x_sto ?_ | refine x_app ?_ | refine x_app0 ?_ | refine x_ld ?_ | refine x_cal ?_ | (refine awp_cond (by rfl) ?_ ?_ <;> intro hC <;> (try cases hC)))
  all_goals
    refine awp_ret ?_
    refine ret0 rfl clV_v ⟨?_, rfl⟩
    clear c1 c2 hx' hy' tx ty
    simp only [eqD_agg, eqD_lst, eqD_int, eqD_bool, eqD_str, eqDL_cons, eqDL_nil] at *
    first | (simp [*]; done) | (simp_all; done) | skip
theorem sameFn_c {x y : E} (hx : x.Ty Try.prog 97) (hy : y.Ty Try.prog 97) (hsx : x.sz ≤ 1048576) (hsy : y.sz ≤ 1048576) : Ctr Try.prog 65 [.ag (acE x), .ag (acE y)] [] (.c (.v (.bool (eqD x y)))) [] := by
  obtain ⟨x0, x1A, x1c, x1l, x2A, x2c, x2l, rfl, gx0, gx1, gx2, -⟩ := shape_impl_Fn hx
  obtain ⟨y0, y1A, y1c, y1l, y2A, y2c, y2l, rfl, gy0, gy1, gy2, -⟩ := shape_impl_Fn hy
  simp only [E.sz, E.szL] at hsx hsy
  have c1 := equalS_c gx1.1 gx1.2 gy1.1 gy1.2 (by omega) (by omega)
  have c2 := equalFStmt_c gx2.1 gx2.2 gy2.1 gy2.2 (by omega) (by omega) (fun p hp q hq => implSameStmt_c (gx2.1 p hp) (gy2.1 q hq) (by have h1 := E.szL_mem hp; have h2 := List.length_pos_of_mem hp; omega) (by have h1 := E.szL_mem hq; omega))
  refine ctr_of Try.func65 rfl rfl ?_
  repeat' (first | refine awp_seq ?_ | refine awp_block ?_ | refine awp_skip ?_ | refine awp_exit ?_ | refine awp_region0 fun C => ?_ | refine awp_region1 (by kernel_rfl) (by kernel_rfl) fun C => ?_ | refine walk_end ?_ | (refine x_gm ?_ ?_ <;> intro hG <;> (try cases hG)) | refine x_nop ?_ | refine x_bs ?_ | refine x_gr ?_ | refine x_st ?_ | refine x_mv ?_ | refine x_sk ?_ | refine x_sk0 ?_ | refine x_ix ?_ | refine x_ixs ?_ | refine x_sto ?_ | refine x_app ?_ | refine x_app0 ?_ | refine x_ld ?_ | refine x_cal ?_ | (refine awp_cond (by rfl) ?_ ?_ <;> intro hC <;> (try cases hC)))
  all_goals
    refine awp_ret ?_
    refine ret0 rfl clV_v ⟨?_, rfl⟩
    simp only [eqD_agg, eqD_lst, eqD_int, eqD_bool, eqD_str, eqDL_cons, eqDL_nil]
    first | (simp [*]; done) | (simp_all; done) | skip
theorem implSameProg_c {x y : E} (hx : x.Ty Try.prog 55) (hy : y.Ty Try.prog 55) (hsx : x.sz ≤ 1048576) (hsy : y.sz ≤ 1048576) : Ctr Try.prog 21 [.ag (acE x), .ag (acE y)] [] (.c (.v (.bool (eqD x y)))) [] := by
  obtain ⟨x0A, x0c, x0l, x1A, x1c, x1l, rfl, gx0, gx1, -⟩ := shape_impl_Prog hx
  obtain ⟨y0A, y0c, y0l, y1A, y1c, y1l, rfl, gy0, gy1, -⟩ := shape_impl_Prog hy
  simp only [E.sz, E.szL] at hsx hsy
  have c1 := equalFRule_c gx0.1 gx0.2 gy0.1 gy0.2 (by omega) (by omega) (fun p hp q hq => sameRule_c (gx0.1 p hp) (gy0.1 q hq) (by have h1 := E.szL_mem hp; have h2 := List.length_pos_of_mem hp; omega) (by have h1 := E.szL_mem hq; omega))
  have c2 := equalFFn_c gx1.1 gx1.2 gy1.1 gy1.2 (by omega) (by omega) (fun p hp q hq => sameFn_c (gx1.1 p hp) (gy1.1 q hq) (by have h1 := E.szL_mem hp; have h2 := List.length_pos_of_mem hp; omega) (by have h1 := E.szL_mem hq; omega))
  refine ctr_of Try.func21 rfl rfl ?_
  repeat' (first | refine awp_seq ?_ | refine awp_block ?_ | refine awp_skip ?_ | refine awp_exit ?_ | refine awp_region0 fun C => ?_ | refine awp_region1 (by kernel_rfl) (by kernel_rfl) fun C => ?_ | refine walk_end ?_ | (refine x_gm ?_ ?_ <;> intro hG <;> (try cases hG)) | refine x_nop ?_ | refine x_bs ?_ | refine x_gr ?_ | refine x_st ?_ | refine x_mv ?_ | refine x_sk ?_ | refine x_sk0 ?_ | refine x_ix ?_ | refine x_ixs ?_ | refine x_sto ?_ | refine x_app ?_ | refine x_app0 ?_ | refine x_ld ?_ | refine x_cal ?_ | (refine awp_cond (by rfl) ?_ ?_ <;> intro hC <;> (try cases hC)))
  all_goals
    refine awp_ret ?_
    refine ret0 rfl clV_v ⟨?_, rfl⟩
    simp only [eqD_agg, eqD_lst, eqD_int, eqD_bool, eqD_str, eqDL_cons, eqDL_nil]
    first | (simp [*]; done) | (simp_all; done) | skip
end Go.Proofs.Ytkhioiehcaaejaa
