/- The reference's SameExpr, l10SameBlock, SameStmt, SameProg: by the abstract machine. -/
import Derived.Test.YtkhioiehcaaejaaT20
namespace Go.Proofs.Ytkhioiehcaaejaa
open Go.RowKit
set_option maxRecDepth 100000

set_option maxHeartbeats 600000 in
theorem sameBlock_c {la lb : List E} (ha : ∀ e ∈ la, e.Ty Try.prog 141) (hka : ∀ e ∈ la, e.enc.length = 6) (hb : ∀ e ∈ lb, e.Ty Try.prog 141) (hkb : ∀ e ∈ lb, e.enc.length = 6) (hla : la.length ≤ 1073741824) (hlb : lb.length ≤ 1073741824) (hc : ∀ x ∈ la, ∀ y ∈ lb, Ctr Try.prog 89 [.ag (acE x), .ag (acE y)] [] (.c (.v (.bool (eqD x y)))) []) : Ctr Try.prog 59 [.c (.ro la.length 6 (acL la)), .c (.ro lb.length 6 (acL lb))] [] (.c (.v (.bool (eqDL la lb)))) [] := by
  refine ctr_of Try.func59 rfl rfl ?_
  repeat' (first | refine awp_seq ?_ | refine awp_block ?_ | refine awp_skip ?_ | refine awp_exit ?_ | refine awp_region0 fun C => ?_ | refine awp_region1 (by kernel_rfl) (by kernel_rfl) fun C => ?_ | refine walk_end ?_ | (refine x_gm ?_ ?_ <;> intro hG <;> (try cases hG)) | refine x_nop ?_ | refine x_bs ?_ | refine x_gr ?_ | refine x_st ?_ | refine x_mv ?_ | refine x_sk ?_ | refine x_sk0 ?_ | refine x_ix ?_ | refine x_ixs ?_ | refine x_sto ?_ | refine x_app ?_ | refine x_app0 ?_ | refine x_ld ?_ | refine x_cal ?_ | (refine awp_cond (by rfl) ?_ ?_ <;> intro hC <;> (try cases hC)))
  · refine awp_ret ?_
    refine ret0 (x := .c (.v (.bool false))) rfl clV_v ⟨?_, rfl⟩
    rw [eqDL_len (by revert hC; simp; omega)]
  have hl : la.length = lb.length := by revert hC; simp; omega
  refine awp_loopd (fun k : Nat => ⟨tmsF [(0, .c (.ro la.length 6 (acL la))), (1, .c (.ro lb.length 6 (acL lb))), (5, .c (.v (.int .i64 k)))], hpsF [], 0, [], 27⟩)
    (fun N k => k + N = la.length ∧ ∀ j p q, j < k → la[j]? = some p → lb[j]? = some q → eqD p q = true) la.length 0 ⟨by omega, by omega⟩ ?_ ?_
  · (refine gh_tidy _ _ rfl rfl ?_ ?_ <;> (repeat' (first | exact TmOk.nil | exact RwOk.nil | refine TmOk.cons ?_ ?_ | refine RwOk.cons ?_ ?_ | rfl | (refine rnV_id' rfl ?_; (first | rfl | (simp [cloV, cloL, clo, acE_clo, acL_clo, owE_clo, owL_clo, cloL_app]; done))) | (refine rn_int ?_; first | rfl | omega | (rw [wrap_nat (by omega) (by omega)]; omega)) | (refine rw_same rfl ?_; (first | rfl | (simp [cloV, cloL, clo, acE_clo, acL_clo, owE_clo, owL_clo, cloL_app]; done))) | exact rw_rn rfl rfl | (refine rw_mid (by rfl) (by rfl) ?_ ?_ <;> (first | rfl | (simp [cloV, cloL, clo, acE_clo, acL_clo, owE_clo, owL_clo, cloL_app]; done))) | (refine rw_rn' rfl rfl ?_; simp; done))))
  rintro N k ⟨hN, hno⟩
  repeat (first | refine awp_seq ?_ | refine awp_block ?_ | refine awp_skip ?_ | refine awp_exit ?_ | refine awp_ret ?_ | refine awp_region0 fun C => ?_ | refine awp_region1 (by kernel_rfl) (by kernel_rfl) fun C => ?_ | refine walk_end ?_ | refine x_eqVal ?_ | refine x_neVal ?_ | refine x_eqIns ?_ | refine x_neIns ?_ | refine x_nop ?_ | refine x_bs ?_ | refine x_gr ?_ | refine x_st ?_ | refine x_mv ?_ | refine x_sk ?_ | refine x_sk0 ?_ | refine x_ix ?_ | refine x_ixs ?_ | refine x_sto ?_ | refine x_app ?_ | refine x_app0 ?_ | refine x_ld ?_)
  refine awp_cond (by rfl) (fun h2 => ?_) fun h2 => ?_
  · as_aux_lemma =>
    have hk' : k < la.length := by simpa using h2
    obtain ⟨p, hp⟩ : ∃ p, la[k]? = some p := ⟨_, List.getElem?_eq_getElem hk'⟩
    obtain ⟨q, hq⟩ : ∃ q, lb[k]? = some q := ⟨_, List.getElem?_eq_getElem (by omega)⟩
    have mp := List.mem_of_getElem? hp
    have mq := List.mem_of_getElem? hq
    have hcc := hc p mp q mq
    obtain ⟨x0, x1, x2, x3A, x3c, x3l, x4A, x4c, x4l, x5A, x5c, x5l, rfl, gx0, gx1, gx2, gx3, gx4, gx5, -⟩ := shape_impl_Stmt (ha p mp)
    obtain ⟨y0, y1, y2, y3A, y3c, y3l, y4A, y4c, y4l, y5A, y5c, y5l, rfl, gy0, gy1, gy2, gy3, gy4, gy5, -⟩ := shape_impl_Stmt (hb q mq)
    repeat' (first | refine awp_seq ?_ | refine awp_block ?_ | refine awp_skip ?_ | refine awp_exit ?_ | refine awp_region0 fun C => ?_ | refine awp_region1 (by kernel_rfl) (by kernel_rfl) fun C => ?_ | refine walk_end ?_ | (refine x_gm ?_ ?_ <;> intro hG <;> (try cases hG)) | refine x_nop ?_ | refine x_bs ?_ | refine x_gr ?_ | refine x_st ?_ | refine x_mv ?_ | refine x_sk ?_ | refine x_sk0 ?_ | refine x_ix ?_ | refine x_ixs ?_ | refine x_sto ?_ | refine x_app ?_ | refine x_app0 ?_ | refine x_ld ?_ | refine x_cal ?_ | (refine awp_cond (by rfl) ?_ ?_ <;> intro hC <;> (try cases hC)))
    · refine awp_ret ?_
      refine ret0 (x := .c (.v (.bool false))) rfl clV_v ⟨?_, rfl⟩
      rw [eqDL_no hp hq (by simpa using hC)]

    · refine ⟨N - 1, k + 1, by omega, ⟨by omega, fun j r s hj hr hs => ?_⟩, ?_⟩
      · by_cases e : j = k
        · rw [e, hp] at hr; rw [e, hq] at hs; injection hr with hr; injection hs with hs; subst hr hs; simpa using hC
        · exact hno j r s (by omega) hr hs
      · (refine gh_tidy _ _ rfl rfl ?_ ?_ <;> (repeat' (first | exact TmOk.nil | exact RwOk.nil | refine TmOk.cons ?_ ?_ | refine RwOk.cons ?_ ?_ | rfl | (refine rnV_id' rfl ?_; (first | rfl | (simp [cloV, cloL, clo, acE_clo, acL_clo, owE_clo, owL_clo, cloL_app]; done))) | (refine rn_int ?_; first | rfl | omega | (rw [wrap_nat (by omega) (by omega)]; omega)) | (refine rw_same rfl ?_; (first | rfl | (simp [cloV, cloL, clo, acE_clo, acL_clo, owE_clo, owL_clo, cloL_app]; done))) | exact rw_rn rfl rfl | (refine rw_mid (by rfl) (by rfl) ?_ ?_ <;> (first | rfl | (simp [cloV, cloL, clo, acE_clo, acL_clo, owE_clo, owL_clo, cloL_app]; done))) | (refine rw_rn' rfl rfl ?_; simp; done))))

  have hk' : ¬ k < la.length := by simpa using h2
  have qa : eqDL la lb = true := eqDL_yes (by omega) fun j p q hj hp hq => hno j p q (by omega) hp hq
  clear hno hN h2 hk'
  repeat' (first | refine awp_seq ?_ | refine awp_block ?_ | refine awp_skip ?_ | refine awp_exit ?_ | refine awp_region0 fun C => ?_ | refine awp_region1 (by kernel_rfl) (by kernel_rfl) fun C => ?_ | refine walk_end ?_ | (refine x_gm ?_ ?_ <;> intro hG <;> (try cases hG)) | refine x_nop ?_ | refine x_bs ?_ | refine x_gr ?_ | refine x_st ?_ | refine x_mv ?_ | refine x_sk ?_ | refine x_sk0 ?_ | refine x_ix ?_ | refine x_ixs ?_ | refine x_sto ?_ | refine x_app ?_ | refine x_app0 ?_ | refine x_ld ?_ | refine x_cal ?_ | (refine awp_cond (by rfl) ?_ ?_ <;> intro hC <;> (try cases hC)))
  refine awp_ret ?_
  refine ret0 (x := .c (.v (.bool true))) rfl clV_v ⟨?_, rfl⟩
  rw [qa]

set_option maxHeartbeats 1000000 in
theorem specSameExpr_n (n : Nat) : ∀ (x y : E), x.Ty Try.prog 90 → y.Ty Try.prog 90 → x.sz ≤ n → y.sz ≤ 1048576 → n ≤ 1048576 → Ctr Try.prog 58 [.ag (acE x), .ag (acE y)] [] (.c (.v (.bool (eqD x y)))) [] := by
  induction n using Nat.strongRecOn with
  | _ n ih =>
  intro x y hx hy hsx hsy hn
  obtain ⟨x0, x1, x2, x3A, x3c, x3l, rfl, gx0, gx1, gx2, gx3, -⟩ := shape_impl_Expr hx
  obtain ⟨y0, y1, y2, y3A, y3c, y3l, rfl, gy0, gy1, gy2, gy3, -⟩ := shape_impl_Expr hy
  simp only [E.sz, E.szL] at hsx hsy
  have hc : ∀ p ∈ x3l, ∀ q ∈ y3l, Ctr Try.prog 58 [.ag (acE p), .ag (acE q)] [] (.c (.v (.bool (eqD p q)))) [] := fun p hp q hq => ih p.sz (by have h1 := E.szL_mem hp; have h2 := List.length_pos_of_mem hp; omega) p q (gx3.1 p hp) (gy3.1 q hq) (Nat.le_refl _) (by have h1 := E.szL_mem hq; omega) (by have h1 := E.szL_mem hp; have h2 := List.length_pos_of_mem hp; omega)
  clear ih
  have ha := gx3.1; have hka := gx3.2; have hb := gy3.1; have hkb := gy3.2
  refine ctr_of Try.func58 rfl rfl ?_
  repeat' (first | refine awp_seq ?_ | refine awp_block ?_ | refine awp_skip ?_ | refine awp_exit ?_ | refine awp_region0 fun C => ?_ | refine awp_region1 (by kernel_rfl) (by kernel_rfl) fun C => ?_ | refine walk_end ?_ | (refine x_gm ?_ ?_ <;> intro hG <;> (try cases hG)) | refine x_nop ?_ | refine x_bs ?_ | refine x_gr ?_ | refine x_st ?_ | refine x_mv ?_ | refine x_sk ?_ | refine x_sk0 ?_ | refine x_ix ?_ | refine x_ixs ?_ | refine x_sto ?_ | refine x_app ?_ | refine x_app0 ?_ | refine x_ld ?_ | refine x_cal ?_ | (refine awp_cond (by rfl) ?_ ?_ <;> intro hC <;> (try cases hC)))
  rotate_right
  all_goals first
    | (refine awp_ret ?_
       refine ret0 (x := .c (.v (.bool false))) rfl clV_v ⟨?_, rfl⟩
       simp only [eqD_agg, eqD_lst, eqD_int, eqD_bool, eqD_str, eqDL_cons, eqDL_nil]
       first | (rw [eqDL_len (by revert hC; simp; omega)]; simp; done) | (simp at hG; simp [hG]; done) | (simp_all; done))
    | skip
  rename_i q1 q2
  have hl : x3l.length = y3l.length := by revert hC; simp; omega
  refine awp_loopd (fun k : Nat => ⟨tmsF [(2, .c (.pt 2 0)), (3, .c (.pt 3 0)), (5, .c (.v (.int .i64 k)))], hpsF [(2, 2, ⟨90, 0, 0, true, [.v (.int .i64 x0), .v (.int .i64 x1), .v (.string x2), .ro x3l.length 4 (acL x3l)]⟩), (3, 3, ⟨90, 0, 0, true, [.v (.int .i64 y0), .v (.int .i64 y1), .v (.string y2), .ro y3l.length 4 (acL y3l)]⟩)], 0, [2, 3], 53⟩)
    (fun N k => k + N = x3l.length ∧ ∀ j p q, j < k → x3l[j]? = some p → y3l[j]? = some q → eqD p q = true) x3l.length 0 ⟨by omega, by omega⟩ ?_ ?_
  · (refine gh_tidy _ _ rfl rfl ?_ ?_ <;> (repeat' (first | exact TmOk.nil | exact RwOk.nil | refine TmOk.cons ?_ ?_ | refine RwOk.cons ?_ ?_ | rfl | (refine rnV_id' rfl ?_; (first | rfl | (simp [cloV, cloL, clo, acE_clo, acL_clo, owE_clo, owL_clo, cloL_app]; done))) | (refine rn_int ?_; first | rfl | omega | (rw [wrap_nat (by omega) (by omega)]; omega)) | (refine rw_same rfl ?_; (first | rfl | (simp [cloV, cloL, clo, acE_clo, acL_clo, owE_clo, owL_clo, cloL_app]; done))) | exact rw_rn rfl rfl | (refine rw_mid (by rfl) (by rfl) ?_ ?_ <;> (first | rfl | (simp [cloV, cloL, clo, acE_clo, acL_clo, owE_clo, owL_clo, cloL_app]; done))) | (refine rw_rn' rfl rfl ?_; simp; done))))
  rintro N k ⟨hN, hno⟩
  repeat (first | refine awp_seq ?_ | refine awp_block ?_ | refine awp_skip ?_ | refine awp_exit ?_ | refine awp_ret ?_ | refine awp_region0 fun C => ?_ | refine awp_region1 (by kernel_rfl) (by kernel_rfl) fun C => ?_ | refine walk_end ?_ | refine x_eqVal ?_ | refine x_neVal ?_ | refine x_eqIns ?_ | refine x_neIns ?_ | refine x_nop ?_ | refine x_bs ?_ | refine x_gr ?_ | refine x_st ?_ | refine x_mv ?_ | refine x_sk ?_ | refine x_sk0 ?_ | refine x_ix ?_ | refine x_ixs ?_ | refine x_sto ?_ | refine x_app ?_ | refine x_app0 ?_ | refine x_ld ?_)
  refine awp_cond (by rfl) (fun h2 => ?_) fun h2 => ?_
  · as_aux_lemma =>
    have hk' : k < x3l.length := by simpa using h2
    obtain ⟨p, hp⟩ : ∃ p, x3l[k]? = some p := ⟨_, List.getElem?_eq_getElem hk'⟩
    obtain ⟨q, hq⟩ : ∃ q, y3l[k]? = some q := ⟨_, List.getElem?_eq_getElem (by omega)⟩
    have mp := List.mem_of_getElem? hp
    have mq := List.mem_of_getElem? hq
    have hcc := hc p mp q mq
    obtain ⟨u0, u1, u2, u3A, u3c, u3l, rfl, gu0, gu1, gu2, gu3, -⟩ := shape_impl_Expr (ha p mp)
    obtain ⟨v0, v1, v2, v3A, v3c, v3l, rfl, gv0, gv1, gv2, gv3, -⟩ := shape_impl_Expr (hb q mq)
    repeat' (first | refine awp_seq ?_ | refine awp_block ?_ | refine awp_skip ?_ | refine awp_exit ?_ | refine awp_region0 fun C => ?_ | refine awp_region1 (by kernel_rfl) (by kernel_rfl) fun C => ?_ | refine walk_end ?_ | (refine x_gm ?_ ?_ <;> intro hG <;> (try cases hG)) | refine x_nop ?_ | refine x_bs ?_ | refine x_gr ?_ | refine x_st ?_ | refine x_mv ?_ | refine x_sk ?_ | refine x_sk0 ?_ | refine x_ix ?_ | refine x_ixs ?_ | refine x_sto ?_ | refine x_app ?_ | refine x_app0 ?_ | refine x_ld ?_ | refine x_cal ?_ | (refine awp_cond (by rfl) ?_ ?_ <;> intro hC <;> (try cases hC)))
    · refine awp_ret ?_
      refine ret0 (x := .c (.v (.bool false))) rfl clV_v ⟨?_, rfl⟩
      rw [show eqD _ _ = (x0 == y0 && (x1 == y1 && (x2.toList == y2.toList && (eqDL x3l y3l && true)))) by simp only [eqD_agg, eqD_lst, eqD_int, eqD_bool, eqD_str, eqDL_cons, eqDL_nil], eqDL_no hp hq (by simpa using hC)]; simp

    · refine ⟨N - 1, k + 1, by omega, ⟨by omega, fun j r s hj hr hs => ?_⟩, ?_⟩
      · by_cases e : j = k
        · rw [e, hp] at hr; rw [e, hq] at hs; injection hr with hr; injection hs with hs; subst hr hs; simpa using hC
        · exact hno j r s (by omega) hr hs
      · (refine gh_tidy _ _ rfl rfl ?_ ?_ <;> (repeat' (first | exact TmOk.nil | exact RwOk.nil | refine TmOk.cons ?_ ?_ | refine RwOk.cons ?_ ?_ | rfl | (refine rnV_id' rfl ?_; (first | rfl | (simp [cloV, cloL, clo, acE_clo, acL_clo, owE_clo, owL_clo, cloL_app]; done))) | (refine rn_int ?_; first | rfl | omega | (rw [wrap_nat (by omega) (by omega)]; omega)) | (refine rw_same rfl ?_; (first | rfl | (simp [cloV, cloL, clo, acE_clo, acL_clo, owE_clo, owL_clo, cloL_app]; done))) | exact rw_rn rfl rfl | (refine rw_mid (by rfl) (by rfl) ?_ ?_ <;> (first | rfl | (simp [cloV, cloL, clo, acE_clo, acL_clo, owE_clo, owL_clo, cloL_app]; done))) | (refine rw_rn' rfl rfl ?_; simp; done))))

  have hk' : ¬ k < x3l.length := by simpa using h2
  have qa : eqDL x3l y3l = true := eqDL_yes (by omega) fun j p q hj hp hq => hno j p q (by omega) hp hq
  clear hno hN h2 hk'
  repeat' (first | refine awp_seq ?_ | refine awp_block ?_ | refine awp_skip ?_ | refine awp_exit ?_ | refine awp_region0 fun C => ?_ | refine awp_region1 (by kernel_rfl) (by kernel_rfl) fun C => ?_ | refine walk_end ?_ | (refine x_gm ?_ ?_ <;> intro hG <;> (try cases hG)) | refine x_nop ?_ | refine x_bs ?_ | refine x_gr ?_ | refine x_st ?_ | refine x_mv ?_ | refine x_sk ?_ | refine x_sk0 ?_ | refine x_ix ?_ | refine x_ixs ?_ | refine x_sto ?_ | refine x_app ?_ | refine x_app0 ?_ | refine x_ld ?_ | refine x_cal ?_ | (refine awp_cond (by rfl) ?_ ?_ <;> intro hC <;> (try cases hC)))
  refine awp_ret ?_
  refine ret0 (x := .c (.v (.bool true))) rfl clV_v ⟨?_, rfl⟩
  simp only [eqD_agg, eqD_lst, eqD_int, eqD_bool, eqD_str, eqDL_cons, eqDL_nil]
  simp at q1 q2 hG
  simp [qa, q1, q2, hG]
theorem specSameExpr_c {x y : E} (hx : x.Ty Try.prog 90) (hy : y.Ty Try.prog 90) (hsx : x.sz ≤ 1048576) (hsy : y.sz ≤ 1048576) : Ctr Try.prog 58 [.ag (acE x), .ag (acE y)] [] (.c (.v (.bool (eqD x y)))) [] := specSameExpr_n _ x y hx hy hsx hsy (Nat.le_refl _)

set_option maxHeartbeats 1000000 in
theorem specSameStmt_n (n : Nat) : ∀ (x y : E), x.Ty Try.prog 141 → y.Ty Try.prog 141 → x.sz ≤ n → y.sz ≤ 1048576 → n ≤ 1048576 → Ctr Try.prog 89 [.ag (acE x), .ag (acE y)] [] (.c (.v (.bool (eqD x y)))) [] := by
  induction n using Nat.strongRecOn with
  | _ n ih =>
  intro x y hx hy hsx hsy hn
  obtain ⟨x0, x1, x2, x3A, x3c, x3l, x4A, x4c, x4l, x5A, x5c, x5l, rfl, gx0, gx1, gx2, gx3, gx4, gx5, -⟩ := shape_impl_Stmt hx
  obtain ⟨y0, y1, y2, y3A, y3c, y3l, y4A, y4c, y4l, y5A, y5c, y5l, rfl, gy0, gy1, gy2, gy3, gy4, gy5, -⟩ := shape_impl_Stmt hy
  simp only [E.sz, E.szL] at hsx hsy
  have hc : ∀ p ∈ x3l, ∀ q ∈ y3l, Ctr Try.prog 58 [.ag (acE p), .ag (acE q)] [] (.c (.v (.bool (eqD p q)))) [] := fun p hp q hq => specSameExpr_c (gx3.1 p hp) (gy3.1 q hq) (by have h1 := E.szL_mem hp; have h2 := List.length_pos_of_mem hp; omega) (by have h1 := E.szL_mem hq; omega)
  have cA := sameBlock_c gx4.1 gx4.2 gy4.1 gy4.2 (by omega) (by omega) (fun p hp q hq => ih p.sz (by have h1 := E.szL_mem hp; have h2 := List.length_pos_of_mem hp; omega) p q (gx4.1 p hp) (gy4.1 q hq) (Nat.le_refl _) (by have h1 := E.szL_mem hq; omega) (by have h1 := E.szL_mem hp; have h2 := List.length_pos_of_mem hp; omega))
  have cB := sameBlock_c gx5.1 gx5.2 gy5.1 gy5.2 (by omega) (by omega) (fun p hp q hq => ih p.sz (by have h1 := E.szL_mem hp; have h2 := List.length_pos_of_mem hp; omega) p q (gx5.1 p hp) (gy5.1 q hq) (Nat.le_refl _) (by have h1 := E.szL_mem hq; omega) (by have h1 := E.szL_mem hp; have h2 := List.length_pos_of_mem hp; omega))
  clear ih
  have ha := gx3.1; have hka := gx3.2; have hb := gy3.1; have hkb := gy3.2
  refine ctr_of Try.func89 rfl rfl ?_
  repeat' (first | refine awp_seq ?_ | refine awp_block ?_ | refine awp_skip ?_ | refine awp_exit ?_ | refine awp_region0 fun C => ?_ | refine awp_region1 (by kernel_rfl) (by kernel_rfl) fun C => ?_ | refine walk_end ?_ | (refine x_gm ?_ ?_ <;> intro hG <;> (try cases hG)) | refine x_nop ?_ | refine x_bs ?_ | refine x_gr ?_ | refine x_st ?_ | refine x_mv ?_ | refine x_sk ?_ | refine x_sk0 ?_ | refine x_ix ?_ | refine x_ixs ?_ | refine x_sto ?_ | refine x_app ?_ | refine x_app0 ?_ | refine x_ld ?_ | refine x_cal ?_ | (refine awp_cond (by rfl) ?_ ?_ <;> intro hC <;> (try cases hC)))
  rotate_right
  all_goals first
    | (refine awp_ret ?_
       refine ret0 (x := .c (.v (.bool false))) rfl clV_v ⟨?_, rfl⟩
       simp only [eqD_agg, eqD_lst, eqD_int, eqD_bool, eqD_str, eqDL_cons, eqDL_nil]
       first | (rw [eqDL_len (by revert hC; simp; omega)]; simp; done) | (simp at hG; simp [hG]; done) | (simp_all; done))
    | skip
  rename_i q1 q2
  have hl : x3l.length = y3l.length := by revert hC; simp; omega
  refine awp_loopd (fun k : Nat => ⟨tmsF [(2, .c (.pt 2 0)), (3, .c (.pt 3 0)), (5, .c (.v (.int .i64 k)))], hpsF [(2, 2, ⟨141, 0, 0, true, [.v (.int .i64 x0), .v (.string x1), .v (.string x2), .ro x3l.length 4 (acL x3l), .ro x4l.length 6 (acL x4l), .ro x5l.length 6 (acL x5l)]⟩), (3, 3, ⟨141, 0, 0, true, [.v (.int .i64 y0), .v (.string y1), .v (.string y2), .ro y3l.length 4 (acL y3l), .ro y4l.length 6 (acL y4l), .ro y5l.length 6 (acL y5l)]⟩)], 0, [2, 3], 65⟩)
    (fun N k => k + N = x3l.length ∧ ∀ j p q, j < k → x3l[j]? = some p → y3l[j]? = some q → eqD p q = true) x3l.length 0 ⟨by omega, by omega⟩ ?_ ?_
  · (refine gh_tidy _ _ rfl rfl ?_ ?_ <;> (repeat' (first | exact TmOk.nil | exact RwOk.nil | refine TmOk.cons ?_ ?_ | refine RwOk.cons ?_ ?_ | rfl | (refine rnV_id' rfl ?_; (first | rfl | (simp [cloV, cloL, clo, acE_clo, acL_clo, owE_clo, owL_clo, cloL_app]; done))) | (refine rn_int ?_; first | rfl | omega | (rw [wrap_nat (by omega) (by omega)]; omega)) | (refine rw_same rfl ?_; (first | rfl | (simp [cloV, cloL, clo, acE_clo, acL_clo, owE_clo, owL_clo, cloL_app]; done))) | exact rw_rn rfl rfl | (refine rw_mid (by rfl) (by rfl) ?_ ?_ <;> (first | rfl | (simp [cloV, cloL, clo, acE_clo, acL_clo, owE_clo, owL_clo, cloL_app]; done))) | (refine rw_rn' rfl rfl ?_; simp; done))))
  rintro N k ⟨hN, hno⟩
  repeat (first | refine awp_seq ?_ | refine awp_block ?_ | refine awp_skip ?_ | refine awp_exit ?_ | refine awp_ret ?_ | refine awp_region0 fun C => ?_ | refine awp_region1 (by kernel_rfl) (by kernel_rfl) fun C => ?_ | refine walk_end ?_ | refine x_eqVal ?_ | refine x_neVal ?_ | refine x_eqIns ?_ | refine x_neIns ?_ | refine x_nop ?_ | refine x_bs ?_ | refine x_gr ?_ | refine x_st ?_ | refine x_mv ?_ | refine x_sk ?_ | refine x_sk0 ?_ | refine x_ix ?_ | refine x_ixs ?_ | refine x_sto ?_ | refine x_app ?_ | refine x_app0 ?_ | refine x_ld ?_)
  refine awp_cond (by rfl) (fun h2 => ?_) fun h2 => ?_
  · as_aux_lemma =>
    have hk' : k < x3l.length := by simpa using h2
    obtain ⟨p, hp⟩ : ∃ p, x3l[k]? = some p := ⟨_, List.getElem?_eq_getElem hk'⟩
    obtain ⟨q, hq⟩ : ∃ q, y3l[k]? = some q := ⟨_, List.getElem?_eq_getElem (by omega)⟩
    have mp := List.mem_of_getElem? hp
    have mq := List.mem_of_getElem? hq
    have hcc := hc p mp q mq
    obtain ⟨u0, u1, u2, u3A, u3c, u3l, rfl, gu0, gu1, gu2, gu3, -⟩ := shape_impl_Expr (ha p mp)
    obtain ⟨v0, v1, v2, v3A, v3c, v3l, rfl, gv0, gv1, gv2, gv3, -⟩ := shape_impl_Expr (hb q mq)
    repeat' (first | refine awp_seq ?_ | refine awp_block ?_ | refine awp_skip ?_ | refine awp_exit ?_ | refine awp_region0 fun C => ?_ | refine awp_region1 (by kernel_rfl) (by kernel_rfl) fun C => ?_ | refine walk_end ?_ | (refine x_gm ?_ ?_ <;> intro hG <;> (try cases hG)) | refine x_nop ?_ | refine x_bs ?_ | refine x_gr ?_ | refine x_st ?_ | refine x_mv ?_ | refine x_sk ?_ | refine x_sk0 ?_ | refine x_ix ?_ | refine x_ixs ?_ | refine x_sto ?_ | refine x_app ?_ | refine x_app0 ?_ | refine x_ld ?_ | refine x_cal ?_ | (refine awp_cond (by rfl) ?_ ?_ <;> intro hC <;> (try cases hC)))
    · refine awp_ret ?_
      refine ret0 (x := .c (.v (.bool false))) rfl clV_v ⟨?_, rfl⟩
      rw [show eqD _ _ = (x0 == y0 && (x1.toList == y1.toList && (x2.toList == y2.toList && (eqDL x3l y3l && (eqDL x4l y4l && (eqDL x5l y5l && true)))))) by simp only [eqD_agg, eqD_lst, eqD_int, eqD_bool, eqD_str, eqDL_cons, eqDL_nil], eqDL_no hp hq (by simpa using hC)]; simp

    · refine ⟨N - 1, k + 1, by omega, ⟨by omega, fun j r s hj hr hs => ?_⟩, ?_⟩
      · by_cases e : j = k
        · rw [e, hp] at hr; rw [e, hq] at hs; injection hr with hr; injection hs with hs; subst hr hs; simpa using hC
        · exact hno j r s (by omega) hr hs
      · (refine gh_tidy _ _ rfl rfl ?_ ?_ <;> (repeat' (first | exact TmOk.nil | exact RwOk.nil | refine TmOk.cons ?_ ?_ | refine RwOk.cons ?_ ?_ | rfl | (refine rnV_id' rfl ?_; (first | rfl | (simp [cloV, cloL, clo, acE_clo, acL_clo, owE_clo, owL_clo, cloL_app]; done))) | (refine rn_int ?_; first | rfl | omega | (rw [wrap_nat (by omega) (by omega)]; omega)) | (refine rw_same rfl ?_; (first | rfl | (simp [cloV, cloL, clo, acE_clo, acL_clo, owE_clo, owL_clo, cloL_app]; done))) | exact rw_rn rfl rfl | (refine rw_mid (by rfl) (by rfl) ?_ ?_ <;> (first | rfl | (simp [cloV, cloL, clo, acE_clo, acL_clo, owE_clo, owL_clo, cloL_app]; done))) | (refine rw_rn' rfl rfl ?_; simp; done))))

  have hk' : ¬ k < x3l.length := by simpa using h2
  have qa : eqDL x3l y3l = true := eqDL_yes (by omega) fun j p q hj hp hq => hno j p q (by omega) hp hq
  clear hno hN h2 hk'
  repeat' (first | refine awp_seq ?_ | refine awp_block ?_ | refine awp_skip ?_ | refine awp_exit ?_ | refine awp_region0 fun C => ?_ | refine awp_region1 (by kernel_rfl) (by kernel_rfl) fun C => ?_ | refine walk_end ?_ | (refine x_gm ?_ ?_ <;> intro hG <;> (try cases hG)) | refine x_nop ?_ | refine x_bs ?_ | refine x_gr ?_ | refine x_st ?_ | refine x_mv ?_ | refine x_sk ?_ | refine x_sk0 ?_ | refine x_ix ?_ | refine x_ixs ?_ | refine x_sto ?_ | refine x_app ?_ | refine x_app0 ?_ | refine x_ld ?_ | refine x_cak cA ?_ | refine x_cak cB ?_ | (refine awp_cond (by rfl) ?_ ?_ <;> intro hC <;> (try cases hC)))
  all_goals
    refine awp_ret ?_
    refine ret0 rfl clV_v ⟨?_, rfl⟩
    simp only [eqD_agg, eqD_lst, eqD_int, eqD_bool, eqD_str, eqDL_cons, eqDL_nil]
    simp_all
theorem specSameStmt_c {x y : E} (hx : x.Ty Try.prog 141) (hy : y.Ty Try.prog 141) (hsx : x.sz ≤ 1048576) (hsy : y.sz ≤ 1048576) : Ctr Try.prog 89 [.ag (acE x), .ag (acE y)] [] (.c (.v (.bool (eqD x y)))) [] := specSameStmt_n _ x y hx hy hsx hsy (Nat.le_refl _)

set_option maxHeartbeats 2000000 in
theorem specSameProg_c {x y : E} (hx : x.Ty Try.prog 55) (hy : y.Ty Try.prog 55) (hsx : x.sz ≤ 1048576) (hsy : y.sz ≤ 1048576) : Ctr Try.prog 19 [.ag (acE x), .ag (acE y)] [] (.c (.v (.bool (eqD x y)))) [] := by
  obtain ⟨x0A, x0c, x0l, x1A, x1c, x1l, rfl, gx0, gx1, -⟩ := shape_impl_Prog hx
  obtain ⟨y0A, y0c, y0l, y1A, y1c, y1l, rfl, gy0, gy1, -⟩ := shape_impl_Prog hy
  simp only [E.sz, E.szL] at hsx hsy
  have ha := gx0.1; have hka := gx0.2; have hb := gy0.1; have hkb := gy0.2
  have ha2 := gx1.1; have hka2 := gx1.2; have hb2 := gy1.1; have hkb2 := gy1.2
  refine ctr_of Try.func19 rfl rfl ?_
  repeat' (first | refine awp_seq ?_ | refine awp_block ?_ | refine awp_skip ?_ | refine awp_exit ?_ | refine awp_region0 fun C => ?_ | refine awp_region1 (by kernel_rfl) (by kernel_rfl) fun C => ?_ | refine walk_end ?_ | (refine x_gm ?_ ?_ <;> intro hG <;> (try cases hG)) | refine x_nop ?_ | refine x_bs ?_ | refine x_gr ?_ | refine x_st ?_ | refine x_mv ?_ | refine x_sk ?_ | refine x_sk0 ?_ | refine x_ix ?_ | refine x_ixs ?_ | refine x_sto ?_ | refine x_app ?_ | refine x_app0 ?_ | refine x_ld ?_ | refine x_cal ?_ | (refine awp_cond (by rfl) ?_ ?_ <;> intro hC <;> (try cases hC)))
  rotate_right
  all_goals first
    | (refine awp_ret ?_
       refine ret0 (x := .c (.v (.bool false))) rfl clV_v ⟨?_, rfl⟩
       simp only [eqD_agg, eqD_lst, eqD_int, eqD_bool, eqD_str, eqDL_cons, eqDL_nil]
       first | (rw [eqDL_len (a := x1l) (b := y1l) (by revert hC; simp; omega)]; simp; done) | (rw [eqDL_len (a := x0l) (b := y0l) (by revert hG; simp; omega)]; simp; done))
    | skip
  have hl : x0l.length = y0l.length := by revert hG; simp; omega
  have hl2 : x1l.length = y1l.length := by revert hC; simp; omega
  have hEQ : eqD (.agg [.lst 6 93 x0A x0c x0l, .lst 3 97 x1A x1c x1l]) (.agg [.lst 6 93 y0A y0c y0l, .lst 3 97 y1A y1c y1l]) = (eqDL x0l y0l && (eqDL x1l y1l && true)) := by simp only [eqD_agg, eqD_lst, eqD_int, eqD_bool, eqD_str, eqDL_cons, eqDL_nil]
  rw [hEQ]
  refine awp_loopd (fun k : Nat => ⟨tmsF [(2, .c (.pt 2 0)), (3, .c (.pt 3 0)), (5, .c (.v (.int .i64 k)))], hpsF [(2, 2, ⟨55, 0, 0, true, [.ro x0l.length 6 (acL x0l), .ro x1l.length 3 (acL x1l)]⟩), (3, 3, ⟨55, 0, 0, true, [.ro y0l.length 6 (acL y0l), .ro y1l.length 3 (acL y1l)]⟩)], 0, [2, 3], 135⟩)
    (fun N k => k + N = x0l.length ∧ ∀ j p q, j < k → x0l[j]? = some p → y0l[j]? = some q → eqD p q = true) x0l.length 0 ⟨by omega, by omega⟩ ?_ ?_
  · (refine gh_tidy _ _ rfl rfl ?_ ?_ <;> (repeat' (first | exact TmOk.nil | exact RwOk.nil | refine TmOk.cons ?_ ?_ | refine RwOk.cons ?_ ?_ | rfl | (refine rnV_id' rfl ?_; (first | rfl | (simp [cloV, cloL, clo, acE_clo, acL_clo, owE_clo, owL_clo, cloL_app]; done))) | (refine rn_int ?_; first | rfl | omega | (rw [wrap_nat (by omega) (by omega)]; omega)) | (refine rw_same rfl ?_; (first | rfl | (simp [cloV, cloL, clo, acE_clo, acL_clo, owE_clo, owL_clo, cloL_app]; done))) | exact rw_rn rfl rfl | (refine rw_mid (by rfl) (by rfl) ?_ ?_ <;> (first | rfl | (simp [cloV, cloL, clo, acE_clo, acL_clo, owE_clo, owL_clo, cloL_app]; done))) | (refine rw_rn' rfl rfl ?_; simp; done))))
  rintro N k ⟨hN, hno⟩
  repeat (first | refine awp_seq ?_ | refine awp_block ?_ | refine awp_skip ?_ | refine awp_exit ?_ | refine awp_ret ?_ | refine awp_region0 fun C => ?_ | refine awp_region1 (by kernel_rfl) (by kernel_rfl) fun C => ?_ | refine walk_end ?_ | refine x_eqVal ?_ | refine x_neVal ?_ | refine x_eqIns ?_ | refine x_neIns ?_ | refine x_nop ?_ | refine x_bs ?_ | refine x_gr ?_ | refine x_st ?_ | refine x_mv ?_ | refine x_sk ?_ | refine x_sk0 ?_ | refine x_ix ?_ | refine x_ixs ?_ | refine x_sto ?_ | refine x_app ?_ | refine x_app0 ?_ | refine x_ld ?_)
  refine awp_cond (by rfl) (fun h2 => ?_) fun h2 => ?_
  · as_aux_lemma =>
    have hk' : k < x0l.length := by simpa using h2
    obtain ⟨p, hp⟩ : ∃ p, x0l[k]? = some p := ⟨_, List.getElem?_eq_getElem hk'⟩
    obtain ⟨q, hq⟩ : ∃ q, y0l[k]? = some q := ⟨_, List.getElem?_eq_getElem (by omega)⟩
    have mp := List.mem_of_getElem? hp
    have mq := List.mem_of_getElem? hq
    have tp := ha p mp
    have tq := hb q mq
    have sp := E.szL_mem mp
    have sq := E.szL_mem mq
    obtain ⟨u0, u1, u2, u3, u4A, u4c, u4l, u5A, u5c, u5l, rfl, gu0, gu1, gu2, gu3, gu4, gu5, -⟩ := shape_impl_Rule (ha p mp)
    obtain ⟨v0, v1, v2, v3, v4A, v4c, v4l, v5A, v5c, v5l, rfl, gv0, gv1, gv2, gv3, gv4, gv5, -⟩ := shape_impl_Rule (hb q mq)
    have t1 := ty_fld1 tp Try.underlying93 rfl
    have t2 := ty_fld1 tq Try.underlying93 rfl
    simp only [E.sz, E.szL] at sp sq
    have c1 := specSameExpr_c t1 t2 (by simp only [E.sz, E.szL]; omega) (by simp only [E.sz, E.szL]; omega)
    have c2 := sameBlock_c gu5.1 gu5.2 gv5.1 gv5.2 (by omega) (by omega) (fun p hp q hq => specSameStmt_c (gu5.1 p hp) (gv5.1 q hq) (by have h1 := E.szL_mem hp; have h2 := List.length_pos_of_mem hp; omega) (by have h1 := E.szL_mem hq; omega))
    have hE2 : eqD (.agg [.int .i64 u0, .agg [.int .i64 u1, .int .i64 u2, .str u3, .lst 4 90 u4A u4c u4l], .lst 6 141 u5A u5c u5l]) (.agg [.int .i64 v0, .agg [.int .i64 v1, .int .i64 v2, .str v3, .lst 4 90 v4A v4c v4l], .lst 6 141 v5A v5c v5l]) = (u0 == v0 && (eqD (.agg [.int .i64 u1, .int .i64 u2, .str u3, .lst 4 90 u4A u4c u4l]) (.agg [.int .i64 v1, .int .i64 v2, .str v3, .lst 4 90 v4A v4c v4l]) && (eqDL u5l v5l && true))) := by rw [eqD_agg, eqDL_cons, eqDL_cons, eqDL_cons, eqDL_nil, eqD_int, eqD_lst]
    repeat' (first | refine awp_seq ?_ | refine awp_block ?_ | refine awp_skip ?_ | refine awp_exit ?_ | refine awp_region0 fun C => ?_ | refine awp_region1 (by kernel_rfl) (by kernel_rfl) fun C => ?_ | refine walk_end ?_ | (refine x_gm ?_ ?_ <;> intro hG <;> (try cases hG)) | refine x_nop ?_ | refine x_bs ?_ | refine x_gr ?_ | refine x_st ?_ | refine x_mv ?_ | refine x_sk ?_ | refine x_sk0 ?_ | refine x_ix ?_ | refine x_ixs ?_ | refine x_sto ?_ | refine x_app ?_ | refine x_app0 ?_ | refine x_ld ?_ | refine x_cal ?_ | (refine awp_cond (by rfl) ?_ ?_ <;> intro hC <;> (try cases hC)))
    all_goals first
      | (refine awp_ret ?_
         refine ret0 (x := .c (.v (.bool false))) rfl clV_v ⟨?_, rfl⟩
         rw [eqDL_no hp hq (by rw [hE2]; simp_all)]; simp)
      | skip
    · refine ⟨N - 1, k + 1, by omega, ⟨by omega, fun j r s hj hr hs => ?_⟩, ?_⟩
      · by_cases e : j = k
        · rw [e, hp] at hr; rw [e, hq] at hs; injection hr with hr; injection hs with hs; subst hr hs; rw [hE2]; simp_all
        · exact hno j r s (by omega) hr hs
      · (refine gh_tidy _ _ rfl rfl ?_ ?_ <;> (repeat' (first | exact TmOk.nil | exact RwOk.nil | refine TmOk.cons ?_ ?_ | refine RwOk.cons ?_ ?_ | rfl | (refine rnV_id' rfl ?_; (first | rfl | (simp [cloV, cloL, clo, acE_clo, acL_clo, owE_clo, owL_clo, cloL_app]; done))) | (refine rn_int ?_; first | rfl | omega | (rw [wrap_nat (by omega) (by omega)]; omega)) | (refine rw_same rfl ?_; (first | rfl | (simp [cloV, cloL, clo, acE_clo, acL_clo, owE_clo, owL_clo, cloL_app]; done))) | exact rw_rn rfl rfl | (refine rw_mid (by rfl) (by rfl) ?_ ?_ <;> (first | rfl | (simp [cloV, cloL, clo, acE_clo, acL_clo, owE_clo, owL_clo, cloL_app]; done))) | (refine rw_rn' rfl rfl ?_; simp; done))))

  have hk' : ¬ k < x0l.length := by simpa using h2
  have qa : eqDL x0l y0l = true := eqDL_yes (by omega) fun j p q hj hp hq => hno j p q (by omega) hp hq
  clear hno hN h2 hk'
  repeat (first | refine awp_seq ?_ | refine awp_block ?_ | refine awp_skip ?_ | refine awp_exit ?_ | refine awp_ret ?_ | refine awp_region0 fun C => ?_ | refine awp_region1 (by kernel_rfl) (by kernel_rfl) fun C => ?_ | refine walk_end ?_ | refine x_eqVal ?_ | refine x_neVal ?_ | refine x_eqIns ?_ | refine x_neIns ?_ | refine x_nop ?_ | refine x_bs ?_ | refine x_gr ?_ | refine x_st ?_ | refine x_mv ?_ | refine x_sk ?_ | refine x_sk0 ?_ | refine x_ix ?_ | refine x_ixs ?_ | refine x_sto ?_ | refine x_app ?_ | refine x_app0 ?_ | refine x_ld ?_)
  refine awp_loopd (fun k : Nat => ⟨tmsF [(2, .c (.pt 2 0)), (3, .c (.pt 3 0)), (6, .c (.v (.int .i64 k)))], hpsF [(2, 2, ⟨55, 0, 0, true, [.ro x0l.length 6 (acL x0l), .ro x1l.length 3 (acL x1l)]⟩), (3, 3, ⟨55, 0, 0, true, [.ro y0l.length 6 (acL y0l), .ro y1l.length 3 (acL y1l)]⟩)], 0, [2, 3], 135⟩)
    (fun N k => k + N = x1l.length ∧ ∀ j p q, j < k → x1l[j]? = some p → y1l[j]? = some q → eqD p q = true) x1l.length 0 ⟨by omega, by omega⟩ ?_ ?_
  · (refine gh_tidy _ _ rfl rfl ?_ ?_ <;> (repeat' (first | exact TmOk.nil | exact RwOk.nil | refine TmOk.cons ?_ ?_ | refine RwOk.cons ?_ ?_ | rfl | (refine rnV_id' rfl ?_; (first | rfl | (simp [cloV, cloL, clo, acE_clo, acL_clo, owE_clo, owL_clo, cloL_app]; done))) | (refine rn_int ?_; first | rfl | omega | (rw [wrap_nat (by omega) (by omega)]; omega)) | (refine rw_same rfl ?_; (first | rfl | (simp [cloV, cloL, clo, acE_clo, acL_clo, owE_clo, owL_clo, cloL_app]; done))) | exact rw_rn rfl rfl | (refine rw_mid (by rfl) (by rfl) ?_ ?_ <;> (first | rfl | (simp [cloV, cloL, clo, acE_clo, acL_clo, owE_clo, owL_clo, cloL_app]; done))) | (refine rw_rn' rfl rfl ?_; simp; done))))
  rintro N k ⟨hN, hno⟩
  repeat (first | refine awp_seq ?_ | refine awp_block ?_ | refine awp_skip ?_ | refine awp_exit ?_ | refine awp_ret ?_ | refine awp_region0 fun C => ?_ | refine awp_region1 (by kernel_rfl) (by kernel_rfl) fun C => ?_ | refine walk_end ?_ | refine x_eqVal ?_ | refine x_neVal ?_ | refine x_eqIns ?_ | refine x_neIns ?_ | refine x_nop ?_ | refine x_bs ?_ | refine x_gr ?_ | refine x_st ?_ | refine x_mv ?_ | refine x_sk ?_ | refine x_sk0 ?_ | refine x_ix ?_ | refine x_ixs ?_ | refine x_sto ?_ | refine x_app ?_ | refine x_app0 ?_ | refine x_ld ?_)
  refine awp_cond (by rfl) (fun h2 => ?_) fun h2 => ?_
  · as_aux_lemma =>
    have hk' : k < x1l.length := by simpa using h2
    obtain ⟨p, hp⟩ : ∃ p, x1l[k]? = some p := ⟨_, List.getElem?_eq_getElem hk'⟩
    obtain ⟨q, hq⟩ : ∃ q, y1l[k]? = some q := ⟨_, List.getElem?_eq_getElem (by omega)⟩
    have mp := List.mem_of_getElem? hp
    have mq := List.mem_of_getElem? hq
    have sp := E.szL_mem mp
    have sq := E.szL_mem mq
    obtain ⟨u0, u1A, u1c, u1l, u2A, u2c, u2l, rfl, gu0, gu1, gu2, -⟩ := shape_impl_Fn (ha2 p mp)
    obtain ⟨v0, v1A, v1c, v1l, v2A, v2c, v2l, rfl, gv0, gv1, gv2, -⟩ := shape_impl_Fn (hb2 q mq)
    simp only [E.sz, E.szL] at sp sq
    have c2 := sameBlock_c gu2.1 gu2.2 gv2.1 gv2.2 (by omega) (by omega) (fun p hp q hq => specSameStmt_c (gu2.1 p hp) (gv2.1 q hq) (by have h1 := E.szL_mem hp; have h2 := List.length_pos_of_mem hp; omega) (by have h1 := E.szL_mem hq; omega))
    have hE2 : eqD (.agg [.str u0, .lst 1 9 u1A u1c u1l, .lst 6 141 u2A u2c u2l]) (.agg [.str v0, .lst 1 9 v1A v1c v1l, .lst 6 141 v2A v2c v2l]) = (u0.toList == v0.toList && (eqDL u1l v1l && (eqDL u2l v2l && true))) := by simp only [eqD_agg, eqD_lst, eqD_int, eqD_bool, eqD_str, eqDL_cons, eqDL_nil]
    repeat' (first | refine awp_seq ?_ | refine awp_block ?_ | refine awp_skip ?_ | refine awp_exit ?_ | refine awp_region0 fun C => ?_ | refine awp_region1 (by kernel_rfl) (by kernel_rfl) fun C => ?_ | refine walk_end ?_ | (refine x_gm ?_ ?_ <;> intro hG <;> (try cases hG)) | refine x_nop ?_ | refine x_bs ?_ | refine x_gr ?_ | refine x_st ?_ | refine x_mv ?_ | refine x_sk ?_ | refine x_sk0 ?_ | refine x_ix ?_ | refine x_ixs ?_ | refine x_sto ?_ | refine x_app ?_ | refine x_app0 ?_ | refine x_ld ?_ | refine x_cal ?_ | (refine awp_cond (by rfl) ?_ ?_ <;> intro hC <;> (try cases hC)))
    all_goals first
      | (refine awp_ret ?_
         refine ret0 (x := .c (.v (.bool false))) rfl clV_v ⟨?_, rfl⟩
         first | (rw [eqDL_no hp hq (by rw [hE2, eqDL_len (by revert hG; simp; omega)]; simp)]; simp; done) | (rw [eqDL_no hp hq (by rw [hE2]; simp_all)]; simp))
      | skip
    have hlu : u1l.length = v1l.length := by revert hG; simp; omega
    have e0 : (u0.toList == v0.toList) = true := by simp_all
    have e2 : eqDL u2l v2l = true := by simpa using hC
    rename_i q0
    clear hC hG q0
    have hk0 : k < x1l.length := hk'
    obtain ⟨k0, hkk⟩ : ∃ k0, k0 = k := ⟨_, rfl⟩
    subst hkk
    have hno0 := hno
    have hp0 := hp
    have hq0 := hq
    obtain ⟨N0, hNN⟩ : ∃ N0, N0 = N := ⟨_, rfl⟩
    subst hNN
    clear hno hp hq
    have hka3 := gu1.2; have hkb3 := gv1.2
    refine awp_loopd (fun k : Nat => ⟨tmsF [(2, .c (.pt 2 0)), (3, .c (.pt 3 0)), (6, .c (.v (.int .i64 k0))), (7, .c (.pt 7 0)), (8, .c (.pt 8 0)), (9, .c (.v (.int .i64 k)))], hpsF [(2, 2, ⟨55, 0, 0, true, [.ro x0l.length 6 (acL x0l), .ro x1l.length 3 (acL x1l)]⟩), (3, 3, ⟨55, 0, 0, true, [.ro y0l.length 6 (acL y0l), .ro y1l.length 3 (acL y1l)]⟩), (7, 7, ⟨97, 0, 0, true, [.v (.string u0), .ro u1l.length 1 (acL u1l), .ro u2l.length 6 (acL u2l)]⟩), (8, 8, ⟨97, 0, 0, true, [.v (.string v0), .ro v1l.length 1 (acL v1l), .ro v2l.length 6 (acL v2l)]⟩)], 0, [2, 3, 7, 8], 135⟩)
      (fun N k => k + N = u1l.length ∧ ∀ j p q, j < k → u1l[j]? = some p → v1l[j]? = some q → eqD p q = true) u1l.length 0 ⟨by omega, by omega⟩ ?_ ?_
    · (refine gh_tidy _ _ rfl rfl ?_ ?_ <;> (repeat' (first | exact TmOk.nil | exact RwOk.nil | refine TmOk.cons ?_ ?_ | refine RwOk.cons ?_ ?_ | rfl | (refine rnV_id' rfl ?_; (first | rfl | (simp [cloV, cloL, clo, acE_clo, acL_clo, owE_clo, owL_clo, cloL_app]; done))) | (refine rn_int ?_; first | rfl | omega | (rw [wrap_nat (by omega) (by omega)]; omega)) | (refine rw_same rfl ?_; (first | rfl | (simp [cloV, cloL, clo, acE_clo, acL_clo, owE_clo, owL_clo, cloL_app]; done))) | exact rw_rn rfl rfl | (refine rw_mid (by rfl) (by rfl) ?_ ?_ <;> (first | rfl | (simp [cloV, cloL, clo, acE_clo, acL_clo, owE_clo, owL_clo, cloL_app]; done))) | (refine rw_rn' rfl rfl ?_; simp; done))))
    rintro N k ⟨hN, hno⟩
    repeat (first | refine awp_seq ?_ | refine awp_block ?_ | refine awp_skip ?_ | refine awp_exit ?_ | refine awp_ret ?_ | refine awp_region0 fun C => ?_ | refine awp_region1 (by kernel_rfl) (by kernel_rfl) fun C => ?_ | refine walk_end ?_ | refine x_eqVal ?_ | refine x_neVal ?_ | refine x_eqIns ?_ | refine x_neIns ?_ | refine x_nop ?_ | refine x_bs ?_ | refine x_gr ?_ | refine x_st ?_ | refine x_mv ?_ | refine x_sk ?_ | refine x_sk0 ?_ | refine x_ix ?_ | refine x_ixs ?_ | refine x_sto ?_ | refine x_app ?_ | refine x_app0 ?_ | refine x_ld ?_)
    refine awp_cond (by rfl) (fun h2 => ?_) fun h2 => ?_
    · skip
      have hk' : k < u1l.length := by simpa using h2
      obtain ⟨p, hp⟩ : ∃ p, u1l[k]? = some p := ⟨_, List.getElem?_eq_getElem hk'⟩
      obtain ⟨q, hq⟩ : ∃ q, v1l[k]? = some q := ⟨_, List.getElem?_eq_getElem (by omega)⟩
      have mp := List.mem_of_getElem? hp
      have mq := List.mem_of_getElem? hq
      obtain ⟨r0, rfl, -⟩ := (gu1.1 p mp).str_ Try.underlying9
      obtain ⟨s0, rfl, -⟩ := (gv1.1 q mq).str_ Try.underlying9
      repeat' (first | refine awp_seq ?_ | refine awp_block ?_ | refine awp_skip ?_ | refine awp_exit ?_ | refine awp_region0 fun C => ?_ | refine awp_region1 (by kernel_rfl) (by kernel_rfl) fun C => ?_ | refine walk_end ?_ | (refine x_gm ?_ ?_ <;> intro hG <;> (try cases hG)) | refine x_nop ?_ | refine x_bs ?_ | refine x_gr ?_ | refine x_st ?_ | refine x_mv ?_ | refine x_sk ?_ | refine x_sk0 ?_ | refine x_ix ?_ | refine x_ixs ?_ | refine x_sto ?_ | refine x_app ?_ | refine x_app0 ?_ | refine x_ld ?_ | refine x_cal ?_ | (refine awp_cond (by rfl) ?_ ?_ <;> intro hC <;> (try cases hC)))
      · refine awp_ret ?_
        refine ret0 (x := .c (.v (.bool false))) rfl clV_v ⟨?_, rfl⟩
        rw [eqDL_no hp0 hq0 (by rw [hE2, eqDL_no hp hq (by rw [eqD_str]; simp_all)]; simp)]; simp

      · refine ⟨N - 1, k + 1, by omega, ⟨by omega, fun j r s hj hr hs => ?_⟩, ?_⟩
        · by_cases e : j = k
          · rw [e, hp] at hr; rw [e, hq] at hs; injection hr with hr; injection hs with hs; subst hr hs; rw [eqD_str]; simp_all
          · exact hno j r s (by omega) hr hs
        · (refine gh_tidy _ _ rfl rfl ?_ ?_ <;> (repeat' (first | exact TmOk.nil | exact RwOk.nil | refine TmOk.cons ?_ ?_ | refine RwOk.cons ?_ ?_ | rfl | (refine rnV_id' rfl ?_; (first | rfl | (simp [cloV, cloL, clo, acE_clo, acL_clo, owE_clo, owL_clo, cloL_app]; done))) | (refine rn_int ?_; first | rfl | omega | (rw [wrap_nat (by omega) (by omega)]; omega)) | (refine rw_same rfl ?_; (first | rfl | (simp [cloV, cloL, clo, acE_clo, acL_clo, owE_clo, owL_clo, cloL_app]; done))) | exact rw_rn rfl rfl | (refine rw_mid (by rfl) (by rfl) ?_ ?_ <;> (first | rfl | (simp [cloV, cloL, clo, acE_clo, acL_clo, owE_clo, owL_clo, cloL_app]; done))) | (refine rw_rn' rfl rfl ?_; simp; done))))

    have hk' : ¬ k < u1l.length := by simpa using h2
    have qi : eqDL u1l v1l = true := eqDL_yes (by omega) fun j p q hj hp hq => hno j p q (by omega) hp hq
    clear hno hN h2 hk'
    repeat' (first | refine awp_seq ?_ | refine awp_block ?_ | refine awp_skip ?_ | refine awp_exit ?_ | refine awp_region0 fun C => ?_ | refine awp_region1 (by kernel_rfl) (by kernel_rfl) fun C => ?_ | refine walk_end ?_ | (refine x_gm ?_ ?_ <;> intro hG <;> (try cases hG)) | refine x_nop ?_ | refine x_bs ?_ | refine x_gr ?_ | refine x_st ?_ | refine x_mv ?_ | refine x_sk ?_ | refine x_sk0 ?_ | refine x_ix ?_ | refine x_ixs ?_ | refine x_sto ?_ | refine x_app ?_ | refine x_app0 ?_ | refine x_ld ?_ | refine x_cal ?_ | (refine awp_cond (by rfl) ?_ ?_ <;> intro hC <;> (try cases hC)))
    refine ⟨N0 - 1, k0 + 1, by omega, ⟨by omega, fun j r s hj hr hs => ?_⟩, ?_⟩
    · by_cases e : j = k0
      · rw [e, hp0] at hr; rw [e, hq0] at hs; injection hr with hr; injection hs with hs; subst hr hs; rw [hE2]; simp [*]
      · exact hno0 j r s (by omega) hr hs
    · (refine gh_tidy _ _ rfl rfl ?_ ?_ <;> (repeat' (first | exact TmOk.nil | exact RwOk.nil | refine TmOk.cons ?_ ?_ | refine RwOk.cons ?_ ?_ | rfl | (refine rnV_id' rfl ?_; (first | rfl | (simp [cloV, cloL, clo, acE_clo, acL_clo, owE_clo, owL_clo, cloL_app]; done))) | (refine rn_int ?_; first | rfl | omega | (rw [wrap_nat (by omega) (by omega)]; omega)) | (refine rw_same rfl ?_; (first | rfl | (simp [cloV, cloL, clo, acE_clo, acL_clo, owE_clo, owL_clo, cloL_app]; done))) | exact rw_rn rfl rfl | (refine rw_mid (by rfl) (by rfl) ?_ ?_ <;> (first | rfl | (simp [cloV, cloL, clo, acE_clo, acL_clo, owE_clo, owL_clo, cloL_app]; done))) | (refine rw_rn' rfl rfl ?_; simp; done))))
  have hk' : ¬ k < x1l.length := by simpa using h2
  have qb : eqDL x1l y1l = true := eqDL_yes (by omega) fun j p q hj hp hq => hno j p q (by omega) hp hq
  clear hno hN h2 hk'
  repeat' (first | refine awp_seq ?_ | refine awp_block ?_ | refine awp_skip ?_ | refine awp_exit ?_ | refine awp_region0 fun C => ?_ | refine awp_region1 (by kernel_rfl) (by kernel_rfl) fun C => ?_ | refine walk_end ?_ | (refine x_gm ?_ ?_ <;> intro hG <;> (try cases hG)) | refine x_nop ?_ | refine x_bs ?_ | refine x_gr ?_ | refine x_st ?_ | refine x_mv ?_ | refine x_sk ?_ | refine x_sk0 ?_ | refine x_ix ?_ | refine x_ixs ?_ | refine x_sto ?_ | refine x_app ?_ | refine x_app0 ?_ | refine x_ld ?_ | refine x_cal ?_ | (refine awp_cond (by rfl) ?_ ?_ <;> intro hC <;> (try cases hC)))
  refine awp_ret ?_
  refine ret0 (x := .c (.v (.bool true))) rfl clV_v ⟨?_, rfl⟩
  simp [qa, qb]
end Go.Proofs.Ytkhioiehcaaejaa
