/- spec.InsText, impl.InsText: by the abstract machine. -/
import Derived.Test.YtkhioiehcaaejaaDoorT23
namespace Go.Proofs.YtkhioiehcaaejaaDoor
open Go.RowKit
set_option maxRecDepth 100000
def nmAt (j : Nat) : ByteArray := insNms[j]?.getD ByteArray.empty
def insTx (x n : Int) : ByteArray := if insOkS x n then (if hasNum x then nmAt (x - 1).toNat ++ ⟨#[32]⟩ ++ numT n else nmAt (x - 1).toNat) else ByteArray.empty
theorem nm_sub {j : Nat} (h : j < 41) : subL insNmC (j * 1) 1 = [.v (.string (nmAt j))] := by
  have hx : insNms[j]? = some (nmAt j) := by
    unfold nmAt
    rw [List.getElem?_eq_getElem (show j < insNms.length from h)]
    rfl
  unfold subL insNmC
  rw [Nat.mul_one]
  have h2 : (insNms.map fun s => AC.v (.string s))[j]? = some (.v (.string (nmAt j))) := by rw [List.getElem?_map, hx]; rfl
  obtain ⟨hj, e⟩ := List.getElem?_eq_some_iff.1 h2
  rw [List.drop_eq_getElem_cons hj, e]
  rfl
theorem nm_size {j : Nat} (h : j < 41) : (nmAt j).size ≤ 6 := by
  have key : ∀ i : Fin 41, (nmAt i.val).size ≤ 6 := by decide
  exact key ⟨j, h⟩
theorem insOk_rng {x n : Int} (h : insOkS x n = true) : ∃ j : Nat, x = (j : Int) + 1 ∧ j < 41 ∧ 0 ≤ n ∧ n ≤ 10000 := by
  unfold insOkS inR at h
  split at h
  · rename_i h1
    simp at h1
    exact ⟨(x - 1).toNat, by omega, by omega, h1.2⟩
  · cases h
theorem insTx_no {x n : Int} (h : insOkS x n = false) : insTx x n = ByteArray.empty := by unfold insTx; rw [if_neg (by simp [h])]
theorem insTx_num {j : Nat} {n : Int} (h : insOkS ((j : Int) + 1) n = true) (h1 : hasNum ((j : Int) + 1) = true) : insTx ((j : Int) + 1) n = nmAt j ++ ⟨#[32]⟩ ++ numT n := by
  unfold insTx
  rw [if_pos h, if_pos h1, show ((j : Int) + 1 - 1).toNat = j by omega]
theorem insTx_nm {j : Nat} {n : Int} (h : insOkS ((j : Int) + 1) n = true) (h1 : hasNum ((j : Int) + 1) = false) : insTx ((j : Int) + 1) n = nmAt j := by
  unfold insTx
  rw [if_pos h, if_neg (by simp [h1]), show ((j : Int) + 1 - 1).toNat = j by omega]
set_option maxHeartbeats 1000000 in
theorem specInsText_c (x n : Int) : Ctr Tryd.prog 9 [.ag [.v (.int .i64 x), .v (.int .i64 n)]] [] (.c (.v (.string (insTx x n)))) [] := by
  have c1 := specInsOk_c x n
  cases hok : insOkS x n
  · rw [hok] at c1
    refine ctr_of Tryd.func9 rfl rfl ?_
    repeat' (first | refine awp_seq ?_ | refine awp_block ?_ | refine awp_skip ?_ | refine awp_exit ?_ | refine awp_region0 fun C => ?_ | refine awp_region1 (by kernel_rfl) (by kernel_rfl) fun C => ?_ | refine walk_end ?_ | (refine x_gm ?_ ?_ <;> intro hG <;> (try cases hG)) | refine x_nop ?_ | refine x_cvs ?_ | refine x_cvr ?_ | refine x_bs ?_ | refine x_gr ?_ | refine x_st ?_ | refine x_mv ?_ | refine x_sk ?_ | refine x_sk0 ?_ | refine x_ix ?_ | refine x_ixs ?_ | refine x_sto ?_ | refine x_app ?_ | refine x_app (hnu := bytC_noUn _) ?_ | refine x_app0 ?_ | refine x_app0 (hnu := bytC_noUn _) ?_ | refine x_ld ?_ | refine x_cat ?_ | refine x_cal ?_ | (refine awp_cond (by rfl) ?_ ?_ <;> intro hC <;> (try cases hC)))
    refine awp_ret ?_
    refine ret0 rfl clV_v ⟨?_, rfl⟩
    rw [insTx_no hok]; rfl
  · rw [hok] at c1
    obtain ⟨j, rfl, hj, h0, h1⟩ := insOk_rng hok
    have hz : IntKind.i64.wrap ((j : Int) + 1 - 1) = (j : Int) := by rw [wrap_int (by omega) (by omega)]; omega
    have hs := nm_sub hj
    have hs1 := nm_size hj
    have hs2 := numT_sz (n := n) (by omega) (by omega)
    have c2 := l17Names_c
    have c3 := l17Has_c ((j : Int) + 1)
    have c4 := l2Num_n n.natAbs n (by omega) (by omega) (by omega)
    refine ctr_of Tryd.func9 rfl rfl ?_
    repeat' (first | refine awp_seq ?_ | refine awp_block ?_ | refine awp_skip ?_ | refine awp_exit ?_ | refine awp_region0 fun C => ?_ | refine awp_region1 (by kernel_rfl) (by kernel_rfl) fun C => ?_ | refine walk_end ?_ | (refine x_gm ?_ ?_ <;> intro hG <;> (try cases hG)) | refine x_nop ?_ | refine x_cvs ?_ | refine x_cvr ?_ | refine x_bs ?_ | refine x_gr ?_ | refine x_st ?_ | refine x_mv ?_ | refine x_sk ?_ | refine x_sk0 ?_ | refine x_ix ?_ | refine x_ixs ?_ | refine x_sto ?_ | refine x_app ?_ | refine x_app (hnu := bytC_noUn _) ?_ | refine x_app0 ?_ | refine x_app0 (hnu := bytC_noUn _) ?_ | refine x_ld ?_ | refine x_cat ?_ | refine x_cak c1 ?_ | refine x_cak c2 ?_ | refine x_cak c3 ?_ | refine x_cak c4 ?_ | (refine awp_cond (by rfl) ?_ ?_ <;> intro hC <;> (try cases hC)))
    all_goals
      refine awp_ret ?_
      refine ret0 rfl clV_v ⟨?_, rfl⟩
    · rw [insTx_num hok hC]
    · rw [insTx_nm hok hC]
set_option maxHeartbeats 1000000 in
theorem implInsText_c (x n : Int) : Ctr Tryd.prog 11 [.ag [.v (.int .i64 x), .v (.int .i64 n)]] [] (.c (.v (.string (insTx x n)))) [] := by
  have c1 := implInsOk_c x n
  cases hok : insOkS x n
  · rw [hok] at c1
    refine ctr_of Tryd.func11 rfl rfl ?_
    repeat' (first | refine awp_seq ?_ | refine awp_block ?_ | refine awp_skip ?_ | refine awp_exit ?_ | refine awp_region0 fun C => ?_ | refine awp_region1 (by kernel_rfl) (by kernel_rfl) fun C => ?_ | refine walk_end ?_ | (refine x_gm ?_ ?_ <;> intro hG <;> (try cases hG)) | refine x_nop ?_ | refine x_cvs ?_ | refine x_cvr ?_ | refine x_bs ?_ | refine x_gr ?_ | refine x_st ?_ | refine x_mv ?_ | refine x_sk ?_ | refine x_sk0 ?_ | refine x_ix ?_ | refine x_ixs ?_ | refine x_sto ?_ | refine x_app ?_ | refine x_app (hnu := bytC_noUn _) ?_ | refine x_app0 ?_ | refine x_app0 (hnu := bytC_noUn _) ?_ | refine x_ld ?_ | refine x_cat ?_ | refine x_cal ?_ | (refine awp_cond (by rfl) ?_ ?_ <;> intro hC <;> (try cases hC)))
    refine awp_ret ?_
    refine ret0 rfl clV_v ⟨?_, rfl⟩
    rw [insTx_no hok]; rfl
  · rw [hok] at c1
    obtain ⟨j, rfl, hj, h0, h1⟩ := insOk_rng hok
    have hz : IntKind.i64.wrap ((j : Int) + 1 - 1) = (j : Int) := by rw [wrap_int (by omega) (by omega)]; omega
    have hs := nm_sub hj
    have hs1 := nm_size hj
    have hs2 := numT_sz (n := n) (by omega) (by omega)
    have c2 := insNames_c
    have c3 := hasNumber_c ((j : Int) + 1)
    have c4 := digits_c (n := n) (by omega) (by omega)
    refine ctr_of Tryd.func11 rfl rfl ?_
    repeat' (first | refine awp_seq ?_ | refine awp_block ?_ | refine awp_skip ?_ | refine awp_exit ?_ | refine awp_region0 fun C => ?_ | refine awp_region1 (by kernel_rfl) (by kernel_rfl) fun C => ?_ | refine walk_end ?_ | (refine x_gm ?_ ?_ <;> intro hG <;> (try cases hG)) | refine x_nop ?_ | refine x_cvs ?_ | refine x_cvr ?_ | refine x_bs ?_ | refine x_gr ?_ | refine x_st ?_ | refine x_mv ?_ | refine x_sk ?_ | refine x_sk0 ?_ | refine x_ix ?_ | refine x_ixs ?_ | refine x_sto ?_ | refine x_app ?_ | refine x_app (hnu := bytC_noUn _) ?_ | refine x_app0 ?_ | refine x_app0 (hnu := bytC_noUn _) ?_ | refine x_ld ?_ | refine x_cat ?_ | refine x_cak c1 ?_ | refine x_cak c2 ?_ | refine x_cak c3 ?_ | refine x_cak c4 ?_ | (refine awp_cond (by rfl) ?_ ?_ <;> intro hC <;> (try cases hC)))
    all_goals
      refine awp_ret ?_
      refine ret0 rfl clV_v ⟨?_, rfl⟩
    · rw [insTx_num hok hC]; rw [ByteArray.append_assoc]
    · rw [insTx_nm hok hC]
end Go.Proofs.YtkhioiehcaaejaaDoor
