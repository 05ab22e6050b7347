/- The law FnExactInsText, walked. -/
import Derived.Test.YtkhioiehcaaejaaDoorT24
import Derived.Test.YtkhioiehcaaejaaDoorLift
namespace Go.Proofs.YtkhioiehcaaejaaDoor
open Go.RowKit
set_option maxRecDepth 100000
theorem toIns_c (x n : Int) : Ctr Tryd.prog 10 [.ag [.v (.int .i64 x), .v (.int .i64 n)]] [] (.ag [.v (.int .i64 x), .v (.int .i64 n)]) [] := by
  refine ctr_of Tryd.func10 rfl rfl ?_
  repeat' (first | refine awp_seq ?_ | refine awp_block ?_ | refine awp_skip ?_ | refine awp_exit ?_ | refine awp_region0 fun C => ?_ | refine awp_region1 (by kernel_rfl) (by kernel_rfl) fun C => ?_ | refine walk_end ?_ | (refine x_gm ?_ ?_ <;> intro hG <;> (try cases hG)) | refine x_nop ?_ | refine x_bs ?_ | refine x_gr ?_ | refine x_st ?_ | refine x_mv ?_ | refine x_sk ?_ | refine x_sk0 ?_ | refine x_ix ?_ | refine x_ixs ?_ | refine x_sto ?_ | refine x_app ?_ | refine x_app0 ?_ | refine x_ld ?_ | refine x_cal ?_ | (refine awp_cond (by rfl) ?_ ?_ <;> intro hC <;> (try cases hC)))
  refine awp_ret ?_
  exact ret0 rfl (clV_ag rfl) ⟨rfl, rfl⟩
theorem insTextLaw_c (x n : Int) : Ctr Tryd.prog 3 [.ag [.v (.int .i64 x), .v (.int .i64 n)]] [] (.c (.v (.bool true))) [] := by
  have c1 := toIns_c x n
  have c2 := specInsText_c x n
  have c3 := implInsText_c x n
  refine ctr_of Tryd.func3 rfl rfl ?_
  repeat' (first | refine awp_seq ?_ | refine awp_block ?_ | refine awp_skip ?_ | refine awp_exit ?_ | refine awp_region0 fun C => ?_ | refine awp_region1 (by kernel_rfl) (by kernel_rfl) fun C => ?_ | refine walk_end ?_ | (refine x_gm ?_ ?_ <;> intro hG <;> (try cases hG)) | refine x_nop ?_ | refine x_bs ?_ | refine x_gr ?_ | refine x_st ?_ | refine x_mv ?_ | refine x_sk ?_ | refine x_sk0 ?_ | refine x_ix ?_ | refine x_ixs ?_ | refine x_sto ?_ | refine x_app ?_ | refine x_app0 ?_ | refine x_ld ?_ | refine x_cak c1 ?_ | refine x_cak c2 ?_ | refine x_cak c3 ?_ | (refine awp_cond (by rfl) ?_ ?_ <;> intro hC <;> (try cases hC)))
  all_goals first
    | (exfalso; simp_all; done)
    | (refine awp_ret ?_
       exact ret0 rfl clV_v ⟨rfl, rfl⟩)
    | skip
theorem insText_law (W : World) {e : E} (h : e.Ty Tryd.prog 23) (i : e.In W) (gw : Gl W) : Calls Tryd.prog 3 #[e.val] W fun r w' => r = .returned (.bool true) ∧ Below W.heap.size W w' := by
  obtain ⟨x, n, rfl, -⟩ := shape_laws_Ins h
  exact ctr_val (insTextLaw_c x n) (us := [(E.agg [.int .i64 x, .int .i64 n]).val]) (VRL_cons (avI_VR h i) VRL_nil) gw
end Go.Proofs.YtkhioiehcaaejaaDoor
