/- spec.PutEntry: by the abstract machine. -/
import Derived.Test.YtfnnbjkjfoiboaaT10
namespace Go.Proofs.Ytfnnbjkjfoiboaa
open Go.RowKit
set_option maxRecDepth 100000
set_option maxHeartbeats 400000 in
theorem specPutEntry_c {e v : E} (he : e.Ty Try.prog 45) (hv : v.Ty Try.prog 35) (nm s : ByteArray) (hsz : e.sz ≤ 1048576) : Ctr Try.prog 48 [.ag (acE e), .c (.v (.string nm)), .c (.v (.string s)), .ag (acE v)] [] (.tu [.ag (owE (putE e nm s v)), .c (.v (.bool (putOk e nm s)))]) [] := by
  have cp := l14Put_c he hv nm s hsz
  have cc := l14Copy_c he hsz
  obtain ⟨x0A, x0c, l, x1A, x1c, l2, rfl, ⟨hl, hk⟩, ⟨hl2, hk2⟩, -⟩ := shape_impl_Env he
  obtain ⟨v0, v1, v2, rfl, -⟩ := shape_impl_Val hv
  obtain ⟨n1, c1, n2, c2, hE, hc1, hc2⟩ : ∃ n1 c1 n2 c2, owE (putE (.agg [.lst 4 50 x0A x0c l, .lst 2 114 x1A x1c l2]) nm s (.agg [.int .i64 v0, .int .i64 v1, .str v2])) = [.ow 50 n1 4 c1, .ow 114 n2 2 c2] ∧ cloL c1 = true ∧ cloL c2 = true := ⟨_, _, _, _, rfl, owL_clo _, owL_clo _⟩
  have hR := owE_rofr (putE (.agg [.lst 4 50 x0A x0c l, .lst 2 114 x1A x1c l2]) nm s (.agg [.int .i64 v0, .int .i64 v1, .str v2]))
  rw [hE] at cp hR ⊢
  refine ctr_of Try.func48 rfl rfl ?_
  repeat (first | refine awp_seq ?_ | refine awp_block ?_ | refine awp_skip ?_ | refine awp_exit ?_ | refine awp_ret ?_ | refine awp_region0 fun C => ?_ | refine awp_region1 (by kernel_rfl) (by kernel_rfl) fun C => ?_ | refine walk_end ?_ | refine x_nop ?_ | refine x_bs ?_ | refine x_gr ?_ | refine x_st ?_ | refine x_mv ?_ | refine x_sk ?_ | refine x_sk0 ?_ | refine x_ix ?_ | refine x_ixs ?_ | refine x_sto ?_ | refine x_app ?_ | refine x_app0 ?_ | refine x_ld ?_)
  refine x_call 100 cc ?_
  repeat (first | refine walk_end ?_ | refine x_nop ?_ | refine x_bs ?_ | refine x_gr ?_ | refine x_st ?_ | refine x_mv ?_ | refine x_sk ?_ | refine x_sk0 ?_ | refine x_ix ?_ | refine x_ixs ?_ | refine x_sto ?_ | refine x_app ?_ | refine x_app0 ?_ | refine x_ld ?_)
  repeat (first | refine awp_seq ?_ | refine awp_block ?_ | refine awp_skip ?_ | refine awp_exit ?_)
  refine awp_gh (g_abs (i := 10) (j := 100) rfl rfl rfl (pre := []) (post := [_]) rfl) ?_
  refine awp_gh (g_abs (i := 10) (j := 101) rfl rfl rfl (pre := [_]) (post := []) rfl) ?_
  repeat (first | refine awp_seq ?_ | refine awp_block ?_ | refine awp_skip ?_ | refine awp_exit ?_ | refine awp_ret ?_ | refine awp_region0 fun C => ?_ | refine awp_region1 (by kernel_rfl) (by kernel_rfl) fun C => ?_ | refine walk_end ?_ | refine x_nop ?_ | refine x_bs ?_ | refine x_gr ?_ | refine x_st ?_ | refine x_mv ?_ | refine x_sk ?_ | refine x_sk0 ?_ | refine x_ix ?_ | refine x_ixs ?_ | refine x_sto ?_ | refine x_app ?_ | refine x_app0 ?_ | refine x_ld ?_)
  refine x_calld 120 [10] cp ?_ (hl := lend1 (by rfl) (by first | rfl | (simp [cloV, cloL, clo, acE_clo, acL_clo, owE_clo, owL_clo, cloL_app]; done))) (hm2 := rofr_one hR)
  repeat (first | refine walk_end ?_ | refine x_nop ?_ | refine x_bs ?_ | refine x_gr ?_ | refine x_st ?_ | refine x_mv ?_ | refine x_sk ?_ | refine x_sk0 ?_ | refine x_ix ?_ | refine x_ixs ?_ | refine x_sto ?_ | refine x_app ?_ | refine x_app0 ?_ | refine x_ld ?_)
  repeat (first | refine awp_seq ?_ | refine awp_block ?_ | refine awp_skip ?_ | refine awp_exit ?_)
  refine awp_gh (g_rev 130 (i := 10) rfl rfl (pre := []) (post := [_]) rfl) ?_
  refine awp_gh (g_rev 131 (i := 10) rfl rfl (pre := [_]) (post := []) rfl) ?_
  repeat (first | refine awp_seq ?_ | refine awp_block ?_ | refine awp_skip ?_ | refine awp_exit ?_ | refine awp_ret ?_ | refine awp_region0 fun C => ?_ | refine awp_region1 (by kernel_rfl) (by kernel_rfl) fun C => ?_ | refine walk_end ?_ | refine x_nop ?_ | refine x_bs ?_ | refine x_gr ?_ | refine x_st ?_ | refine x_mv ?_ | refine x_sk ?_ | refine x_sk0 ?_ | refine x_ix ?_ | refine x_ixs ?_ | refine x_sto ?_ | refine x_app ?_ | refine x_app0 ?_ | refine x_ld ?_)
  exact ret0 (x := .tu [.ag [.ow 50 n1 4 c1, .ow 114 n2 2 c2], .c (.v (.bool _))]) rfl (clV_tu (clVL_cons (clV_ag (clL_sl (rw := ⟨50, 4, n1, false, c1⟩) rfl rfl rfl hc1 (clL_sl (rw := ⟨114, 2, n2, false, c2⟩) rfl rfl rfl hc2 clL_nil))) (clVL_cons clV_v clVL_nil))) ⟨rfl, rfl⟩
end Go.Proofs.Ytfnnbjkjfoiboaa
