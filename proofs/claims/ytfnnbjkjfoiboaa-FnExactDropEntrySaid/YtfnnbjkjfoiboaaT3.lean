/- spec.SetVar: by the abstract machine. -/
import Derived.Test.YtfnnbjkjfoiboaaAB
import Derived.Test.YtfnnbjkjfoiboaaAX
import Derived.Test.YtfnnbjkjfoiboaaT1
import Derived.Test.YtfnnbjkjfoiboaaT2
namespace Go.Proofs.Ytfnnbjkjfoiboaa
open Go.RowKit
set_option maxRecDepth 100000
/-- A variable set, where it is. -/
def setVarL (l : List E) (s : ByteArray) (v : E) : List E := match l.findIdx? (isNm s) with | some k => l.set k (.agg [.str (nmE (l[k]?.getD v)), v]) | none => l
def setVarE (e : E) (s : ByteArray) (v : E) : E := .agg [.lst 4 50 none 0 (setVarL (varsE e) s v), .lst 2 114 none 0 (tabsE e)]
theorem specSetVar_c {e v : E} (he : e.Ty Try.prog 45) (hv : v.Ty Try.prog 35) (s : ByteArray) (hsz : e.sz ≤ 1048576) : Ctr Try.prog 29 [.ag (acE e), .c (.v (.string s)), .ag (acE v)] [] (.ag (owE (setVarE e s v))) [] := by
  have he' := he
  obtain ⟨x0A, x0c, l, x1A, x1c, l2, rfl, ⟨hl, hk⟩, ⟨hl2, hk2⟩, -⟩ := shape_impl_Env he'
  obtain ⟨v0, v1, v2, rfl, -⟩ := shape_impl_Val hv
  have cv := l14Var_c he s hsz
  rcases idxF_cases (isNm s) l with h0 | ⟨k, h0, hlt⟩
  · rw [show varsE _ = l from rfl, h0] at cv
    refine ctr_of Try.func29 rfl rfl ?_
    repeat (first | refine awp_seq ?_ | refine awp_block ?_ | refine awp_skip ?_ | refine awp_exit ?_ | refine awp_ret ?_ | refine awp_region0 fun C => ?_ | refine awp_region1 (by kernel_rfl) (by kernel_rfl) fun C => ?_ | refine walk_end ?_ | refine x_nop ?_ | refine x_bs ?_ | refine x_gr ?_ | refine x_st ?_ | refine x_mv ?_ | refine x_sk ?_ | refine x_sk0 ?_ | refine x_ix ?_ | refine x_ixs ?_ | refine x_sto ?_ | refine x_app ?_ | refine x_app0 ?_ | refine x_ld ?_)
    refine x_call 100 (l14Copy_c he hsz) ?_
    repeat (first | refine awp_seq ?_ | refine awp_block ?_ | refine awp_skip ?_ | refine awp_exit ?_ | refine awp_ret ?_ | refine awp_region0 fun C => ?_ | refine awp_region1 (by kernel_rfl) (by kernel_rfl) fun C => ?_ | refine walk_end ?_ | refine x_nop ?_ | refine x_bs ?_ | refine x_gr ?_ | refine x_st ?_ | refine x_mv ?_ | refine x_sk ?_ | refine x_sk0 ?_ | refine x_ix ?_ | refine x_ixs ?_ | refine x_sto ?_ | refine x_app ?_ | refine x_app0 ?_ | refine x_ld ?_)
    refine x_call 110 cv ?_
    repeat (first | refine awp_seq ?_ | refine awp_block ?_ | refine awp_skip ?_ | refine awp_exit ?_ | refine awp_ret ?_ | refine awp_region0 fun C => ?_ | refine awp_region1 (by kernel_rfl) (by kernel_rfl) fun C => ?_ | refine walk_end ?_ | refine x_nop ?_ | refine x_bs ?_ | refine x_gr ?_ | refine x_st ?_ | refine x_mv ?_ | refine x_sk ?_ | refine x_sk0 ?_ | refine x_ix ?_ | refine x_ixs ?_ | refine x_sto ?_ | refine x_app ?_ | refine x_app0 ?_ | refine x_ld ?_)
    refine awp_cond (by rfl) (fun h1 => ?_) fun h1 => ?_
    · simp at h1
    · repeat (first | refine awp_seq ?_ | refine awp_block ?_ | refine awp_skip ?_ | refine awp_exit ?_ | refine awp_ret ?_ | refine awp_region0 fun C => ?_ | refine awp_region1 (by kernel_rfl) (by kernel_rfl) fun C => ?_ | refine walk_end ?_ | refine x_nop ?_ | refine x_bs ?_ | refine x_gr ?_ | refine x_st ?_ | refine x_mv ?_ | refine x_sk ?_ | refine x_sk0 ?_ | refine x_ix ?_ | refine x_ixs ?_ | refine x_sto ?_ | refine x_app ?_ | refine x_app0 ?_ | refine x_ld ?_)
      refine ret0 (x := .ag [.ow 50 l.length 4 (owL l), .ow 114 l2.length 2 (owL l2)]) rfl (clV_ag (clL_sl (rw := ⟨50, 4, l.length, false, owL l⟩) rfl rfl rfl (owL_clo _) (clL_sl (rw := ⟨114, 2, l2.length, false, owL l2⟩) rfl rfl rfl (owL_clo _) clL_nil))) ⟨?_, rfl⟩
      simp [setVarE, setVarL, varsE, tabsE, idxF_neg h0, owE, owL]
  · rw [show varsE _ = l from rfl, h0] at cv
    have hle : k * 4 + 1 + 3 ≤ (owL l).length := owL_fit hk hlt (by omega)
    refine ctr_of Try.func29 rfl rfl ?_
    repeat (first | refine awp_seq ?_ | refine awp_block ?_ | refine awp_skip ?_ | refine awp_exit ?_ | refine awp_ret ?_ | refine awp_region0 fun C => ?_ | refine awp_region1 (by kernel_rfl) (by kernel_rfl) fun C => ?_ | refine walk_end ?_ | refine x_nop ?_ | refine x_bs ?_ | refine x_gr ?_ | refine x_st ?_ | refine x_mv ?_ | refine x_sk ?_ | refine x_sk0 ?_ | refine x_ix ?_ | refine x_ixs ?_ | refine x_sto ?_ | refine x_app ?_ | refine x_app0 ?_ | refine x_ld ?_)
    refine x_call 100 (l14Copy_c he hsz) ?_
    repeat (first | refine awp_seq ?_ | refine awp_block ?_ | refine awp_skip ?_ | refine awp_exit ?_ | refine awp_ret ?_ | refine awp_region0 fun C => ?_ | refine awp_region1 (by kernel_rfl) (by kernel_rfl) fun C => ?_ | refine walk_end ?_ | refine x_nop ?_ | refine x_bs ?_ | refine x_gr ?_ | refine x_st ?_ | refine x_mv ?_ | refine x_sk ?_ | refine x_sk0 ?_ | refine x_ix ?_ | refine x_ixs ?_ | refine x_sto ?_ | refine x_app ?_ | refine x_app0 ?_ | refine x_ld ?_)
    refine x_call 110 cv ?_
    repeat (first | refine awp_seq ?_ | refine awp_block ?_ | refine awp_skip ?_ | refine awp_exit ?_ | refine awp_ret ?_ | refine awp_region0 fun C => ?_ | refine awp_region1 (by kernel_rfl) (by kernel_rfl) fun C => ?_ | refine walk_end ?_ | refine x_nop ?_ | refine x_bs ?_ | refine x_gr ?_ | refine x_st ?_ | refine x_mv ?_ | refine x_sk ?_ | refine x_sk0 ?_ | refine x_ix ?_ | refine x_ixs ?_ | refine x_sto ?_ | refine x_app ?_ | refine x_app0 ?_ | refine x_ld ?_)
    refine awp_cond (by rfl) (fun h1 => ?_) fun h1 => ?_
    · repeat (first | refine awp_seq ?_ | refine awp_block ?_ | refine awp_skip ?_ | refine awp_exit ?_ | refine awp_ret ?_ | refine awp_region0 fun C => ?_ | refine awp_region1 (by kernel_rfl) (by kernel_rfl) fun C => ?_ | refine walk_end ?_ | refine x_nop ?_ | refine x_bs ?_ | refine x_gr ?_ | refine x_st ?_ | refine x_mv ?_ | refine x_sk ?_ | refine x_sk0 ?_ | refine x_ix ?_ | refine x_ixs ?_ | refine x_sto ?_ | refine x_app ?_ | refine x_app0 ?_ | refine x_ld ?_)
      obtain ⟨x, hx⟩ : ∃ x, l[k]? = some x := ⟨_, List.getElem?_eq_getElem hlt⟩
      obtain ⟨y0, y1, y2, y3, rfl, hy⟩ := shape_impl_Named (hl x (List.mem_of_getElem? hx))
      have e1 : spl (owL l) (k * 4 + 1) [.v (.int .i64 v0), .v (.int .i64 v1), .v (.string v2)] = owL (l.set k (.agg [.str y0, .agg [.int .i64 v0, .int .i64 v1, .str v2]])) := owL_spl hk hx (by simp) rfl
      refine ret0 (x := .ag [.ow 50 l.length 4 (spl (owL l) (k * 4 + 1) [.v (.int .i64 v0), .v (.int .i64 v1), .v (.string v2)]), .ow 114 l2.length 2 (owL l2)]) rfl (clV_ag (clL_sl (rw := ⟨50, 4, l.length, false, spl (owL l) (k * 4 + 1) [.v (.int .i64 v0), .v (.int .i64 v1), .v (.string v2)]⟩) rfl rfl rfl (by rw [e1]; exact owL_clo _) (clL_sl (rw := ⟨114, 2, l2.length, false, owL l2⟩) rfl rfl rfl (owL_clo _) clL_nil))) ⟨?_, rfl⟩
      rw [e1]
      simp [setVarE, setVarL, varsE, tabsE, idxF_pos h0, hx, nmE, owE, owL]
    · simp at h1
end Go.Proofs.Ytfnnbjkjfoiboaa
