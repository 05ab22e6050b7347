/- spec.l14Copy: by the abstract machine. -/
import Derived.Test.YtfnnbjkjfoiboaaAB
import Derived.Test.YtfnnbjkjfoiboaaAX
import Derived.Test.YtfnnbjkjfoiboaaFamEnv
namespace Go.Proofs.Ytfnnbjkjfoiboaa
open Go.RowKit
set_option maxRecDepth 100000
theorem flat_Named {e : E} (h : e.Ty Try.prog 50) : flatE e = true := by
  obtain ⟨y0, y1, y2, y3, rfl, _⟩ := shape_impl_Named h; rfl
theorem flat_Entry {e : E} (h : e.Ty Try.prog 116) : flatE e = true := by
  obtain ⟨y0, y1, y2, y3, rfl, _⟩ := shape_impl_Entry h; rfl
theorem l14Copy_c {e : E} (he : e.Ty Try.prog 45) (hsz : e.sz ≤ 1048576) : Ctr Try.prog 83 [.ag (acE e)] [] (.ag (owE e)) [] := by
  obtain ⟨x0A, x0c, l, x1A, x1c, l2, rfl, ⟨hl, hk⟩, ⟨hl2, hk2⟩, -⟩ := shape_impl_Env he
  have hlen : l.length ≤ 1048576 := by simp only [E.sz, E.szL] at hsz; omega
  have hlen2 : l2.length ≤ 1048576 := by simp only [E.sz, E.szL] at hsz; omega
  refine ctr_of Try.func83 rfl rfl ?_
  repeat (first | refine awp_seq ?_ | refine awp_block ?_ | refine awp_skip ?_ | refine awp_exit ?_ | refine awp_ret ?_ | refine awp_region0 fun C => ?_ | refine awp_region1 (by kernel_rfl) (by kernel_rfl) fun C => ?_ | refine walk_end ?_ | refine x_nop ?_ | refine x_bs ?_ | refine x_gr ?_ | refine x_st ?_ | refine x_mv ?_ | refine x_sk ?_ | refine x_sk0 ?_ | refine x_ix ?_ | refine x_ixs ?_ | refine x_sto ?_ | refine x_app ?_ | refine x_app0 ?_ | refine x_ld ?_)
  have fl : acL l = owL l := acL_flat l (flatL_of fun e h => flat_Named (hl e h))
  refine awp_loopd (fun k : Nat => ⟨tmsF [(1, .c (.pt 1 0)), (2, .c (.pt 2 0)), (3, .c (.pt 3 0)), (4, .c (.v (.int .i64 k)))], hpsF [(1, 1, ⟨45, 0, 0, true, [.ro l.length 4 (acL l), .ro l2.length 2 (acL l2)]⟩), (2, 2, ⟨45, 0, 0, true, [.v (.slice none 0 0), .v (.slice none 0 0)]⟩), (3, 3, ⟨45, 0, 0, true, [.sl 8 l.length, .sl 9 k]⟩), (8, 8, ⟨50, 4, l.length, false, owL l⟩), (9, 9, ⟨114, 2, k, false, owL (l2.take k)⟩)], 0, [1, 2, 3, 8, 9], 38⟩)
    (fun N k => k + N = l2.length) l2.length 0 (by omega) ?_ ?_
  · refine (g_nil 9 (i := 3) 114 2 rfl rfl (pre := [_]) (post := []) rfl).trans ?_
    (refine gh_tidy _ _ rfl rfl ?_ ?_ <;> (repeat' (first | exact TmOk.nil | exact RwOk.nil | refine TmOk.cons ?_ ?_ | refine RwOk.cons ?_ ?_ | rfl | (refine rnV_id' rfl ?_; (first | rfl | (simp [cloV, cloL, clo, acE_clo, acL_clo, owE_clo, owL_clo, cloL_app]; done))) | (refine rn_int ?_; first | rfl | omega | (rw [wrap_nat (by omega) (by omega)]; omega)) | (refine rw_same rfl ?_; (first | rfl | (simp [cloV, cloL, clo, acE_clo, acL_clo, owE_clo, owL_clo, cloL_app]; done))) | exact rw_rn rfl rfl | (refine rw_mid (by rfl) (by rfl) ?_ ?_ <;> (first | rfl | (simp [cloV, cloL, clo, acE_clo, acL_clo, owE_clo, owL_clo, cloL_app]; done))) | (refine rw_rn' rfl rfl ?_; simp; done))))
    exact rw_to rfl (by rw [← fl]) (by first | rfl | (simp [cloV, cloL, clo, acE_clo, acL_clo, owE_clo, owL_clo, cloL_app]; done))
  rintro N k hN
  repeat (first | refine awp_seq ?_ | refine awp_block ?_ | refine awp_skip ?_ | refine awp_exit ?_ | refine awp_ret ?_ | refine awp_region0 fun C => ?_ | refine awp_region1 (by kernel_rfl) (by kernel_rfl) fun C => ?_ | refine walk_end ?_ | refine x_nop ?_ | refine x_bs ?_ | refine x_gr ?_ | refine x_st ?_ | refine x_mv ?_ | refine x_sk ?_ | refine x_sk0 ?_ | refine x_ix ?_ | refine x_ixs ?_ | refine x_sto ?_ | refine x_app ?_ | refine x_app0 ?_ | refine x_ld ?_)
  refine awp_cond (by rfl) (fun h1 => ?_) fun h1 => ?_
  · have hk' : k < l2.length := by simpa using h1
    obtain ⟨x, hx⟩ : ∃ x, l2[k]? = some x := ⟨_, List.getElem?_eq_getElem hk'⟩
    obtain ⟨y0, y1A, y1c, y1, rfl, hy0, ⟨hy1, hy1k⟩, -⟩ := shape_impl_Table (hl2 x (List.mem_of_getElem? hx))
    have hy1l : y1.length ≤ 1048576 := by
      have := E.szL_mem (List.mem_of_getElem? hx)
      simp only [E.sz, E.szL] at hsz this; omega
    have fl1 : acL y1 = owL y1 := acL_flat y1 (flatL_of fun e h => flat_Entry (hy1 e h))
    repeat (first | refine awp_seq ?_ | refine awp_block ?_ | refine awp_skip ?_ | refine awp_exit ?_ | refine awp_ret ?_ | refine awp_region0 fun C => ?_ | refine awp_region1 (by kernel_rfl) (by kernel_rfl) fun C => ?_ | refine walk_end ?_ | refine x_nop ?_ | refine x_bs ?_ | refine x_gr ?_ | refine x_st ?_ | refine x_mv ?_ | refine x_sk ?_ | refine x_sk0 ?_ | refine x_ix ?_ | refine x_ixs ?_ | refine x_sto ?_ | refine x_app ?_ | refine x_app0 ?_ | refine x_ld ?_)
    refine ⟨N - 1, k + 1, by omega, by omega, ?_⟩
    refine (g_absorb (i := 35) (j := 32) rfl rfl rfl rfl rfl (pre := owL (l2.take k) ++ [.v (.string y0)]) (post := []) (by rw [List.append_assoc]; rfl)).trans ?_
    (refine gh_ren (fun j => if j = 9 then 35 else j) _ _ rfl rfl ?_ ?_ <;> (repeat' (first | exact TmOk.nil | exact RwOk.nil | refine TmOk.cons ?_ ?_ | refine RwOk.cons ?_ ?_ | rfl | (refine rnV_id' rfl ?_; (first | rfl | (simp [cloV, cloL, clo, acE_clo, acL_clo, owE_clo, owL_clo, cloL_app]; done))) | (refine rn_int ?_; first | rfl | omega | (rw [wrap_nat (by omega) (by omega)]; omega)) | (refine rw_same rfl ?_; (first | rfl | (simp [cloV, cloL, clo, acE_clo, acL_clo, owE_clo, owL_clo, cloL_app]; done))) | exact rw_rn rfl rfl | (refine rw_mid (by rfl) (by rfl) ?_ ?_ <;> (first | rfl | (simp [cloV, cloL, clo, acE_clo, acL_clo, owE_clo, owL_clo, cloL_app]; done))) | (refine rw_rn' rfl rfl ?_; simp; done))))
    exact rw_to (r := ⟨114, 2, k + 1, false, (owL (l2.take k) ++ [.v (.string y0)]) ++ [.ow 116 y1.length 4 (acL y1)]⟩) rfl (by rw [owL_take_succ hx, fl1, List.append_assoc]; rfl) (by first | rfl | (simp [cloV, cloL, clo, acE_clo, acL_clo, owE_clo, owL_clo, cloL_app]; done))
  · have hk' : ¬ k < l2.length := by simpa using h1
    repeat (first | refine awp_seq ?_ | refine awp_block ?_ | refine awp_skip ?_ | refine awp_exit ?_ | refine awp_ret ?_ | refine awp_region0 fun C => ?_ | refine awp_region1 (by kernel_rfl) (by kernel_rfl) fun C => ?_ | refine walk_end ?_ | refine x_nop ?_ | refine x_bs ?_ | refine x_gr ?_ | refine x_st ?_ | refine x_mv ?_ | refine x_sk ?_ | refine x_sk0 ?_ | refine x_ix ?_ | refine x_ixs ?_ | refine x_sto ?_ | refine x_app ?_ | refine x_app0 ?_ | refine x_ld ?_)
    obtain rfl : k = l2.length := by omega
    refine ret0 (x := .ag [.ow 50 l.length 4 (owL l), .ow 114 l2.length 2 (owL (l2.take l2.length))]) rfl (clV_ag (clL_sl (rw := ⟨50, 4, l.length, false, owL l⟩) rfl rfl rfl (owL_clo _) (clL_sl (rw := ⟨114, 2, l2.length, false, owL (l2.take l2.length)⟩) rfl rfl rfl (owL_clo _) clL_nil))) ⟨?_, rfl⟩
    rw [List.take_length]; rfl
end Go.Proofs.Ytfnnbjkjfoiboaa
