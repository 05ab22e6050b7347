/- KeysOf of both sides: by the abstract machine. -/
import Derived.Test.YtfnnbjkjfoiboaaT5
import Derived.Test.YtfnnbjkjfoiboaaAX
namespace Go.Proofs.Ytfnnbjkjfoiboaa
open Go.RowKit
set_option maxRecDepth 100000
theorem l14At_c {e : E} (he : e.Ty Try.prog 45) (s : ByteArray) (hsz : e.sz ≤ 1048576) : Ctr Try.prog 106 [.ag (acE e), .c (.v (.string s))] [] (.c (.v (.int .i64 (idxF (isNm s) (tabsE e))))) [] := by
  obtain ⟨x0A, x0c, l2, x1A, x1c, l, rfl, ⟨hl2, hk2⟩, ⟨hl, hk⟩, -⟩ := shape_impl_Env he
  have hlen : l.length ≤ 1048576 := by simp only [E.sz, E.szL] at hsz; omega
  refine ctr_of Try.func106 rfl rfl ?_
  repeat (first | refine awp_seq ?_ | refine awp_block ?_ | refine awp_skip ?_ | refine awp_exit ?_ | refine awp_ret ?_ | refine awp_region0 fun C => ?_ | refine awp_region1 (by kernel_rfl) (by kernel_rfl) fun C => ?_ | refine walk_end ?_ | refine x_nop ?_ | refine x_bs ?_ | refine x_gr ?_ | refine x_st ?_ | refine x_mv ?_ | refine x_sk ?_ | refine x_sk0 ?_ | refine x_ix ?_ | refine x_ixs ?_ | refine x_sto ?_ | refine x_app ?_ | refine x_app0 ?_ | refine x_ld ?_)
  refine awp_loopd (fun k : Nat => ⟨tmsF [(0, .ag [.ro l2.length 4 (acL l2), .ro l.length 2 (acL l)]), (1, .c (.v (.string s))), (2, .c (.pt 2 0)), (5, .c (.v (.int .i64 k)))], hpsF [(2, 2, ⟨45, 0, 0, true, [.ro l2.length 4 (acL l2), .ro l.length 2 (acL l)]⟩)], 0, [2], 22⟩)
    (fun N k => k + N = l.length ∧ ∀ j y, j < k → l[j]? = some y → isNm s y = false) l.length 0 ⟨by omega, by omega⟩ (gh_tidy _ _ rfl rfl (by repeat' (first | exact TmOk.nil | exact RwOk.nil | refine TmOk.cons ?_ ?_ | refine RwOk.cons ?_ ?_ | rfl | (refine rnV_id' rfl ?_; (first | rfl | (simp [cloV, cloL, clo, acE_clo, acL_clo, owE_clo, owL_clo, cloL_app]; done))) | (refine rn_int ?_; first | rfl | omega | (rw [wrap_nat (by omega) (by omega)]; omega)) | (refine rw_same rfl ?_; (first | rfl | (simp [cloV, cloL, clo, acE_clo, acL_clo, owE_clo, owL_clo, cloL_app]; done))) | exact rw_rn rfl rfl)) (by repeat' (first | exact TmOk.nil | exact RwOk.nil | refine TmOk.cons ?_ ?_ | refine RwOk.cons ?_ ?_ | rfl | (refine rnV_id' rfl ?_; (first | rfl | (simp [cloV, cloL, clo, acE_clo, acL_clo, owE_clo, owL_clo, cloL_app]; done))) | (refine rn_int ?_; first | rfl | omega | (rw [wrap_nat (by omega) (by omega)]; omega)) | (refine rw_same rfl ?_; (first | rfl | (simp [cloV, cloL, clo, acE_clo, acL_clo, owE_clo, owL_clo, cloL_app]; done))) | exact rw_rn rfl rfl))) ?_
  rintro N k ⟨hN, hno⟩
  repeat (first | refine awp_seq ?_ | refine awp_block ?_ | refine awp_skip ?_ | refine awp_exit ?_ | refine awp_ret ?_ | refine awp_region0 fun C => ?_ | refine awp_region1 (by kernel_rfl) (by kernel_rfl) fun C => ?_ | refine walk_end ?_ | refine x_nop ?_ | refine x_bs ?_ | refine x_gr ?_ | refine x_st ?_ | refine x_mv ?_ | refine x_sk ?_ | refine x_sk0 ?_ | refine x_ix ?_ | refine x_ixs ?_ | refine x_sto ?_ | refine x_app ?_ | refine x_app0 ?_ | refine x_ld ?_)
  refine awp_cond (by rfl) (fun h1 => ?_) fun h1 => ?_
  · have hk' : k < l.length := by simpa using h1
    obtain ⟨x, hx⟩ : ∃ x, l[k]? = some x := ⟨_, List.getElem?_eq_getElem hk'⟩
    obtain ⟨y0, y1A, y1c, y1, rfl, hy⟩ := shape_impl_Table (hl x (List.mem_of_getElem? hx))
    repeat (first | refine awp_seq ?_ | refine awp_block ?_ | refine awp_skip ?_ | refine awp_exit ?_ | refine awp_ret ?_ | refine awp_region0 fun C => ?_ | refine awp_region1 (by kernel_rfl) (by kernel_rfl) fun C => ?_ | refine walk_end ?_ | refine x_nop ?_ | refine x_bs ?_ | refine x_gr ?_ | refine x_st ?_ | refine x_mv ?_ | refine x_sk ?_ | refine x_sk0 ?_ | refine x_ix ?_ | refine x_ixs ?_ | refine x_sto ?_ | refine x_app ?_ | refine x_app0 ?_ | refine x_ld ?_)
    refine awp_cond (by rfl) (fun ht => ?_) fun ht => ?_
    · repeat (first | refine awp_seq ?_ | refine awp_block ?_ | refine awp_skip ?_ | refine awp_exit ?_ | refine awp_ret ?_ | refine awp_region0 fun C => ?_ | refine awp_region1 (by kernel_rfl) (by kernel_rfl) fun C => ?_ | refine walk_end ?_ | refine x_nop ?_ | refine x_bs ?_ | refine x_gr ?_ | refine x_st ?_ | refine x_mv ?_ | refine x_sk ?_ | refine x_sk0 ?_ | refine x_ix ?_ | refine x_ixs ?_ | refine x_sto ?_ | refine x_app ?_ | refine x_app0 ?_ | refine x_ld ?_)
      refine ret0 (x := .c (.v (.int .i64 k))) rfl rfl ⟨?_, rfl⟩
      rw [show tabsE _ = l from rfl, idxF_at hno hx (by simpa [isNm, nmE] using ht)]
    · repeat (first | refine awp_seq ?_ | refine awp_block ?_ | refine awp_skip ?_ | refine awp_exit ?_ | refine awp_ret ?_ | refine awp_region0 fun C => ?_ | refine awp_region1 (by kernel_rfl) (by kernel_rfl) fun C => ?_ | refine walk_end ?_ | refine x_nop ?_ | refine x_bs ?_ | refine x_gr ?_ | refine x_st ?_ | refine x_mv ?_ | refine x_sk ?_ | refine x_sk0 ?_ | refine x_ix ?_ | refine x_ixs ?_ | refine x_sto ?_ | refine x_app ?_ | refine x_app0 ?_ | refine x_ld ?_)
      refine ⟨N - 1, k + 1, by omega, ⟨by omega, fun j z hj hz => ?_⟩, gh_tidy _ _ rfl rfl (by repeat' (first | exact TmOk.nil | exact RwOk.nil | refine TmOk.cons ?_ ?_ | refine RwOk.cons ?_ ?_ | rfl | (refine rnV_id' rfl ?_; (first | rfl | (simp [cloV, cloL, clo, acE_clo, acL_clo, owE_clo, owL_clo, cloL_app]; done))) | (refine rn_int ?_; first | rfl | omega | (rw [wrap_nat (by omega) (by omega)]; omega)) | (refine rw_same rfl ?_; (first | rfl | (simp [cloV, cloL, clo, acE_clo, acL_clo, owE_clo, owL_clo, cloL_app]; done))) | exact rw_rn rfl rfl)) (by repeat' (first | exact TmOk.nil | exact RwOk.nil | refine TmOk.cons ?_ ?_ | refine RwOk.cons ?_ ?_ | rfl | (refine rnV_id' rfl ?_; (first | rfl | (simp [cloV, cloL, clo, acE_clo, acL_clo, owE_clo, owL_clo, cloL_app]; done))) | (refine rn_int ?_; first | rfl | omega | (rw [wrap_nat (by omega) (by omega)]; omega)) | (refine rw_same rfl ?_; (first | rfl | (simp [cloV, cloL, clo, acE_clo, acL_clo, owE_clo, owL_clo, cloL_app]; done))) | exact rw_rn rfl rfl))⟩
      by_cases e : j = k
      · rw [e, hx] at hz; injection hz with hz; subst hz; simpa [isNm, nmE] using ht
      · exact hno j z (by omega) hz
  · have hk' : ¬ k < l.length := by simpa using h1
    repeat (first | refine awp_seq ?_ | refine awp_block ?_ | refine awp_skip ?_ | refine awp_exit ?_ | refine awp_ret ?_ | refine awp_region0 fun C => ?_ | refine awp_region1 (by kernel_rfl) (by kernel_rfl) fun C => ?_ | refine walk_end ?_ | refine x_nop ?_ | refine x_bs ?_ | refine x_gr ?_ | refine x_st ?_ | refine x_mv ?_ | refine x_sk ?_ | refine x_sk0 ?_ | refine x_ix ?_ | refine x_ixs ?_ | refine x_sto ?_ | refine x_app ?_ | refine x_app0 ?_ | refine x_ld ?_)
    refine ret0 (x := .c (.v (.int .i64 (-1)))) rfl rfl ⟨?_, rfl⟩
    rw [show tabsE _ = l from rfl, idxF_none fun j y hj hy => hno j y (by omega) hy]
/-- The keys of a table. -/
def keyE (x : E) : E := .str (nmE x)
def keysL (e : E) (s : ByteArray) : List E := match (tabsE e).findIdx? (isNm s) with | some k => (tabsE ((tabsE e)[k]?.getD e)).map keyE | none => []
theorem specKeysOf_c {e : E} (he : e.Ty Try.prog 45) (s : ByteArray) (hsz : e.sz ≤ 1048576) : Ctr Try.prog 56 [.ag (acE e), .c (.v (.string s))] [] (.c (.ow 9 (keysL e s).length 1 (owL (keysL e s)))) [] := by
  have cv := l14At_c he s hsz
  obtain ⟨x0A, x0c, l2, x1A, x1c, l, rfl, ⟨hl2, hk2⟩, ⟨hl, hk⟩, -⟩ := shape_impl_Env he
  have hlen : l.length ≤ 1048576 := by simp only [E.sz, E.szL] at hsz; omega
  rcases idxF_cases (isNm s) l with h0 | ⟨k, h0, hlt⟩
  · rw [show tabsE _ = l from rfl, h0] at cv
    have e0 : keysL (.agg [.lst 4 50 x0A x0c l2, .lst 2 114 x1A x1c l]) s = [] := by simp [keysL, tabsE, idxF_neg h0]
    rw [e0]
    refine ctr_of Try.func56 rfl rfl ?_
    repeat (first | refine awp_seq ?_ | refine awp_block ?_ | refine awp_skip ?_ | refine awp_exit ?_ | refine awp_ret ?_ | refine awp_region0 fun C => ?_ | refine awp_region1 (by kernel_rfl) (by kernel_rfl) fun C => ?_ | refine walk_end ?_ | refine x_nop ?_ | refine x_bs ?_ | refine x_gr ?_ | refine x_st ?_ | refine x_mv ?_ | refine x_sk ?_ | refine x_sk0 ?_ | refine x_ix ?_ | refine x_ixs ?_ | refine x_sto ?_ | refine x_app ?_ | refine x_app0 ?_ | refine x_ld ?_)
    refine x_call 110 cv ?_
    repeat (first | refine awp_seq ?_ | refine awp_block ?_ | refine awp_skip ?_ | refine awp_exit ?_ | refine awp_ret ?_ | refine awp_region0 fun C => ?_ | refine awp_region1 (by kernel_rfl) (by kernel_rfl) fun C => ?_ | refine walk_end ?_ | refine x_nop ?_ | refine x_bs ?_ | refine x_gr ?_ | refine x_st ?_ | refine x_mv ?_ | refine x_sk ?_ | refine x_sk0 ?_ | refine x_ix ?_ | refine x_ixs ?_ | refine x_sto ?_ | refine x_app ?_ | refine x_app0 ?_ | refine x_ld ?_)
    refine awp_loopd (fun k : Nat => ⟨tmsF [(5, .c (.sl 8 0)), (6, .c (.v (.int .i64 (-1)))), (7, .c (.v (.int .i64 k)))], hpsF [(8, 8, ⟨9, 1, 0, false, []⟩)], 0, [8], 41⟩)
      (fun N k => k = 0) 0 0 rfl ?_ ?_
    · (refine gh_tidy _ _ rfl rfl ?_ ?_ <;> (repeat' (first | exact TmOk.nil | exact RwOk.nil | refine TmOk.cons ?_ ?_ | refine RwOk.cons ?_ ?_ | rfl | (refine rnV_id' rfl ?_; (first | rfl | (simp [cloV, cloL, clo, acE_clo, acL_clo, owE_clo, owL_clo, cloL_app]; done))) | (refine rn_int ?_; first | rfl | omega | (rw [wrap_nat (by omega) (by omega)]; omega)) | (refine rw_same rfl ?_; (first | rfl | (simp [cloV, cloL, clo, acE_clo, acL_clo, owE_clo, owL_clo, cloL_app]; done))) | exact rw_rn rfl rfl | (refine rw_mid (by rfl) (by rfl) ?_ ?_ <;> (first | rfl | (simp [cloV, cloL, clo, acE_clo, acL_clo, owE_clo, owL_clo, cloL_app]; done))) | (refine rw_rn' rfl rfl ?_; simp; done))))
    rintro N k -
    repeat (first | refine awp_seq ?_ | refine awp_block ?_ | refine awp_skip ?_ | refine awp_exit ?_ | refine awp_ret ?_ | refine awp_region0 fun C => ?_ | refine awp_region1 (by kernel_rfl) (by kernel_rfl) fun C => ?_ | refine walk_end ?_ | refine x_nop ?_ | refine x_bs ?_ | refine x_gr ?_ | refine x_st ?_ | refine x_mv ?_ | refine x_sk ?_ | refine x_sk0 ?_ | refine x_ix ?_ | refine x_ixs ?_ | refine x_sto ?_ | refine x_app ?_ | refine x_app0 ?_ | refine x_ld ?_)
    refine awp_cond (by rfl) (fun h1 => ?_) fun h1 => ?_
    · simp at h1
    · repeat (first | refine awp_seq ?_ | refine awp_block ?_ | refine awp_skip ?_ | refine awp_exit ?_ | refine awp_ret ?_ | refine awp_region0 fun C => ?_ | refine awp_region1 (by kernel_rfl) (by kernel_rfl) fun C => ?_ | refine walk_end ?_ | refine x_nop ?_ | refine x_bs ?_ | refine x_gr ?_ | refine x_st ?_ | refine x_mv ?_ | refine x_sk ?_ | refine x_sk0 ?_ | refine x_ix ?_ | refine x_ixs ?_ | refine x_sto ?_ | refine x_app ?_ | refine x_app0 ?_ | refine x_ld ?_)
      exact ret0 (x := .c (.ow 9 0 1 (owL []))) rfl (clV_c (clL_sl (rw := ⟨9, 1, 0, false, []⟩) rfl rfl rfl (owL_clo []) clL_nil)) ⟨rfl, rfl⟩
  · rw [show tabsE _ = l from rfl, h0] at cv
    obtain ⟨x, hx⟩ : ∃ x, l[k]? = some x := ⟨_, List.getElem?_eq_getElem hlt⟩
    obtain ⟨y0, y1A, y1c, y1, rfl, hy0, ⟨hy1, hy1k⟩, -⟩ := shape_impl_Table (hl x (List.mem_of_getElem? hx))
    have hy1l : y1.length ≤ 1048576 := by
      have := E.szL_mem (List.mem_of_getElem? hx)
      simp only [E.sz, E.szL] at hsz this; omega
    have e0 : keysL (.agg [.lst 4 50 x0A x0c l2, .lst 2 114 x1A x1c l]) s = y1.map keyE := by simp [keysL, tabsE, idxF_pos h0, hx]
    rw [e0]
    refine ctr_of Try.func56 rfl rfl ?_
    repeat (first | refine awp_seq ?_ | refine awp_block ?_ | refine awp_skip ?_ | refine awp_exit ?_ | refine awp_ret ?_ | refine awp_region0 fun C => ?_ | refine awp_region1 (by kernel_rfl) (by kernel_rfl) fun C => ?_ | refine walk_end ?_ | refine x_nop ?_ | refine x_bs ?_ | refine x_gr ?_ | refine x_st ?_ | refine x_mv ?_ | refine x_sk ?_ | refine x_sk0 ?_ | refine x_ix ?_ | refine x_ixs ?_ | refine x_sto ?_ | refine x_app ?_ | refine x_app0 ?_ | refine x_ld ?_)
    refine x_call 110 cv ?_
    repeat (first | refine awp_seq ?_ | refine awp_block ?_ | refine awp_skip ?_ | refine awp_exit ?_ | refine awp_ret ?_ | refine awp_region0 fun C => ?_ | refine awp_region1 (by kernel_rfl) (by kernel_rfl) fun C => ?_ | refine walk_end ?_ | refine x_nop ?_ | refine x_bs ?_ | refine x_gr ?_ | refine x_st ?_ | refine x_mv ?_ | refine x_sk ?_ | refine x_sk0 ?_ | refine x_ix ?_ | refine x_ixs ?_ | refine x_sto ?_ | refine x_app ?_ | refine x_app0 ?_ | refine x_ld ?_)
    refine awp_loopd (fun i : Nat => ⟨tmsF [(2, .c (.pt 2 0)), (5, .c (.sl 8 i)), (6, .c (.v (.int .i64 k))), (7, .c (.v (.int .i64 i)))], hpsF [(2, 2, ⟨45, 0, 0, true, [.ro l2.length 4 (acL l2), .ro l.length 2 (acL l)]⟩), (8, 8, ⟨9, 1, i, false, owL ((y1.map keyE).take i)⟩)], 0, [2, 8], 41⟩)
      (fun N i => i + N = y1.length) y1.length 0 (by omega) ?_ ?_
    · (refine gh_tidy _ _ rfl rfl ?_ ?_ <;> (repeat' (first | exact TmOk.nil | exact RwOk.nil | refine TmOk.cons ?_ ?_ | refine RwOk.cons ?_ ?_ | rfl | (refine rnV_id' rfl ?_; (first | rfl | (simp [cloV, cloL, clo, acE_clo, acL_clo, owE_clo, owL_clo, cloL_app]; done))) | (refine rn_int ?_; first | rfl | omega | (rw [wrap_nat (by omega) (by omega)]; omega)) | (refine rw_same rfl ?_; (first | rfl | (simp [cloV, cloL, clo, acE_clo, acL_clo, owE_clo, owL_clo, cloL_app]; done))) | exact rw_rn rfl rfl | (refine rw_mid (by rfl) (by rfl) ?_ ?_ <;> (first | rfl | (simp [cloV, cloL, clo, acE_clo, acL_clo, owE_clo, owL_clo, cloL_app]; done))) | (refine rw_rn' rfl rfl ?_; simp; done))))
    rintro N i hN
    repeat (first | refine awp_seq ?_ | refine awp_block ?_ | refine awp_skip ?_ | refine awp_exit ?_ | refine awp_ret ?_ | refine awp_region0 fun C => ?_ | refine awp_region1 (by kernel_rfl) (by kernel_rfl) fun C => ?_ | refine walk_end ?_ | refine x_nop ?_ | refine x_bs ?_ | refine x_gr ?_ | refine x_st ?_ | refine x_mv ?_ | refine x_sk ?_ | refine x_sk0 ?_ | refine x_ix ?_ | refine x_ixs ?_ | refine x_sto ?_ | refine x_app ?_ | refine x_app0 ?_ | refine x_ld ?_)
    refine awp_cond (by rfl) (fun h1 => ?_) fun h1 => ?_
    · have hi' : i < y1.length := by simpa using h1
      obtain ⟨z, hz⟩ : ∃ z, y1[i]? = some z := ⟨_, List.getElem?_eq_getElem hi'⟩
      obtain ⟨z0, z1, z2, z3, rfl, hz0⟩ := shape_impl_Entry (hy1 z (List.mem_of_getElem? hz))
      have hz' : (y1.map keyE)[i]? = some (.str z0) := by rw [List.getElem?_map, hz]; rfl
      repeat (first | refine awp_seq ?_ | refine awp_block ?_ | refine awp_skip ?_ | refine awp_exit ?_ | refine awp_ret ?_ | refine awp_region0 fun C => ?_ | refine awp_region1 (by kernel_rfl) (by kernel_rfl) fun C => ?_ | refine walk_end ?_ | refine x_nop ?_ | refine x_bs ?_ | refine x_gr ?_ | refine x_st ?_ | refine x_mv ?_ | refine x_sk ?_ | refine x_sk0 ?_ | refine x_ix ?_ | refine x_ixs ?_ | refine x_sto ?_ | refine x_app ?_ | refine x_app0 ?_ | refine x_ld ?_)
      refine ⟨N - 1, i + 1, by omega, by omega, ?_⟩
      (refine gh_ren (fun j => if j = 8 then 39 else j) _ _ rfl rfl ?_ ?_ <;> (repeat' (first | exact TmOk.nil | exact RwOk.nil | refine TmOk.cons ?_ ?_ | refine RwOk.cons ?_ ?_ | rfl | (refine rnV_id' rfl ?_; (first | rfl | (simp [cloV, cloL, clo, acE_clo, acL_clo, owE_clo, owL_clo, cloL_app]; done))) | (refine rn_int ?_; first | rfl | omega | (rw [wrap_nat (by omega) (by omega)]; omega)) | (refine rw_same rfl ?_; (first | rfl | (simp [cloV, cloL, clo, acE_clo, acL_clo, owE_clo, owL_clo, cloL_app]; done))) | exact rw_rn rfl rfl | (refine rw_mid (by rfl) (by rfl) ?_ ?_ <;> (first | rfl | (simp [cloV, cloL, clo, acE_clo, acL_clo, owE_clo, owL_clo, cloL_app]; done))) | (refine rw_rn' rfl rfl ?_; simp; done))))
      exact rw_to (r := ⟨9, 1, i + 1, false, owL ((y1.map keyE).take i) ++ [.v (.string z0)]⟩) rfl (by rw [owL_take_succ hz']; rfl) (by first | rfl | (simp [cloV, cloL, clo, acE_clo, acL_clo, owE_clo, owL_clo, cloL_app]; done))
    · have hi' : ¬ i < y1.length := by simpa using h1
      repeat (first | refine awp_seq ?_ | refine awp_block ?_ | refine awp_skip ?_ | refine awp_exit ?_ | refine awp_ret ?_ | refine awp_region0 fun C => ?_ | refine awp_region1 (by kernel_rfl) (by kernel_rfl) fun C => ?_ | refine walk_end ?_ | refine x_nop ?_ | refine x_bs ?_ | refine x_gr ?_ | refine x_st ?_ | refine x_mv ?_ | refine x_sk ?_ | refine x_sk0 ?_ | refine x_ix ?_ | refine x_ixs ?_ | refine x_sto ?_ | refine x_app ?_ | refine x_app0 ?_ | refine x_ld ?_)
      obtain rfl : i = y1.length := by omega
      refine ret0 (x := .c (.ow 9 y1.length 1 (owL ((y1.map keyE).take y1.length)))) rfl (clV_c (clL_sl (rw := ⟨9, 1, y1.length, false, owL ((y1.map keyE).take y1.length)⟩) rfl rfl rfl (owL_clo _) clL_nil)) ⟨?_, rfl⟩
      rw [List.take_of_length_le (by simp), List.length_map]
theorem implKeysOf_c {e : E} (he : e.Ty Try.prog 45) (s : ByteArray) (hsz : e.sz ≤ 1048576) : Ctr Try.prog 51 [.ag (acE e), .c (.v (.string s))] [] (.c (.ow 9 (keysL e s).length 1 (owL (keysL e s)))) [] := by
  have cv := tableAt_c he s hsz
  obtain ⟨x0A, x0c, l2, x1A, x1c, l, rfl, ⟨hl2, hk2⟩, ⟨hl, hk⟩, -⟩ := shape_impl_Env he
  have hlen : l.length ≤ 1048576 := by simp only [E.sz, E.szL] at hsz; omega
  rcases idxF_cases (isNm s) l with h0 | ⟨k, h0, hlt⟩
  · rw [show tabsE _ = l from rfl, h0] at cv
    have e0 : keysL (.agg [.lst 4 50 x0A x0c l2, .lst 2 114 x1A x1c l]) s = [] := by simp [keysL, tabsE, idxF_neg h0]
    rw [e0]
    refine ctr_of Try.func51 rfl rfl ?_
    repeat (first | refine awp_seq ?_ | refine awp_block ?_ | refine awp_skip ?_ | refine awp_exit ?_ | refine awp_ret ?_ | refine awp_region0 fun C => ?_ | refine awp_region1 (by kernel_rfl) (by kernel_rfl) fun C => ?_ | refine walk_end ?_ | refine x_nop ?_ | refine x_bs ?_ | refine x_gr ?_ | refine x_st ?_ | refine x_mv ?_ | refine x_sk ?_ | refine x_sk0 ?_ | refine x_ix ?_ | refine x_ixs ?_ | refine x_sto ?_ | refine x_app ?_ | refine x_app0 ?_ | refine x_ld ?_)
    refine x_call 110 cv ?_
    repeat (first | refine awp_seq ?_ | refine awp_block ?_ | refine awp_skip ?_ | refine awp_exit ?_ | refine awp_ret ?_ | refine awp_region0 fun C => ?_ | refine awp_region1 (by kernel_rfl) (by kernel_rfl) fun C => ?_ | refine walk_end ?_ | refine x_nop ?_ | refine x_bs ?_ | refine x_gr ?_ | refine x_st ?_ | refine x_mv ?_ | refine x_sk ?_ | refine x_sk0 ?_ | refine x_ix ?_ | refine x_ixs ?_ | refine x_sto ?_ | refine x_app ?_ | refine x_app0 ?_ | refine x_ld ?_)
    refine awp_gh (g_nilT 90 (t := 5) 9 1 rfl rfl) ?_
    refine awp_cond (by rfl) (fun h1 => ?_) fun h1 => ?_
    · simp at h1
    · repeat (first | refine awp_seq ?_ | refine awp_block ?_ | refine awp_skip ?_ | refine awp_exit ?_ | refine awp_ret ?_ | refine awp_region0 fun C => ?_ | refine awp_region1 (by kernel_rfl) (by kernel_rfl) fun C => ?_ | refine walk_end ?_ | refine x_nop ?_ | refine x_bs ?_ | refine x_gr ?_ | refine x_st ?_ | refine x_mv ?_ | refine x_sk ?_ | refine x_sk0 ?_ | refine x_ix ?_ | refine x_ixs ?_ | refine x_sto ?_ | refine x_app ?_ | refine x_app0 ?_ | refine x_ld ?_)
      exact ret0 (x := .c (.ow 9 0 1 (owL []))) rfl (clV_c (clL_sl (rw := ⟨9, 1, 0, false, []⟩) rfl rfl rfl (owL_clo []) clL_nil)) ⟨rfl, rfl⟩
  · rw [show tabsE _ = l from rfl, h0] at cv
    obtain ⟨x, hx⟩ : ∃ x, l[k]? = some x := ⟨_, List.getElem?_eq_getElem hlt⟩
    obtain ⟨y0, y1A, y1c, y1, rfl, hy0, ⟨hy1, hy1k⟩, -⟩ := shape_impl_Table (hl x (List.mem_of_getElem? hx))
    have hy1l : y1.length ≤ 1048576 := by
      have := E.szL_mem (List.mem_of_getElem? hx)
      simp only [E.sz, E.szL] at hsz this; omega
    have e0 : keysL (.agg [.lst 4 50 x0A x0c l2, .lst 2 114 x1A x1c l]) s = y1.map keyE := by simp [keysL, tabsE, idxF_pos h0, hx]
    rw [e0]
    refine ctr_of Try.func51 rfl rfl ?_
    repeat (first | refine awp_seq ?_ | refine awp_block ?_ | refine awp_skip ?_ | refine awp_exit ?_ | refine awp_ret ?_ | refine awp_region0 fun C => ?_ | refine awp_region1 (by kernel_rfl) (by kernel_rfl) fun C => ?_ | refine walk_end ?_ | refine x_nop ?_ | refine x_bs ?_ | refine x_gr ?_ | refine x_st ?_ | refine x_mv ?_ | refine x_sk ?_ | refine x_sk0 ?_ | refine x_ix ?_ | refine x_ixs ?_ | refine x_sto ?_ | refine x_app ?_ | refine x_app0 ?_ | refine x_ld ?_)
    refine x_call 110 cv ?_
    repeat (first | refine awp_seq ?_ | refine awp_block ?_ | refine awp_skip ?_ | refine awp_exit ?_ | refine awp_ret ?_ | refine awp_region0 fun C => ?_ | refine awp_region1 (by kernel_rfl) (by kernel_rfl) fun C => ?_ | refine walk_end ?_ | refine x_nop ?_ | refine x_bs ?_ | refine x_gr ?_ | refine x_st ?_ | refine x_mv ?_ | refine x_sk ?_ | refine x_sk0 ?_ | refine x_ix ?_ | refine x_ixs ?_ | refine x_sto ?_ | refine x_app ?_ | refine x_app0 ?_ | refine x_ld ?_)
    refine awp_gh (g_nilT 90 (t := 5) 9 1 rfl rfl) ?_
    refine awp_cond (by rfl) (fun h1 => ?_) fun h1 => ?_
    · repeat (first | refine awp_seq ?_ | refine awp_block ?_ | refine awp_skip ?_ | refine awp_exit ?_ | refine awp_ret ?_ | refine awp_region0 fun C => ?_ | refine awp_region1 (by kernel_rfl) (by kernel_rfl) fun C => ?_ | refine walk_end ?_ | refine x_nop ?_ | refine x_bs ?_ | refine x_gr ?_ | refine x_st ?_ | refine x_mv ?_ | refine x_sk ?_ | refine x_sk0 ?_ | refine x_ix ?_ | refine x_ixs ?_ | refine x_sto ?_ | refine x_app ?_ | refine x_app0 ?_ | refine x_ld ?_)
      refine awp_loopd (fun i : Nat => ⟨tmsF [(5, .c (.sl 90 i)), (19, .c (.ro y1.length 4 (acL y1))), (20, .c (.v (.int .i64 y1.length))), (21, .c (.v (.int .i64 i)))], hpsF [(90, 90, ⟨9, 1, i, false, owL ((y1.map keyE).take i)⟩)], 0, [90], 32⟩)
        (fun N i => i + N = y1.length) y1.length 0 (by omega) ?_ ?_
      · (refine gh_tidy _ _ rfl rfl ?_ ?_ <;> (repeat' (first | exact TmOk.nil | exact RwOk.nil | refine TmOk.cons ?_ ?_ | refine RwOk.cons ?_ ?_ | rfl | (refine rnV_id' rfl ?_; (first | rfl | (simp [cloV, cloL, clo, acE_clo, acL_clo, owE_clo, owL_clo, cloL_app]; done))) | (refine rn_int ?_; first | rfl | omega | (rw [wrap_nat (by omega) (by omega)]; omega)) | (refine rw_same rfl ?_; (first | rfl | (simp [cloV, cloL, clo, acE_clo, acL_clo, owE_clo, owL_clo, cloL_app]; done))) | exact rw_rn rfl rfl | (refine rw_mid (by rfl) (by rfl) ?_ ?_ <;> (first | rfl | (simp [cloV, cloL, clo, acE_clo, acL_clo, owE_clo, owL_clo, cloL_app]; done))) | (refine rw_rn' rfl rfl ?_; simp; done))))
      rintro N i hN
      repeat (first | refine awp_seq ?_ | refine awp_block ?_ | refine awp_skip ?_ | refine awp_exit ?_ | refine awp_ret ?_ | refine awp_region0 fun C => ?_ | refine awp_region1 (by kernel_rfl) (by kernel_rfl) fun C => ?_ | refine walk_end ?_ | refine x_nop ?_ | refine x_bs ?_ | refine x_gr ?_ | refine x_st ?_ | refine x_mv ?_ | refine x_sk ?_ | refine x_sk0 ?_ | refine x_ix ?_ | refine x_ixs ?_ | refine x_sto ?_ | refine x_app ?_ | refine x_app0 ?_ | refine x_ld ?_)
      refine awp_cond (by rfl) (fun h1 => ?_) fun h1 => ?_
      · have hi' : i < y1.length := by simpa using h1
        obtain ⟨z, hz⟩ : ∃ z, y1[i]? = some z := ⟨_, List.getElem?_eq_getElem hi'⟩
        obtain ⟨z0, z1, z2, z3, rfl, hz0⟩ := shape_impl_Entry (hy1 z (List.mem_of_getElem? hz))
        have hz' : (y1.map keyE)[i]? = some (.str z0) := by rw [List.getElem?_map, hz]; rfl
        repeat (first | refine awp_seq ?_ | refine awp_block ?_ | refine awp_skip ?_ | refine awp_exit ?_ | refine awp_ret ?_ | refine awp_region0 fun C => ?_ | refine awp_region1 (by kernel_rfl) (by kernel_rfl) fun C => ?_ | refine walk_end ?_ | refine x_nop ?_ | refine x_bs ?_ | refine x_gr ?_ | refine x_st ?_ | refine x_mv ?_ | refine x_sk ?_ | refine x_sk0 ?_ | refine x_ix ?_ | refine x_ixs ?_ | refine x_sto ?_ | refine x_app ?_ | refine x_app0 ?_ | refine x_ld ?_)
        refine ⟨N - 1, i + 1, by omega, by omega, ?_⟩
        (refine gh_ren (fun j => if j = 90 then 29 else j) _ _ rfl rfl ?_ ?_ <;> (repeat' (first | exact TmOk.nil | exact RwOk.nil | refine TmOk.cons ?_ ?_ | refine RwOk.cons ?_ ?_ | rfl | (refine rnV_id' rfl ?_; (first | rfl | (simp [cloV, cloL, clo, acE_clo, acL_clo, owE_clo, owL_clo, cloL_app]; done))) | (refine rn_int ?_; first | rfl | omega | (rw [wrap_nat (by omega) (by omega)]; omega)) | (refine rw_same rfl ?_; (first | rfl | (simp [cloV, cloL, clo, acE_clo, acL_clo, owE_clo, owL_clo, cloL_app]; done))) | exact rw_rn rfl rfl | (refine rw_mid (by rfl) (by rfl) ?_ ?_ <;> (first | rfl | (simp [cloV, cloL, clo, acE_clo, acL_clo, owE_clo, owL_clo, cloL_app]; done))) | (refine rw_rn' rfl rfl ?_; simp; done))))
        exact rw_to (r := ⟨9, 1, i + 1, false, owL ((y1.map keyE).take i) ++ [.v (.string z0)]⟩) rfl (by rw [owL_take_succ hz']; rfl) (by first | rfl | (simp [cloV, cloL, clo, acE_clo, acL_clo, owE_clo, owL_clo, cloL_app]; done))
      · have hi' : ¬ i < y1.length := by simpa using h1
        repeat (first | refine awp_seq ?_ | refine awp_block ?_ | refine awp_skip ?_ | refine awp_exit ?_ | refine awp_ret ?_ | refine awp_region0 fun C => ?_ | refine awp_region1 (by kernel_rfl) (by kernel_rfl) fun C => ?_ | refine walk_end ?_ | refine x_nop ?_ | refine x_bs ?_ | refine x_gr ?_ | refine x_st ?_ | refine x_mv ?_ | refine x_sk ?_ | refine x_sk0 ?_ | refine x_ix ?_ | refine x_ixs ?_ | refine x_sto ?_ | refine x_app ?_ | refine x_app0 ?_ | refine x_ld ?_)
        obtain rfl : i = y1.length := by omega
        refine ret0 (x := .c (.ow 9 y1.length 1 (owL ((y1.map keyE).take y1.length)))) rfl (clV_c (clL_sl (rw := ⟨9, 1, y1.length, false, owL ((y1.map keyE).take y1.length)⟩) rfl rfl rfl (owL_clo _) clL_nil)) ⟨?_, rfl⟩
        rw [List.take_of_length_le (by simp), List.length_map]
    · simp at h1
end Go.Proofs.Ytfnnbjkjfoiboaa
