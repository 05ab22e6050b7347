/- Alloc of both sides: by the abstract machine. -/
import Derived.Test.YtfnnbjkjfoiboaaAY
import Derived.Test.YtfnnbjkjfoiboaaFamHeap
import Derived.Test.YtfnnbjkjfoiboaaFamVal
import Derived.Test.YtfnnbjkjfoiboaaT1
namespace Go.Proofs.Ytfnnbjkjfoiboaa
open Go.RowKit
set_option maxRecDepth 100000
def rfE (e : E) : Int := match e with | .agg (.int _ n :: _) => n | _ => 0
def isFree (e : E) : Bool := rfE e == 0
theorem flat_Cell {e : E} (h : e.Ty Try.prog 58) : flatE e = true := by
  obtain ⟨y0, y1, y2, y3, rfl, _⟩ := shape_impl_Cell h; rfl
theorem l20Copy_c {e : E} (he : e.Ty Try.prog 31) (hsz : e.sz ≤ 1048576) : Ctr Try.prog 69 [.ag (acE e)] [] (.ag (owE e)) [] := by
  obtain ⟨x0A, x0c, l, rfl, ⟨hl, hk⟩, -⟩ := shape_impl_Heap he
  have hlen : l.length ≤ 1048576 := by simp only [E.sz, E.szL] at hsz; omega
  have fl : acL l = owL l := acL_flat l (flatL_of fun e h => flat_Cell (hl e h))
  refine ctr_of Try.func69 rfl rfl ?_
  repeat (first | refine awp_seq ?_ | refine awp_block ?_ | refine awp_skip ?_ | refine awp_exit ?_ | refine awp_ret ?_ | refine awp_region0 fun C => ?_ | refine awp_region1 (by kernel_rfl) (by kernel_rfl) fun C => ?_ | refine walk_end ?_ | refine x_nop ?_ | refine x_bs ?_ | refine x_gr ?_ | refine x_st ?_ | refine x_mv ?_ | refine x_sk ?_ | refine x_sk0 ?_ | refine x_ix ?_ | refine x_ixs ?_ | refine x_sto ?_ | refine x_app ?_ | refine x_app0 ?_ | refine x_ld ?_)
  refine ret0 (x := .ag [.ow 58 l.length 4 (acL l)]) rfl (clV_ag (clL_sl (rw := ⟨58, 4, l.length, false, acL l⟩) rfl rfl rfl (by rw [fl]; exact owL_clo _) clL_nil)) ⟨by rw [fl]; rfl, rfl⟩
theorem copyHeap_c {e : E} (he : e.Ty Try.prog 31) (hsz : e.sz ≤ 1048576) : Ctr Try.prog 72 [.ag (acE e)] [] (.ag (owE e)) [] := by
  obtain ⟨x0A, x0c, l, rfl, ⟨hl, hk⟩, -⟩ := shape_impl_Heap he
  have hlen : l.length ≤ 1048576 := by simp only [E.sz, E.szL] at hsz; omega
  have fl : acL l = owL l := acL_flat l (flatL_of fun e h => flat_Cell (hl e h))
  refine ctr_of Try.func72 rfl rfl ?_
  repeat (first | refine awp_seq ?_ | refine awp_block ?_ | refine awp_skip ?_ | refine awp_exit ?_ | refine awp_ret ?_ | refine awp_region0 fun C => ?_ | refine awp_region1 (by kernel_rfl) (by kernel_rfl) fun C => ?_ | refine walk_end ?_ | refine x_nop ?_ | refine x_bs ?_ | refine x_gr ?_ | refine x_st ?_ | refine x_mv ?_ | refine x_sk ?_ | refine x_sk0 ?_ | refine x_ix ?_ | refine x_ixs ?_ | refine x_sto ?_ | refine x_app ?_ | refine x_app0 ?_ | refine x_ld ?_)
  refine ret0 (x := .ag [.ow 58 l.length 4 (acL l)]) rfl (clV_ag (clL_sl (rw := ⟨58, 4, l.length, false, acL l⟩) rfl rfl rfl (by rw [fl]; exact owL_clo _) clL_nil)) ⟨by rw [fl]; rfl, rfl⟩
theorem cloCell_c {x : E} (hx : x.Ty Try.prog 58) : Ctr Try.prog 132 [.ag (acE x)] [] (.c (.v (.bool (isFree x)))) [] := by
  obtain ⟨y0, y1, y2, y3, rfl, hy⟩ := shape_impl_Cell hx
  refine ctr_of Try.func132 rfl rfl ?_
  repeat (first | refine awp_seq ?_ | refine awp_block ?_ | refine awp_skip ?_ | refine awp_exit ?_ | refine awp_ret ?_ | refine awp_region0 fun C => ?_ | refine awp_region1 (by kernel_rfl) (by kernel_rfl) fun C => ?_ | refine walk_end ?_ | refine x_nop ?_ | refine x_bs ?_ | refine x_gr ?_ | refine x_st ?_ | refine x_mv ?_ | refine x_sk ?_ | refine x_sk0 ?_ | refine x_ix ?_ | refine x_ixs ?_ | refine x_sto ?_ | refine x_app ?_ | refine x_app0 ?_ | refine x_ld ?_)
  exact ret0 (x := .c (.v (.bool (y0 == 0)))) rfl rfl ⟨rfl, rfl⟩
theorem idxCell_c {l : List E} (hl : ∀ e ∈ l, e.Ty Try.prog 58) (hk : ∀ e ∈ l, e.enc.length = 4) (hlen : l.length ≤ 1073741824) : Ctr Try.prog 131 [.c (.ro l.length 4 (acL l)), .c (.fn 132 [])] [] (.c (.v (.int .i64 (idxF isFree l)))) [] := by
  refine ctr_of Try.func131 rfl rfl ?_
  repeat (first | refine awp_seq ?_ | refine awp_block ?_ | refine awp_skip ?_ | refine awp_exit ?_ | refine awp_ret ?_ | refine awp_region0 fun C => ?_ | refine awp_region1 (by kernel_rfl) (by kernel_rfl) fun C => ?_ | refine walk_end ?_ | refine x_nop ?_ | refine x_bs ?_ | refine x_gr ?_ | refine x_st ?_ | refine x_mv ?_ | refine x_sk ?_ | refine x_sk0 ?_ | refine x_ix ?_ | refine x_ixs ?_ | refine x_sto ?_ | refine x_app ?_ | refine x_app0 ?_ | refine x_ld ?_)
  refine awp_loopd (fun k : Nat => ⟨tmsF [(0, .c (.ro l.length 4 (acL l))), (1, .c (.fn 132 [])), (7, .c (.v (.int .i64 l.length))), (8, .c (.v (.int .i64 k)))], hpsF [], 0, [], 19⟩)
    (fun N k => k + N = l.length ∧ ∀ j y, j < k → l[j]? = some y → isFree y = false) l.length 0 ⟨by omega, by omega⟩ ?_ ?_
  · (refine gh_tidy _ _ rfl rfl ?_ ?_ <;> (repeat' (first | exact TmOk.nil | exact RwOk.nil | refine TmOk.cons ?_ ?_ | refine RwOk.cons ?_ ?_ | rfl | (refine rnV_id' rfl ?_; (first | rfl | (simp [cloV, cloL, clo, acE_clo, acL_clo, owE_clo, owL_clo, cloL_app]; done))) | (refine rn_int ?_; first | rfl | omega | (rw [wrap_nat (by omega) (by omega)]; omega)) | (refine rw_same rfl ?_; (first | rfl | (simp [cloV, cloL, clo, acE_clo, acL_clo, owE_clo, owL_clo, cloL_app]; done))) | exact rw_rn rfl rfl | (refine rw_rn' rfl rfl ?_; simp; done))))
  rintro N k ⟨hN, hno⟩
  repeat (first | refine awp_seq ?_ | refine awp_block ?_ | refine awp_skip ?_ | refine awp_exit ?_ | refine awp_ret ?_ | refine awp_region0 fun C => ?_ | refine awp_region1 (by kernel_rfl) (by kernel_rfl) fun C => ?_ | refine walk_end ?_ | refine x_nop ?_ | refine x_bs ?_ | refine x_gr ?_ | refine x_st ?_ | refine x_mv ?_ | refine x_sk ?_ | refine x_sk0 ?_ | refine x_ix ?_ | refine x_ixs ?_ | refine x_sto ?_ | refine x_app ?_ | refine x_app0 ?_ | refine x_ld ?_)
  refine awp_cond (by rfl) (fun h1 => ?_) fun h1 => ?_
  · have hk' : k < l.length := by simpa using h1
    obtain ⟨x, hx⟩ : ∃ x, l[k]? = some x := ⟨_, List.getElem?_eq_getElem hk'⟩
    have hxt := hl x (List.mem_of_getElem? hx)
    have hc := cloCell_c hxt
    obtain ⟨y0, y1, y2, y3, rfl, hy⟩ := shape_impl_Cell hxt
    repeat (first | refine awp_seq ?_ | refine awp_block ?_ | refine awp_skip ?_ | refine awp_exit ?_ | refine awp_ret ?_ | refine awp_region0 fun C => ?_ | refine awp_region1 (by kernel_rfl) (by kernel_rfl) fun C => ?_ | refine walk_end ?_ | refine x_nop ?_ | refine x_bs ?_ | refine x_gr ?_ | refine x_st ?_ | refine x_mv ?_ | refine x_sk ?_ | refine x_sk0 ?_ | refine x_ix ?_ | refine x_ixs ?_ | refine x_sto ?_ | refine x_app ?_ | refine x_app0 ?_ | refine x_ld ?_)
    refine x_call 50 hc ?_
    repeat (first | refine awp_seq ?_ | refine awp_block ?_ | refine awp_skip ?_ | refine awp_exit ?_ | refine awp_ret ?_ | refine awp_region0 fun C => ?_ | refine awp_region1 (by kernel_rfl) (by kernel_rfl) fun C => ?_ | refine walk_end ?_ | refine x_nop ?_ | refine x_bs ?_ | refine x_gr ?_ | refine x_st ?_ | refine x_mv ?_ | refine x_sk ?_ | refine x_sk0 ?_ | refine x_ix ?_ | refine x_ixs ?_ | refine x_sto ?_ | refine x_app ?_ | refine x_app0 ?_ | refine x_ld ?_)
    refine awp_cond (by rfl) (fun h2 => ?_) fun h2 => ?_
    · repeat (first | refine awp_seq ?_ | refine awp_block ?_ | refine awp_skip ?_ | refine awp_exit ?_ | refine awp_ret ?_ | refine awp_region0 fun C => ?_ | refine awp_region1 (by kernel_rfl) (by kernel_rfl) fun C => ?_ | refine walk_end ?_ | refine x_nop ?_ | refine x_bs ?_ | refine x_gr ?_ | refine x_st ?_ | refine x_mv ?_ | refine x_sk ?_ | refine x_sk0 ?_ | refine x_ix ?_ | refine x_ixs ?_ | refine x_sto ?_ | refine x_app ?_ | refine x_app0 ?_ | refine x_ld ?_)
      refine ret0 (x := .c (.v (.int .i64 k))) rfl rfl ⟨?_, rfl⟩
      rw [idxF_at hno hx h2]
    · repeat (first | refine awp_seq ?_ | refine awp_block ?_ | refine awp_skip ?_ | refine awp_exit ?_ | refine awp_ret ?_ | refine awp_region0 fun C => ?_ | refine awp_region1 (by kernel_rfl) (by kernel_rfl) fun C => ?_ | refine walk_end ?_ | refine x_nop ?_ | refine x_bs ?_ | refine x_gr ?_ | refine x_st ?_ | refine x_mv ?_ | refine x_sk ?_ | refine x_sk0 ?_ | refine x_ix ?_ | refine x_ixs ?_ | refine x_sto ?_ | refine x_app ?_ | refine x_app0 ?_ | refine x_ld ?_)
      refine ⟨N - 1, k + 1, by omega, ⟨by omega, fun j z hj hz => ?_⟩, ?_⟩
      · by_cases e : j = k
        · rw [e, hx] at hz; injection hz with hz; subst hz; exact h2
        · exact hno j z (by omega) hz
      · (refine gh_tidy _ _ rfl rfl ?_ ?_ <;> (repeat' (first | exact TmOk.nil | exact RwOk.nil | refine TmOk.cons ?_ ?_ | refine RwOk.cons ?_ ?_ | rfl | (refine rnV_id' rfl ?_; (first | rfl | (simp [cloV, cloL, clo, acE_clo, acL_clo, owE_clo, owL_clo, cloL_app]; done))) | (refine rn_int ?_; first | rfl | omega | (rw [wrap_nat (by omega) (by omega)]; omega)) | (refine rw_same rfl ?_; (first | rfl | (simp [cloV, cloL, clo, acE_clo, acL_clo, owE_clo, owL_clo, cloL_app]; done))) | exact rw_rn rfl rfl | (refine rw_rn' rfl rfl ?_; simp; done))))
  · have hk' : ¬ k < l.length := by simpa using h1
    repeat (first | refine awp_seq ?_ | refine awp_block ?_ | refine awp_skip ?_ | refine awp_exit ?_ | refine awp_ret ?_ | refine awp_region0 fun C => ?_ | refine awp_region1 (by kernel_rfl) (by kernel_rfl) fun C => ?_ | refine walk_end ?_ | refine x_nop ?_ | refine x_bs ?_ | refine x_gr ?_ | refine x_st ?_ | refine x_mv ?_ | refine x_sk ?_ | refine x_sk0 ?_ | refine x_ix ?_ | refine x_ixs ?_ | refine x_sto ?_ | refine x_app ?_ | refine x_app0 ?_ | refine x_ld ?_)
    refine ret0 (x := .c (.v (.int .i64 (-1)))) rfl rfl ⟨?_, rfl⟩
    rw [idxF_none fun j y hj hy => hno j y (by omega) hy]
/-- A value put into the first free cell, or behind all. -/
def allL (l : List E) (v : E) : List E := match l.findIdx? isFree with | some i => l.set i (.agg [.int .i64 1, v]) | none => l ++ [.agg [.int .i64 1, v]]
def allI (l : List E) : Nat := match l.findIdx? isFree with | some i => i | none => l.length
def allE (e v : E) : E := .agg [.lst 4 58 none 0 (allL (varsE e) v)]
theorem allL_some {l : List E} {v : E} {i : Nat} (h : idxF isFree l = (i : Int)) : allL l v = l.set i (.agg [.int .i64 1, v]) ∧ allI l = i := by simp [allL, allI, idxF_pos h]
theorem allL_none {l : List E} {v : E} (h : idxF isFree l = -1) : allL l v = l ++ [.agg [.int .i64 1, v]] ∧ allI l = l.length := by simp [allL, allI, idxF_neg h]
set_option maxHeartbeats 600000 in
theorem l20Alloc_c {e v : E} (he : e.Ty Try.prog 31) (hv : v.Ty Try.prog 35) (hsz : e.sz ≤ 1048576) : Ctr Try.prog 70 [.c (.pt 0 0), .ag (acE v)] [owE e] (.c (.v (.int .i64 (allI (varsE e))))) [owE (allE e v)] := by
  obtain ⟨x0A, x0c, l, rfl, ⟨hl, hk⟩, -⟩ := shape_impl_Heap he
  have hlen : l.length ≤ 1048576 := by simp only [E.sz, E.szL] at hsz; omega
  obtain ⟨v0, v1, v2, rfl, -⟩ := shape_impl_Val hv
  refine ctr_of Try.func70 rfl rfl ?_
  refine awp_gh (g_rev 100 (i := 0) rfl rfl (pre := []) (post := []) rfl) ?_
  repeat (first | refine awp_seq ?_ | refine awp_block ?_ | refine awp_skip ?_ | refine awp_exit ?_ | refine awp_region0 fun C => ?_ | refine awp_region1 (by kernel_rfl) (by kernel_rfl) fun C => ?_ | refine walk_end ?_ | refine x_nop ?_ | refine x_bs ?_ | refine x_gr ?_ | refine x_st ?_ | refine x_mv ?_ | refine x_sk ?_ | refine x_sk0 ?_ | refine x_ix ?_ | refine x_ixs ?_ | refine x_sto ?_ | refine x_app ?_ | refine x_app0 ?_ | refine x_ld ?_)
  refine awp_loopd (fun k : Nat => ⟨tmsF [(0, .c (.pt 0 0)), (3, .c (.pt 3 0)), (5, .c (.v (.int .i64 k)))], hpsF [(0, 0, ⟨0, 0, 0, true, [.sl 100 l.length]⟩), (100, 100, ⟨58, 4, l.length, false, owL l⟩), (3, 3, ⟨35, 0, 0, true, [.v (.int .i64 v0), .v (.int .i64 v1), .v (.string v2)]⟩)], 1, [0, 100, 3], 50⟩)
    (fun N k => k + N = l.length ∧ ∀ j y, j < k → l[j]? = some y → isFree y = false) l.length 0 ⟨by omega, by omega⟩ ?_ ?_
  · (refine gh_tidy _ _ rfl rfl ?_ ?_ <;> (repeat' (first | exact TmOk.nil | exact RwOk.nil | refine TmOk.cons ?_ ?_ | refine RwOk.cons ?_ ?_ | rfl | (refine rnV_id' rfl ?_; (first | rfl | (simp [cloV, cloL, clo, acE_clo, acL_clo, owE_clo, owL_clo, cloL_app]; done))) | (refine rn_int ?_; first | rfl | omega | (rw [wrap_nat (by omega) (by omega)]; omega)) | (refine rw_same rfl ?_; (first | rfl | (simp [cloV, cloL, clo, acE_clo, acL_clo, owE_clo, owL_clo, cloL_app]; done))) | exact rw_rn rfl rfl | (refine rw_rn' rfl rfl ?_; simp; done))))
  rintro N k ⟨hN, hno⟩
  repeat (first | refine awp_seq ?_ | refine awp_block ?_ | refine awp_skip ?_ | refine awp_exit ?_ | refine awp_region0 fun C => ?_ | refine awp_region1 (by kernel_rfl) (by kernel_rfl) fun C => ?_ | refine walk_end ?_ | refine x_nop ?_ | refine x_bs ?_ | refine x_gr ?_ | refine x_st ?_ | refine x_mv ?_ | refine x_sk ?_ | refine x_sk0 ?_ | refine x_ix ?_ | refine x_ixs ?_ | refine x_sto ?_ | refine x_app ?_ | refine x_app0 ?_ | refine x_ld ?_)
  refine awp_cond (by rfl) (fun h1 => ?_) fun h1 => ?_
  · have hk' : k < l.length := by simpa using h1
    obtain ⟨x, hx⟩ : ∃ x, l[k]? = some x := ⟨_, List.getElem?_eq_getElem hk'⟩
    obtain ⟨y0, y1, y2, y3, rfl, hy⟩ := shape_impl_Cell (hl x (List.mem_of_getElem? hx))
    have hs1 : subL (owL l) (k * 4 + 0) 1 = [.v (.int .i64 y0)] := owL_at hk hx (by omega)
    have hle : k * 4 + 4 ≤ (owL l).length := owL_fit (j := 0) hk hk' (by omega)
    repeat (first | refine awp_seq ?_ | refine awp_block ?_ | refine awp_skip ?_ | refine awp_exit ?_ | refine awp_region0 fun C => ?_ | refine awp_region1 (by kernel_rfl) (by kernel_rfl) fun C => ?_ | refine walk_end ?_ | refine x_nop ?_ | refine x_bs ?_ | refine x_gr ?_ | refine x_st ?_ | refine x_mv ?_ | refine x_sk ?_ | refine x_sk0 ?_ | refine x_ix ?_ | refine x_ixs ?_ | refine x_sto ?_ | refine x_app ?_ | refine x_app0 ?_ | refine x_ld ?_)
    refine awp_cond (by rfl) (fun h2 => ?_) fun h2 => ?_
    · have hf := idxF_at hno hx h2
      obtain ⟨a1, a2⟩ := allL_some (v := .agg [.int .i64 v0, .int .i64 v1, .str v2]) hf
      have e1 : spl (owL l) (k * 4 + 0) [.v (.int .i64 1), .v (.int .i64 v0), .v (.int .i64 v1), .v (.string v2)] = owL (l.set k (.agg [.int .i64 1, .agg [.int .i64 v0, .int .i64 v1, .str v2]])) := owL_spl hk hx (by simp) rfl
      repeat (first | refine awp_seq ?_ | refine awp_block ?_ | refine awp_skip ?_ | refine awp_exit ?_ | refine awp_region0 fun C => ?_ | refine awp_region1 (by kernel_rfl) (by kernel_rfl) fun C => ?_ | refine walk_end ?_ | refine x_nop ?_ | refine x_bs ?_ | refine x_gr ?_ | refine x_st ?_ | refine x_mv ?_ | refine x_sk ?_ | refine x_sk0 ?_ | refine x_ix ?_ | refine x_ixs ?_ | refine x_sto ?_ | refine x_app ?_ | refine x_app0 ?_ | refine x_ld ?_)
      refine awp_gh (g_abs (i := 0) (j := 100) rfl rfl rfl (pre := []) (post := []) rfl) ?_
      refine awp_ret ?_
      refine retL (x := .c (.v (.int .i64 k))) (cs := [.ow 58 l.length 4 (spl (owL l) (k * 4) [.v (.int .i64 1), .v (.int .i64 v0), .v (.int .i64 v1), .v (.string v2)])]) rfl clV_v rfl ?_ rfl ⟨by rw [show varsE _ = l from rfl, a2], ?_⟩
      · rw [show spl (owL l) (k * 4) _ = _ from e1]; first | rfl | (simp [cloV, cloL, clo, acE_clo, acL_clo, owE_clo, owL_clo, cloL_app]; done)
      · rw [show spl (owL l) (k * 4) _ = _ from e1, allE, show varsE _ = l from rfl, a1]; simp [owE, owL]
    · repeat (first | refine awp_seq ?_ | refine awp_block ?_ | refine awp_skip ?_ | refine awp_exit ?_ | refine awp_region0 fun C => ?_ | refine awp_region1 (by kernel_rfl) (by kernel_rfl) fun C => ?_ | refine walk_end ?_ | refine x_nop ?_ | refine x_bs ?_ | refine x_gr ?_ | refine x_st ?_ | refine x_mv ?_ | refine x_sk ?_ | refine x_sk0 ?_ | refine x_ix ?_ | refine x_ixs ?_ | refine x_sto ?_ | refine x_app ?_ | refine x_app0 ?_ | refine x_ld ?_)
      refine ⟨N - 1, k + 1, by omega, ⟨by omega, fun j z hj hz => ?_⟩, ?_⟩
      · by_cases e : j = k
        · rw [e, hx] at hz; injection hz with hz; subst hz; exact h2
        · exact hno j z (by omega) hz
      · (refine gh_tidy _ _ rfl rfl ?_ ?_ <;> (repeat' (first | exact TmOk.nil | exact RwOk.nil | refine TmOk.cons ?_ ?_ | refine RwOk.cons ?_ ?_ | rfl | (refine rnV_id' rfl ?_; (first | rfl | (simp [cloV, cloL, clo, acE_clo, acL_clo, owE_clo, owL_clo, cloL_app]; done))) | (refine rn_int ?_; first | rfl | omega | (rw [wrap_nat (by omega) (by omega)]; omega)) | (refine rw_same rfl ?_; (first | rfl | (simp [cloV, cloL, clo, acE_clo, acL_clo, owE_clo, owL_clo, cloL_app]; done))) | exact rw_rn rfl rfl | (refine rw_rn' rfl rfl ?_; simp; done))))
  · have hk' : ¬ k < l.length := by simpa using h1
    have hf := idxF_none (p := isFree) (l := l) fun j y hj hy => hno j y (by omega) hy
    obtain ⟨a1, a2⟩ := allL_none (v := .agg [.int .i64 v0, .int .i64 v1, .str v2]) hf
    have hw : IntKind.i64.wrap (((l.length + 1 : Nat) : Int) - 1) = (l.length : Int) := by rw [IntKind.wrap_i64]; omega
    repeat (first | refine awp_seq ?_ | refine awp_block ?_ | refine awp_skip ?_ | refine awp_exit ?_ | refine awp_region0 fun C => ?_ | refine awp_region1 (by kernel_rfl) (by kernel_rfl) fun C => ?_ | refine walk_end ?_ | refine x_nop ?_ | refine x_bs ?_ | refine x_gr ?_ | refine x_st ?_ | refine x_mv ?_ | refine x_sk ?_ | refine x_sk0 ?_ | refine x_ix ?_ | refine x_ixs ?_ | refine x_sto ?_ | refine x_app ?_ | refine x_app0 ?_ | refine x_ld ?_)
    refine awp_gh (g_abs (i := 0) (j := 41) rfl rfl rfl (pre := []) (post := []) rfl) ?_
    refine awp_ret ?_
    refine retL (x := .c (.v (.int .i64 (IntKind.i64.wrap (((l.length + 1 : Nat) : Int) - 1))))) (cs := [.ow 58 (l.length + 1) 4 (owL l ++ [.v (.int .i64 1), .v (.int .i64 v0), .v (.int .i64 v1), .v (.string v2)])]) rfl clV_v rfl ?_ rfl ⟨by rw [show varsE _ = l from rfl, a2, hw], ?_⟩
    · first | rfl | (simp [cloV, cloL, clo, acE_clo, acL_clo, owE_clo, owL_clo, cloL_app]; done)
    · rw [allE, show varsE _ = l from rfl, a1]; simp [owE, owL, owL_app]
theorem spl_end {p q xs : List AC} (h : xs.length = q.length) : spl (p ++ q) p.length xs = p ++ xs := by
  unfold spl
  rw [List.take_left, List.drop_of_length_le (by simp [h]), List.append_nil]
set_option maxHeartbeats 600000 in
theorem alloc_c {e v : E} (he : e.Ty Try.prog 31) (hv : v.Ty Try.prog 35) (hsz : e.sz ≤ 1048576) : Ctr Try.prog 73 [.c (.pt 0 0), .ag (acE v)] [owE e] (.c (.v (.int .i64 (allI (varsE e))))) [owE (allE e v)] := by
  obtain ⟨x0A, x0c, l, rfl, ⟨hl, hk⟩, -⟩ := shape_impl_Heap he
  have hlen : l.length ≤ 1048576 := by simp only [E.sz, E.szL] at hsz; omega
  obtain ⟨v0, v1, v2, rfl, -⟩ := shape_impl_Val hv
  have hc := idxCell_c hl hk (by omega)
  rcases idxF_cases isFree l with h0 | ⟨k, h0, hlt⟩
  · rw [h0] at hc
    obtain ⟨a1, a2⟩ := allL_none (v := .agg [.int .i64 v0, .int .i64 v1, .str v2]) h0
    have hlen4 : (owL l).length = l.length * 4 := by rw [owL_len, E.encL_len hk]
    have hj : l.length < l.length + 1 := by omega
    have hle : l.length * 4 + 4 ≤ (owL l ++ [AC.v (.int .i64 0), .v (.int .i64 0), .v (.int .i64 0), .v (.string ByteArray.empty)]).length := by simp [hlen4]
    have e1 : spl (owL l ++ [AC.v (.int .i64 0), .v (.int .i64 0), .v (.int .i64 0), .v (.string ByteArray.empty)]) (l.length * 4) [.v (.int .i64 1), .v (.int .i64 v0), .v (.int .i64 v1), .v (.string v2)] = owL l ++ [.v (.int .i64 1), .v (.int .i64 v0), .v (.int .i64 v1), .v (.string v2)] := by rw [← hlen4]; exact spl_end rfl
    refine ctr_of Try.func73 rfl rfl ?_
    refine awp_gh (g_rev 100 (i := 0) rfl rfl (pre := []) (post := []) rfl) ?_
    repeat (first | refine awp_seq ?_ | refine awp_block ?_ | refine awp_skip ?_ | refine awp_exit ?_ | refine awp_region0 fun C => ?_ | refine awp_region1 (by kernel_rfl) (by kernel_rfl) fun C => ?_ | refine walk_end ?_ | refine x_nop ?_ | refine x_bs ?_ | refine x_gr ?_ | refine x_st ?_ | refine x_mv ?_ | refine x_sk ?_ | refine x_sk0 ?_ | refine x_ix ?_ | refine x_ixs ?_ | refine x_sto ?_ | refine x_app ?_ | refine x_app0 ?_ | refine x_ld ?_)
    refine x_call 110 hc ?_
    repeat (first | refine awp_seq ?_ | refine awp_block ?_ | refine awp_skip ?_ | refine awp_exit ?_ | refine awp_region0 fun C => ?_ | refine awp_region1 (by kernel_rfl) (by kernel_rfl) fun C => ?_ | refine walk_end ?_ | refine x_nop ?_ | refine x_bs ?_ | refine x_gr ?_ | refine x_st ?_ | refine x_mv ?_ | refine x_sk ?_ | refine x_sk0 ?_ | refine x_ix ?_ | refine x_ixs ?_ | refine x_sto ?_ | refine x_app ?_ | refine x_app0 ?_ | refine x_ld ?_)
    refine awp_cond (by rfl) (fun h1 => ?_) fun h1 => ?_
    rotate_left
    · simp at h1
    repeat (first | refine awp_seq ?_ | refine awp_block ?_ | refine awp_skip ?_ | refine awp_exit ?_ | refine awp_region0 fun C => ?_ | refine awp_region1 (by kernel_rfl) (by kernel_rfl) fun C => ?_ | refine walk_end ?_ | refine x_nop ?_ | refine x_bs ?_ | refine x_gr ?_ | refine x_st ?_ | refine x_mv ?_ | refine x_sk ?_ | refine x_sk0 ?_ | refine x_ix ?_ | refine x_ixs ?_ | refine x_sto ?_ | refine x_app ?_ | refine x_app0 ?_ | refine x_ld ?_)
    refine awp_gh (g_abs (i := 0) (j := 25) rfl rfl rfl (pre := []) (post := []) rfl) ?_
    refine awp_ret ?_
    refine retL (x := .c (.v (.int .i64 l.length))) (cs := [.ow 58 (l.length + 1) 4 (spl (owL l ++ [AC.v (.int .i64 0), .v (.int .i64 0), .v (.int .i64 0), .v (.string ByteArray.empty)]) (l.length * 4) [.v (.int .i64 1), .v (.int .i64 v0), .v (.int .i64 v1), .v (.string v2)])]) rfl clV_v rfl ?_ rfl ⟨by rw [show varsE _ = l from rfl, a2], ?_⟩
    · rw [e1]; first | rfl | (simp [cloV, cloL, clo, acE_clo, acL_clo, owE_clo, owL_clo, cloL_app]; done)
    · rw [e1, allE, show varsE _ = l from rfl, a1]; simp [owE, owL, owL_app]
  · rw [h0] at hc
    obtain ⟨a1, a2⟩ := allL_some (v := .agg [.int .i64 v0, .int .i64 v1, .str v2]) h0
    obtain ⟨x, hx⟩ : ∃ x, l[k]? = some x := ⟨_, List.getElem?_eq_getElem hlt⟩
    obtain ⟨y0, y1, y2, y3, rfl, hy⟩ := shape_impl_Cell (hl x (List.mem_of_getElem? hx))
    have hle : k * 4 + 4 ≤ (owL l).length := owL_fit (j := 0) hk hlt (by omega)
    have e1 : spl (owL l) (k * 4 + 0) [.v (.int .i64 1), .v (.int .i64 v0), .v (.int .i64 v1), .v (.string v2)] = owL (l.set k (.agg [.int .i64 1, .agg [.int .i64 v0, .int .i64 v1, .str v2]])) := owL_spl hk hx (by simp) rfl
    refine ctr_of Try.func73 rfl rfl ?_
    refine awp_gh (g_rev 100 (i := 0) rfl rfl (pre := []) (post := []) rfl) ?_
    repeat (first | refine awp_seq ?_ | refine awp_block ?_ | refine awp_skip ?_ | refine awp_exit ?_ | refine awp_region0 fun C => ?_ | refine awp_region1 (by kernel_rfl) (by kernel_rfl) fun C => ?_ | refine walk_end ?_ | refine x_nop ?_ | refine x_bs ?_ | refine x_gr ?_ | refine x_st ?_ | refine x_mv ?_ | refine x_sk ?_ | refine x_sk0 ?_ | refine x_ix ?_ | refine x_ixs ?_ | refine x_sto ?_ | refine x_app ?_ | refine x_app0 ?_ | refine x_ld ?_)
    refine x_call 110 hc ?_
    repeat (first | refine awp_seq ?_ | refine awp_block ?_ | refine awp_skip ?_ | refine awp_exit ?_ | refine awp_region0 fun C => ?_ | refine awp_region1 (by kernel_rfl) (by kernel_rfl) fun C => ?_ | refine walk_end ?_ | refine x_nop ?_ | refine x_bs ?_ | refine x_gr ?_ | refine x_st ?_ | refine x_mv ?_ | refine x_sk ?_ | refine x_sk0 ?_ | refine x_ix ?_ | refine x_ixs ?_ | refine x_sto ?_ | refine x_app ?_ | refine x_app0 ?_ | refine x_ld ?_)
    refine awp_cond (by rfl) (fun h1 => ?_) fun h1 => ?_
    · exact absurd (of_decide_eq_true h1) (by omega)
    repeat (first | refine awp_seq ?_ | refine awp_block ?_ | refine awp_skip ?_ | refine awp_exit ?_ | refine awp_region0 fun C => ?_ | refine awp_region1 (by kernel_rfl) (by kernel_rfl) fun C => ?_ | refine walk_end ?_ | refine x_nop ?_ | refine x_bs ?_ | refine x_gr ?_ | refine x_st ?_ | refine x_mv ?_ | refine x_sk ?_ | refine x_sk0 ?_ | refine x_ix ?_ | refine x_ixs ?_ | refine x_sto ?_ | refine x_app ?_ | refine x_app0 ?_ | refine x_ld ?_)
    refine awp_gh (g_abs (i := 0) (j := 100) rfl rfl rfl (pre := []) (post := []) rfl) ?_
    refine awp_ret ?_
    refine retL (x := .c (.v (.int .i64 k))) (cs := [.ow 58 l.length 4 (spl (owL l) (k * 4) [.v (.int .i64 1), .v (.int .i64 v0), .v (.int .i64 v1), .v (.string v2)])]) rfl clV_v rfl ?_ rfl ⟨by rw [show varsE _ = l from rfl, a2], ?_⟩
    · rw [show spl (owL l) (k * 4) _ = _ from e1]; first | rfl | (simp [cloV, cloL, clo, acE_clo, acL_clo, owE_clo, owL_clo, cloL_app]; done)
    · rw [show spl (owL l) (k * 4) _ = _ from e1, allE, show varsE _ = l from rfl, a1]; simp [owE, owL]
theorem specAlloc_c {e v : E} (he : e.Ty Try.prog 31) (hv : v.Ty Try.prog 35) (hsz : e.sz ≤ 1048576) : Ctr Try.prog 17 [.ag (acE e), .ag (acE v)] [] (.tu [.ag (owE (allE e v)), .c (.v (.int .i64 (allI (varsE e))))]) [] := by
  have cp := l20Alloc_c he hv hsz
  have cc := l20Copy_c he hsz
  obtain ⟨x0A, x0c, l, rfl, ⟨hl, hk⟩, -⟩ := shape_impl_Heap he
  obtain ⟨v0, v1, v2, rfl, -⟩ := shape_impl_Val hv
  obtain ⟨n1, c1, hE, hc1⟩ : ∃ n1 c1, owE (allE (.agg [.lst 4 58 x0A x0c l]) (.agg [.int .i64 v0, .int .i64 v1, .str v2])) = [.ow 58 n1 4 c1] ∧ cloL c1 = true := ⟨_, _, rfl, owL_clo _⟩
  have hR := owE_rofr (allE (.agg [.lst 4 58 x0A x0c l]) (.agg [.int .i64 v0, .int .i64 v1, .str v2]))
  rw [hE] at cp hR ⊢
  refine ctr_of Try.func17 rfl rfl ?_
  repeat (first | refine awp_seq ?_ | refine awp_block ?_ | refine awp_skip ?_ | refine awp_exit ?_ | refine awp_ret ?_ | refine awp_region0 fun C => ?_ | refine awp_region1 (by kernel_rfl) (by kernel_rfl) fun C => ?_ | refine walk_end ?_ | refine x_nop ?_ | refine x_bs ?_ | refine x_gr ?_ | refine x_st ?_ | refine x_mv ?_ | refine x_sk ?_ | refine x_sk0 ?_ | refine x_ix ?_ | refine x_ixs ?_ | refine x_sto ?_ | refine x_app ?_ | refine x_app0 ?_ | refine x_ld ?_)
  refine x_call 100 cc ?_
  repeat (first | refine walk_end ?_ | refine x_nop ?_ | refine x_bs ?_ | refine x_gr ?_ | refine x_st ?_ | refine x_mv ?_ | refine x_sk ?_ | refine x_sk0 ?_ | refine x_ix ?_ | refine x_ixs ?_ | refine x_sto ?_ | refine x_app ?_ | refine x_app0 ?_ | refine x_ld ?_)
  repeat (first | refine awp_seq ?_ | refine awp_block ?_ | refine awp_skip ?_ | refine awp_exit ?_)
  refine awp_gh (g_abs (i := 6) (j := 100) rfl rfl rfl (pre := []) (post := []) rfl) ?_
  repeat (first | refine awp_seq ?_ | refine awp_block ?_ | refine awp_skip ?_ | refine awp_exit ?_ | refine awp_ret ?_ | refine awp_region0 fun C => ?_ | refine awp_region1 (by kernel_rfl) (by kernel_rfl) fun C => ?_ | refine walk_end ?_ | refine x_nop ?_ | refine x_bs ?_ | refine x_gr ?_ | refine x_st ?_ | refine x_mv ?_ | refine x_sk ?_ | refine x_sk0 ?_ | refine x_ix ?_ | refine x_ixs ?_ | refine x_sto ?_ | refine x_app ?_ | refine x_app0 ?_ | refine x_ld ?_)
  refine x_calld 120 [6] cp ?_ (hl := lend1 (by rfl) (by first | rfl | (simp [cloV, cloL, clo, acE_clo, acL_clo, owE_clo, owL_clo, cloL_app]; done))) (hm2 := rofr_one hR)
  repeat (first | refine walk_end ?_ | refine x_nop ?_ | refine x_bs ?_ | refine x_gr ?_ | refine x_st ?_ | refine x_mv ?_ | refine x_sk ?_ | refine x_sk0 ?_ | refine x_ix ?_ | refine x_ixs ?_ | refine x_sto ?_ | refine x_app ?_ | refine x_app0 ?_ | refine x_ld ?_)
  repeat (first | refine awp_seq ?_ | refine awp_block ?_ | refine awp_skip ?_ | refine awp_exit ?_)
  refine awp_gh (g_rev 130 (i := 6) rfl rfl (pre := []) (post := []) rfl) ?_
  repeat (first | refine awp_seq ?_ | refine awp_block ?_ | refine awp_skip ?_ | refine awp_exit ?_ | refine awp_ret ?_ | refine awp_region0 fun C => ?_ | refine awp_region1 (by kernel_rfl) (by kernel_rfl) fun C => ?_ | refine walk_end ?_ | refine x_nop ?_ | refine x_bs ?_ | refine x_gr ?_ | refine x_st ?_ | refine x_mv ?_ | refine x_sk ?_ | refine x_sk0 ?_ | refine x_ix ?_ | refine x_ixs ?_ | refine x_sto ?_ | refine x_app ?_ | refine x_app0 ?_ | refine x_ld ?_)
  exact ret0 (x := .tu [.ag [.ow 58 n1 4 c1], .c (.v (.int .i64 _))]) rfl (clV_tu (clVL_cons (clV_ag (clL_sl (rw := ⟨58, 4, n1, false, c1⟩) rfl rfl rfl hc1 clL_nil)) (clVL_cons clV_v clVL_nil))) ⟨rfl, rfl⟩
theorem implAlloc_c {e v : E} (he : e.Ty Try.prog 31) (hv : v.Ty Try.prog 35) (hsz : e.sz ≤ 1048576) : Ctr Try.prog 20 [.ag (acE e), .ag (acE v)] [] (.tu [.ag (owE (allE e v)), .c (.v (.int .i64 (allI (varsE e))))]) [] := by
  have cp := alloc_c he hv hsz
  have cc := copyHeap_c he hsz
  obtain ⟨x0A, x0c, l, rfl, ⟨hl, hk⟩, -⟩ := shape_impl_Heap he
  obtain ⟨v0, v1, v2, rfl, -⟩ := shape_impl_Val hv
  obtain ⟨n1, c1, hE, hc1⟩ : ∃ n1 c1, owE (allE (.agg [.lst 4 58 x0A x0c l]) (.agg [.int .i64 v0, .int .i64 v1, .str v2])) = [.ow 58 n1 4 c1] ∧ cloL c1 = true := ⟨_, _, rfl, owL_clo _⟩
  have hR := owE_rofr (allE (.agg [.lst 4 58 x0A x0c l]) (.agg [.int .i64 v0, .int .i64 v1, .str v2]))
  rw [hE] at cp hR ⊢
  refine ctr_of Try.func20 rfl rfl ?_
  repeat (first | refine awp_seq ?_ | refine awp_block ?_ | refine awp_skip ?_ | refine awp_exit ?_ | refine awp_ret ?_ | refine awp_region0 fun C => ?_ | refine awp_region1 (by kernel_rfl) (by kernel_rfl) fun C => ?_ | refine walk_end ?_ | refine x_nop ?_ | refine x_bs ?_ | refine x_gr ?_ | refine x_st ?_ | refine x_mv ?_ | refine x_sk ?_ | refine x_sk0 ?_ | refine x_ix ?_ | refine x_ixs ?_ | refine x_sto ?_ | refine x_app ?_ | refine x_app0 ?_ | refine x_ld ?_)
  refine x_call 100 cc ?_
  repeat (first | refine walk_end ?_ | refine x_nop ?_ | refine x_bs ?_ | refine x_gr ?_ | refine x_st ?_ | refine x_mv ?_ | refine x_sk ?_ | refine x_sk0 ?_ | refine x_ix ?_ | refine x_ixs ?_ | refine x_sto ?_ | refine x_app ?_ | refine x_app0 ?_ | refine x_ld ?_)
  repeat (first | refine awp_seq ?_ | refine awp_block ?_ | refine awp_skip ?_ | refine awp_exit ?_)
  refine awp_gh (g_abs (i := 6) (j := 100) rfl rfl rfl (pre := []) (post := []) rfl) ?_
  repeat (first | refine awp_seq ?_ | refine awp_block ?_ | refine awp_skip ?_ | refine awp_exit ?_ | refine awp_ret ?_ | refine awp_region0 fun C => ?_ | refine awp_region1 (by kernel_rfl) (by kernel_rfl) fun C => ?_ | refine walk_end ?_ | refine x_nop ?_ | refine x_bs ?_ | refine x_gr ?_ | refine x_st ?_ | refine x_mv ?_ | refine x_sk ?_ | refine x_sk0 ?_ | refine x_ix ?_ | refine x_ixs ?_ | refine x_sto ?_ | refine x_app ?_ | refine x_app0 ?_ | refine x_ld ?_)
  refine x_calld 120 [6] cp ?_ (hl := lend1 (by rfl) (by first | rfl | (simp [cloV, cloL, clo, acE_clo, acL_clo, owE_clo, owL_clo, cloL_app]; done))) (hm2 := rofr_one hR)
  repeat (first | refine walk_end ?_ | refine x_nop ?_ | refine x_bs ?_ | refine x_gr ?_ | refine x_st ?_ | refine x_mv ?_ | refine x_sk ?_ | refine x_sk0 ?_ | refine x_ix ?_ | refine x_ixs ?_ | refine x_sto ?_ | refine x_app ?_ | refine x_app0 ?_ | refine x_ld ?_)
  repeat (first | refine awp_seq ?_ | refine awp_block ?_ | refine awp_skip ?_ | refine awp_exit ?_)
  refine awp_gh (g_rev 130 (i := 6) rfl rfl (pre := []) (post := []) rfl) ?_
  repeat (first | refine awp_seq ?_ | refine awp_block ?_ | refine awp_skip ?_ | refine awp_exit ?_ | refine awp_ret ?_ | refine awp_region0 fun C => ?_ | refine awp_region1 (by kernel_rfl) (by kernel_rfl) fun C => ?_ | refine walk_end ?_ | refine x_nop ?_ | refine x_bs ?_ | refine x_gr ?_ | refine x_st ?_ | refine x_mv ?_ | refine x_sk ?_ | refine x_sk0 ?_ | refine x_ix ?_ | refine x_ixs ?_ | refine x_sto ?_ | refine x_app ?_ | refine x_app0 ?_ | refine x_ld ?_)
  exact ret0 (x := .tu [.ag [.ow 58 n1 4 c1], .c (.v (.int .i64 _))]) rfl (clV_tu (clVL_cons (clV_ag (clL_sl (rw := ⟨58, 4, n1, false, c1⟩) rfl rfl rfl hc1 clL_nil)) (clVL_cons clV_v clVL_nil))) ⟨rfl, rfl⟩
end Go.Proofs.Ytfnnbjkjfoiboaa
