/- spec.l14Drop, spec.DropEntry, impl.DropEntry: by the abstract machine. -/
import Derived.Test.YtfnnbjkjfoiboaaDel
import Derived.Test.YtfnnbjkjfoiboaaAH
import Derived.Test.YtfnnbjkjfoiboaaT10
namespace Go.Proofs.Ytfnnbjkjfoiboaa
open Go.RowKit
set_option maxRecDepth 100000
def notNm (s : ByteArray) (e : E) : Bool := !isNm s e
def dropE (e : E) (nm s : ByteArray) : E := .agg [.lst 4 50 none 0 (varsE e), .lst 2 114 none 0 (match (tabsE e).findIdx? (isNm nm) with
  | some k => (tabsE e).set k (.agg [.str (nmE ((tabsE e)[k]?.getD e)), .lst 4 116 none 0 ((tabsE ((tabsE e)[k]?.getD e)).filter (notNm s))]) | none => tabsE e)]
theorem dropE_none {x0A x1A : Option Addr} {x0c x1c k k' : Nat} {T T' : TypeId} {l l2 : List E} {nm s : ByteArray} (h : idxF (isNm nm) l2 = -1) : dropE (.agg [.lst k T x0A x0c l, .lst k' T' x1A x1c l2]) nm s = .agg [.lst 4 50 none 0 l, .lst 2 114 none 0 l2] := by
  simp [dropE, varsE, tabsE, idxF_neg h]
theorem dropE_some {x0A x1A zA : Option Addr} {x0c x1c zc k k' kz : Nat} {T T' Tz : TypeId} {l l2 lz : List E} {nm s q : ByteArray} {i : Nat} (h : idxF (isNm nm) l2 = (i : Int)) (hx : l2[i]? = some (.agg [.str q, .lst kz Tz zA zc lz])) :
    dropE (.agg [.lst k T x0A x0c l, .lst k' T' x1A x1c l2]) nm s = .agg [.lst 4 50 none 0 l, .lst 2 114 none 0 (l2.set i (.agg [.str q, .lst 4 116 none 0 (lz.filter (notNm s))]))] := by
  simp [dropE, varsE, tabsE, idxF_pos h, hx, nmE]
set_option maxHeartbeats 600000 in
theorem drop0_c {x0A x1A : Option Addr} {x0c x1c : Nat} {l l2 : List E} {nm s : ByteArray} (hlen : l.length ≤ 1048576) (hlen2 : l2.length ≤ 1048576) (ca : Ctr Try.prog 106 [.ag (acE (E.agg [.lst 4 50 x0A x0c l, .lst 2 114 x1A x1c l2])), .c (.v (.string nm))] [] (.c (.v (.int .i64 (-1)))) []) :
    Ctr Try.prog 115 [.c (.pt 0 0), .c (.v (.string nm)), .c (.v (.string s))] [owE (E.agg [.lst 4 50 x0A x0c l, .lst 2 114 x1A x1c l2])] (.tu []) [owE (E.agg [.lst 4 50 x0A x0c l, .lst 2 114 x1A x1c l2])] := by
  refine ctr_of Try.func115 rfl rfl ?_
  refine awp_gh (g_rev 100 (i := 0) rfl rfl (pre := []) (post := [_]) rfl) ?_
  refine awp_gh (g_rev 101 (i := 0) rfl rfl (pre := [_]) (post := []) rfl) ?_
  repeat (first | refine awp_seq ?_ | refine awp_block ?_ | refine awp_skip ?_ | refine awp_exit ?_ | refine awp_region0 fun C => ?_ | refine awp_region1 (by kernel_rfl) (by kernel_rfl) fun C => ?_ | refine walk_end ?_ | refine x_nop ?_ | refine x_bs ?_ | refine x_gr ?_ | refine x_st ?_ | refine x_mv ?_ | refine x_sk ?_ | refine x_sk0 ?_ | refine x_ix ?_ | refine x_ixs ?_ | refine x_sto ?_ | refine x_app ?_ | refine x_app0 ?_ | refine x_ld ?_)
  refine x_call 110 ca ?_
  repeat (first | refine awp_seq ?_ | refine awp_block ?_ | refine awp_skip ?_ | refine awp_exit ?_ | refine awp_region0 fun C => ?_ | refine awp_region1 (by kernel_rfl) (by kernel_rfl) fun C => ?_ | refine walk_end ?_ | refine x_nop ?_ | refine x_bs ?_ | refine x_gr ?_ | refine x_st ?_ | refine x_mv ?_ | refine x_sk ?_ | refine x_sk0 ?_ | refine x_ix ?_ | refine x_ixs ?_ | refine x_sto ?_ | refine x_app ?_ | refine x_app0 ?_ | refine x_ld ?_)
  refine awp_cond (by rfl) (fun h1 => ?_) fun h1 => ?_
  rotate_left
  · simp at h1
  refine awp_gh (g_abs (i := 0) (j := 100) rfl rfl rfl (pre := []) (post := [_]) rfl) ?_
  refine awp_gh (g_abs (i := 0) (j := 101) rfl rfl rfl (pre := [_]) (post := []) rfl) ?_
  refine awp_ret ?_
  refine retL (x := .tu []) rfl rfl rfl ?_ rfl ⟨rfl, rfl⟩
  first | rfl | (simp [cloV, cloL, clo, acE_clo, acL_clo, owE_clo, owL_clo, cloL_app]; done)
theorem filt_succ {y1 : List E} {s : ByteArray} {i : Nat} {z : E} (hz : y1[i]? = some z) : (y1.take (i + 1)).filter (notNm s) = (y1.take i).filter (notNm s) ++ (if notNm s z then [z] else []) := by
  rw [List.take_add_one, hz, List.filter_append]; simp [List.filter_cons]
theorem filt_len {y1 : List E} {s : ByteArray} {i : Nat} : ((y1.take i).filter (notNm s)).length ≤ y1.length := Nat.le_trans (List.length_filter_le _ _) (by rw [List.length_take]; omega)
set_option maxHeartbeats 800000 in
theorem dropS_c {x0A x1A y1A : Option Addr} {x0c x1c y1c : Nat} {l l2 y1 : List E} {y0 nm s : ByteArray} {k : Nat} (hk2 : ∀ e ∈ l2, e.enc.length = 2) (hk1 : ∀ e ∈ y1, e.enc.length = 4) (hy1 : ∀ e ∈ y1, e.Ty Try.prog 116) (hlen : l.length ≤ 1048576) (hlen2 : l2.length ≤ 1048576) (hy1l : y1.length ≤ 1048576) (hlt : k < l2.length) (hx : l2[k]? = some (.agg [.str y0, .lst 4 116 y1A y1c y1]))
    (ca : Ctr Try.prog 106 [.ag (acE (E.agg [.lst 4 50 x0A x0c l, .lst 2 114 x1A x1c l2])), .c (.v (.string nm))] [] (.c (.v (.int .i64 k))) []) :
    Ctr Try.prog 115 [.c (.pt 0 0), .c (.v (.string nm)), .c (.v (.string s))] [owE (E.agg [.lst 4 50 x0A x0c l, .lst 2 114 x1A x1c l2])] (.tu []) [[.ow 50 l.length 4 (owL l), .ow 114 l2.length 2 ((owL (l2.take k) ++ [.v (.string y0)]) ++ .ow 116 (y1.filter (notNm s)).length 4 (owL (y1.filter (notNm s))) :: owL (l2.drop (k + 1)))]] := by
  have hP := owL_take_len (k := k) hk2 (Nat.le_of_lt hlt)
  have hs2 : subL ((owL (l2.take k) ++ [.v (.string y0)]) ++ .sl 102 y1.length :: owL (l2.drop (k + 1))) (k * 2 + 1) 1 = [.sl 102 y1.length] := subL_snd hP
  have hle : k * 2 + 1 + 1 ≤ ((owL (l2.take k) ++ [AC.v (.string y0)]) ++ AC.sl 102 y1.length :: owL (l2.drop (k + 1))).length := by simp [hP]; omega


  refine ctr_of Try.func115 rfl rfl ?_
  refine awp_gh (g_rev 100 (i := 0) rfl rfl (pre := []) (post := [_]) rfl) ?_
  refine awp_gh (g_rev 101 (i := 0) rfl rfl (pre := [_]) (post := []) rfl) ?_
  repeat (first | refine awp_seq ?_ | refine awp_block ?_ | refine awp_skip ?_ | refine awp_exit ?_ | refine awp_region0 fun C => ?_ | refine awp_region1 (by kernel_rfl) (by kernel_rfl) fun C => ?_ | refine walk_end ?_ | refine x_nop ?_ | refine x_bs ?_ | refine x_gr ?_ | refine x_st ?_ | refine x_mv ?_ | refine x_sk ?_ | refine x_sk0 ?_ | refine x_ix ?_ | refine x_ixs ?_ | refine x_sto ?_ | refine x_app ?_ | refine x_app0 ?_ | refine x_ld ?_)
  refine x_call 110 ca ?_
  repeat (first | refine awp_seq ?_ | refine awp_block ?_ | refine awp_skip ?_ | refine awp_exit ?_ | refine awp_region0 fun C => ?_ | refine awp_region1 (by kernel_rfl) (by kernel_rfl) fun C => ?_ | refine walk_end ?_ | refine x_nop ?_ | refine x_bs ?_ | refine x_gr ?_ | refine x_st ?_ | refine x_mv ?_ | refine x_sk ?_ | refine x_sk0 ?_ | refine x_ix ?_ | refine x_ixs ?_ | refine x_sto ?_ | refine x_app ?_ | refine x_app0 ?_ | refine x_ld ?_)
  refine awp_cond (by rfl) (fun h1 => ?_) fun h1 => ?_
  · exact absurd (of_decide_eq_true h1) (by omega)
  refine awp_gh (g_rev 102 (i := 101) rfl rfl (pre := (owL (l2.take k) ++ [.v (.string y0)])) (post := owL (l2.drop (k + 1))) (tab_at hx)) ?_
  repeat (first | refine awp_seq ?_ | refine awp_block ?_ | refine awp_skip ?_ | refine awp_exit ?_ | refine awp_region0 fun C => ?_ | refine awp_region1 (by kernel_rfl) (by kernel_rfl) fun C => ?_ | refine walk_end ?_ | refine x_nop ?_ | refine x_bs ?_ | refine x_gr ?_ | refine x_st ?_ | refine x_mv ?_ | refine x_sk ?_ | refine x_sk0 ?_ | refine x_ix ?_ | refine x_ixs ?_ | refine x_sto ?_ | refine x_app ?_ | refine x_app0 ?_ | refine x_ld ?_)
  refine awp_loopd (fun d : Nat × Nat × List AC => ⟨tmsF [(0, .c (.pt 0 0)), (2, .c (.v (.string s))), (6, .c (.v (.int .i64 k))), (7, .c (.sl 7 d.2.1)), (8, .c (.v (.int .i64 d.1)))], hpsF [(0, 0, ⟨0, 0, 0, true, [.sl 100 l.length, .sl 101 l2.length]⟩), (100, 100, ⟨50, 4, l.length, false, owL l⟩), (101, 101, ⟨114, 2, l2.length, false, (owL (l2.take k) ++ [.v (.string y0)]) ++ .sl 102 y1.length :: owL (l2.drop (k + 1))⟩), (102, 102, ⟨116, 4, y1.length, false, owL y1⟩), (7, 7, ⟨116, 4, d.2.1, false, d.2.2⟩)], 1, [0, 100, 101, 102, 7], 66⟩)
    (fun N d => d.1 + N = y1.length ∧ d.2.1 = ((y1.take d.1).filter (notNm s)).length ∧ d.2.2 = owL ((y1.take d.1).filter (notNm s))) y1.length (0, 0, []) ⟨by simp, rfl, rfl⟩ ?_ ?_
  · (refine gh_ren (fun j => if j = 7 then 16 else j) _ _ rfl rfl ?_ ?_ <;> (repeat' (first | exact TmOk.nil | exact RwOk.nil | refine TmOk.cons ?_ ?_ | refine RwOk.cons ?_ ?_ | rfl | (refine rnV_id' rfl ?_; (first | rfl | (simp [cloV, cloL, clo, acE_clo, acL_clo, owE_clo, owL_clo, cloL_app]; done))) | (refine rn_int ?_; first | rfl | omega | (rw [wrap_nat (by omega) (by omega)]; omega)) | (refine rw_same rfl ?_; (first | rfl | (simp [cloV, cloL, clo, acE_clo, acL_clo, owE_clo, owL_clo, cloL_app]; done))) | exact rw_rn rfl rfl | (refine rw_mid (by rfl) (by rfl) ?_ ?_ <;> (first | rfl | (simp [cloV, cloL, clo, acE_clo, acL_clo, owE_clo, owL_clo, cloL_app]; done))) | (refine rw_rn' rfl rfl ?_; simp; done))))
  rintro N ⟨i, n, cs⟩ ⟨hN, hq1, hq2⟩
  dsimp only at hN hq1 hq2
  subst hq1 hq2
  dsimp only
  have hfl := filt_len (y1 := y1) (s := s) (i := i)
  repeat (first | refine awp_seq ?_ | refine awp_block ?_ | refine awp_skip ?_ | refine awp_exit ?_ | refine awp_region0 fun C => ?_ | refine awp_region1 (by kernel_rfl) (by kernel_rfl) fun C => ?_ | refine walk_end ?_ | refine x_nop ?_ | refine x_bs ?_ | refine x_gr ?_ | refine x_st ?_ | refine x_mv ?_ | refine x_sk ?_ | refine x_sk0 ?_ | refine x_ix ?_ | refine x_ixs ?_ | refine x_sto ?_ | refine x_app ?_ | refine x_app0 ?_ | refine x_ld ?_)
  refine awp_cond (by rfl) (fun h1 => ?_) fun h1 => ?_
  · have hi' : i < y1.length := by simpa using h1
    obtain ⟨z, hz⟩ : ∃ z, y1[i]? = some z := ⟨_, List.getElem?_eq_getElem hi'⟩
    obtain ⟨z0, z1, z2, z3, rfl, -⟩ := shape_impl_Entry (hy1 z (List.mem_of_getElem? hz))
    have hd1 : subL (owL y1) (i * 4 + 0) 1 = [.v (.string z0)] := (owL_at hk1 hz (j := 0) (m := 1) (by omega)).trans rfl
    have hd4 : subL (owL y1) (i * 4) 4 = [.v (.string z0), .v (.int .i64 z1), .v (.int .i64 z2), .v (.string z3)] := (owL_at hk1 hz (j := 0) (m := 4) (by omega)).trans rfl
    repeat (first | refine awp_seq ?_ | refine awp_block ?_ | refine awp_skip ?_ | refine awp_exit ?_ | refine awp_region0 fun C => ?_ | refine awp_region1 (by kernel_rfl) (by kernel_rfl) fun C => ?_ | refine walk_end ?_ | refine x_nop ?_ | refine x_bs ?_ | refine x_gr ?_ | refine x_st ?_ | refine x_mv ?_ | refine x_sk ?_ | refine x_sk0 ?_ | refine x_ix ?_ | refine x_ixs ?_ | refine x_sto ?_ | refine x_app ?_ | refine x_app0 ?_ | refine x_ld ?_)
    refine awp_cond (by rfl) (fun h2 => ?_) fun h2 => ?_
    · have hnm : notNm s (.agg [.str z0, .agg [.int .i64 z1, .int .i64 z2, .str z3]]) = true := by simpa [notNm, isNm, nmE] using h2
      repeat (first | refine awp_seq ?_ | refine awp_block ?_ | refine awp_skip ?_ | refine awp_exit ?_ | refine awp_region0 fun C => ?_ | refine awp_region1 (by kernel_rfl) (by kernel_rfl) fun C => ?_ | refine walk_end ?_ | refine x_nop ?_ | refine x_bs ?_ | refine x_gr ?_ | refine x_st ?_ | refine x_mv ?_ | refine x_sk ?_ | refine x_sk0 ?_ | refine x_ix ?_ | refine x_ixs ?_ | refine x_sto ?_ | refine x_app ?_ | refine x_app0 ?_ | refine x_ld ?_)
      refine ⟨N - 1, (i + 1, ((y1.take i).filter (notNm s)).length + 1, owL ((y1.take i).filter (notNm s)) ++ [.v (.string z0), .v (.int .i64 z1), .v (.int .i64 z2), .v (.string z3)]), by omega, ⟨by simp only; omega, ?_, ?_⟩, ?_⟩
      · simp only [filt_succ hz, hnm, if_true, List.length_append]; rfl
      · simp only [filt_succ hz, hnm, if_true, owL_app]; rfl
      · (refine gh_ren (fun j => if j = 7 then 57 else j) _ _ rfl rfl ?_ ?_ <;> (repeat' (first | exact TmOk.nil | exact RwOk.nil | refine TmOk.cons ?_ ?_ | refine RwOk.cons ?_ ?_ | rfl | (refine rnV_id' rfl ?_; (first | rfl | (simp [cloV, cloL, clo, acE_clo, acL_clo, owE_clo, owL_clo, cloL_app]; done))) | (refine rn_int ?_; first | rfl | omega | (rw [wrap_nat (by omega) (by omega)]; omega)) | (refine rw_same rfl ?_; (first | rfl | (simp [cloV, cloL, clo, acE_clo, acL_clo, owE_clo, owL_clo, cloL_app]; done))) | exact rw_rn rfl rfl | (refine rw_mid (by rfl) (by rfl) ?_ ?_ <;> (first | rfl | (simp [cloV, cloL, clo, acE_clo, acL_clo, owE_clo, owL_clo, cloL_app]; done))) | (refine rw_rn' rfl rfl ?_; simp; done))))
    · have hnm : notNm s (.agg [.str z0, .agg [.int .i64 z1, .int .i64 z2, .str z3]]) = false := by simpa [notNm, isNm, nmE] using h2
      repeat (first | refine awp_seq ?_ | refine awp_block ?_ | refine awp_skip ?_ | refine awp_exit ?_ | refine awp_region0 fun C => ?_ | refine awp_region1 (by kernel_rfl) (by kernel_rfl) fun C => ?_ | refine walk_end ?_ | refine x_nop ?_ | refine x_bs ?_ | refine x_gr ?_ | refine x_st ?_ | refine x_mv ?_ | refine x_sk ?_ | refine x_sk0 ?_ | refine x_ix ?_ | refine x_ixs ?_ | refine x_sto ?_ | refine x_app ?_ | refine x_app0 ?_ | refine x_ld ?_)
      refine ⟨N - 1, (i + 1, ((y1.take i).filter (notNm s)).length, owL ((y1.take i).filter (notNm s))), by omega, ⟨by simp only; omega, ?_, ?_⟩, ?_⟩
      · simp only [filt_succ hz, hnm]; simp
      · simp only [filt_succ hz, hnm]; simp
      · (refine gh_tidy _ _ rfl rfl ?_ ?_ <;> (repeat' (first | exact TmOk.nil | exact RwOk.nil | refine TmOk.cons ?_ ?_ | refine RwOk.cons ?_ ?_ | rfl | (refine rnV_id' rfl ?_; (first | rfl | (simp [cloV, cloL, clo, acE_clo, acL_clo, owE_clo, owL_clo, cloL_app]; done))) | (refine rn_int ?_; first | rfl | omega | (rw [wrap_nat (by omega) (by omega)]; omega)) | (refine rw_same rfl ?_; (first | rfl | (simp [cloV, cloL, clo, acE_clo, acL_clo, owE_clo, owL_clo, cloL_app]; done))) | exact rw_rn rfl rfl | (refine rw_mid (by rfl) (by rfl) ?_ ?_ <;> (first | rfl | (simp [cloV, cloL, clo, acE_clo, acL_clo, owE_clo, owL_clo, cloL_app]; done))) | (refine rw_rn' rfl rfl ?_; simp; done))))
  · have hi' : ¬ i < y1.length := by simpa using h1
    obtain rfl : i = y1.length := by omega
    repeat (first | refine awp_seq ?_ | refine awp_block ?_ | refine awp_skip ?_ | refine awp_exit ?_ | refine awp_region0 fun C => ?_ | refine awp_region1 (by kernel_rfl) (by kernel_rfl) fun C => ?_ | refine x_nop ?_ | refine x_bs ?_ | refine x_gr ?_ | refine x_st ?_ | refine x_mv ?_ | refine x_sk ?_ | refine x_sk0 ?_ | refine x_ix ?_ | refine x_ixs ?_ | refine x_sto ?_ | refine x_app ?_ | refine x_app0 ?_ | refine x_ld ?_)
    refine walk_gh (g_abs (i := 101) (j := 7) rfl rfl rfl (pre := (owL (l2.take k) ++ [.v (.string y0)])) (post := owL (l2.drop (k + 1))) (spl_snd hP)) ?_
    refine walk_gh (g_abs (i := 0) (j := 100) rfl rfl rfl (pre := []) (post := [_]) rfl) ?_
    refine walk_gh (g_abs (i := 0) (j := 101) rfl rfl rfl (pre := [_]) (post := []) rfl) ?_
    refine walk_end ?_
    refine retL (x := .tu []) rfl rfl rfl ?_ rfl ⟨rfl, ?_⟩
    · first | rfl | (simp [cloV, cloL, clo, acE_clo, acL_clo, owE_clo, owL_clo, cloL_app]; done)
    · simp only [List.take_length]; rfl
theorem l14Drop_c {e : E} (he : e.Ty Try.prog 45) (nm s : ByteArray) (hsz : e.sz ≤ 1048576) : Ctr Try.prog 115 [.c (.pt 0 0), .c (.v (.string nm)), .c (.v (.string s))] [owE e] (.tu []) [owE (dropE e nm s)] := by
  have ca := l14At_c he nm hsz
  obtain ⟨x0A, x0c, l, x1A, x1c, l2, rfl, ⟨hl, hk⟩, ⟨hl2, hk2⟩, -⟩ := shape_impl_Env he
  have hlen : l.length ≤ 1048576 := by simp only [E.sz, E.szL] at hsz; omega
  have hlen2 : l2.length ≤ 1048576 := by simp only [E.sz, E.szL] at hsz; omega
  rcases idxF_cases (isNm nm) l2 with h0 | ⟨k, h0, hlt⟩
  · rw [show tabsE _ = l2 from rfl, h0] at ca
    rw [dropE_none h0]
    exact drop0_c hlen hlen2 ca
  · rw [show tabsE _ = l2 from rfl, h0] at ca
    obtain ⟨x, hx⟩ : ∃ x, l2[k]? = some x := ⟨_, List.getElem?_eq_getElem hlt⟩
    have hxt := hl2 x (List.mem_of_getElem? hx)
    have hxs : x.sz ≤ 1048576 := by
      have := E.szL_mem (List.mem_of_getElem? hx)
      simp only [E.sz, E.szL] at hsz; omega
    obtain ⟨y0, y1A, y1c, y1, rfl, hy0, ⟨hy1, hy1k⟩, -⟩ := shape_impl_Table hxt
    have hy1l : y1.length ≤ 1048576 := by simp only [E.sz, E.szL] at hxs; omega
    rw [dropE_some h0 hx]
    have hr : ∀ m : List E, [owE (.agg [.lst 4 50 none 0 l, .lst 2 114 none 0 (l2.set k (.agg [.str y0, .lst 4 116 none 0 m]))])] = [[.ow 50 l.length 4 (owL l), .ow 114 l2.length 2 ((owL (l2.take k) ++ [.v (.string y0)]) ++ .ow 116 m.length 4 (owL m) :: owL (l2.drop (k + 1)))]] := by
      intro m
      simp only [owE, owL, List.length_set, List.append_nil]
      rw [tab_set hlt]; rfl
    rw [hr]
    exact dropS_c hk2 hy1k hy1 hlen hlen2 hy1l hlt hx ca
set_option maxHeartbeats 400000 in
theorem specDropEntry_c {e : E} (he : e.Ty Try.prog 45) (nm s : ByteArray) (hsz : e.sz ≤ 1048576) : Ctr Try.prog 62 [.ag (acE e), .c (.v (.string nm)), .c (.v (.string s))] [] (.ag (owE (dropE e nm s))) [] := by
  have cp := l14Drop_c he nm s hsz
  have cc := l14Copy_c he hsz
  obtain ⟨x0A, x0c, l, x1A, x1c, l2, rfl, ⟨hl, hk⟩, ⟨hl2, hk2⟩, -⟩ := shape_impl_Env he
  obtain ⟨n1, c1, n2, c2, hE, hc1, hc2⟩ : ∃ n1 c1 n2 c2, owE (dropE (.agg [.lst 4 50 x0A x0c l, .lst 2 114 x1A x1c l2]) nm s) = [.ow 50 n1 4 c1, .ow 114 n2 2 c2] ∧ cloL c1 = true ∧ cloL c2 = true := ⟨_, _, _, _, rfl, owL_clo _, owL_clo _⟩
  have hR := owE_rofr (dropE (.agg [.lst 4 50 x0A x0c l, .lst 2 114 x1A x1c l2]) nm s)
  rw [hE] at cp hR ⊢
  refine ctr_of Try.func62 rfl rfl ?_
  repeat (first | refine awp_seq ?_ | refine awp_block ?_ | refine awp_skip ?_ | refine awp_exit ?_ | refine awp_ret ?_ | refine awp_region0 fun C => ?_ | refine awp_region1 (by kernel_rfl) (by kernel_rfl) fun C => ?_ | refine walk_end ?_ | refine x_nop ?_ | refine x_bs ?_ | refine x_gr ?_ | refine x_st ?_ | refine x_mv ?_ | refine x_sk ?_ | refine x_sk0 ?_ | refine x_ix ?_ | refine x_ixs ?_ | refine x_sto ?_ | refine x_app ?_ | refine x_app0 ?_ | refine x_ld ?_)
  refine x_call 100 cc ?_
  repeat (first | refine walk_end ?_ | refine x_nop ?_ | refine x_bs ?_ | refine x_gr ?_ | refine x_st ?_ | refine x_mv ?_ | refine x_sk ?_ | refine x_sk0 ?_ | refine x_ix ?_ | refine x_ixs ?_ | refine x_sto ?_ | refine x_app ?_ | refine x_app0 ?_ | refine x_ld ?_)
  repeat (first | refine awp_seq ?_ | refine awp_block ?_ | refine awp_skip ?_ | refine awp_exit ?_)
  refine awp_gh (g_abs (i := 7) (j := 100) rfl rfl rfl (pre := []) (post := [_]) rfl) ?_
  refine awp_gh (g_abs (i := 7) (j := 101) rfl rfl rfl (pre := [_]) (post := []) rfl) ?_
  repeat (first | refine awp_seq ?_ | refine awp_block ?_ | refine awp_skip ?_ | refine awp_exit ?_ | refine awp_ret ?_ | refine awp_region0 fun C => ?_ | refine awp_region1 (by kernel_rfl) (by kernel_rfl) fun C => ?_ | refine walk_end ?_ | refine x_nop ?_ | refine x_bs ?_ | refine x_gr ?_ | refine x_st ?_ | refine x_mv ?_ | refine x_sk ?_ | refine x_sk0 ?_ | refine x_ix ?_ | refine x_ixs ?_ | refine x_sto ?_ | refine x_app ?_ | refine x_app0 ?_ | refine x_ld ?_)
  refine x_calld 120 [7] cp ?_ (hl := lend1 (by rfl) (by first | rfl | (simp [cloV, cloL, clo, acE_clo, acL_clo, owE_clo, owL_clo, cloL_app]; done))) (hm2 := rofr_one hR)
  repeat (first | refine walk_end ?_ | refine x_nop ?_ | refine x_bs ?_ | refine x_gr ?_ | refine x_st ?_ | refine x_mv ?_ | refine x_sk ?_ | refine x_sk0 ?_ | refine x_ix ?_ | refine x_ixs ?_ | refine x_sto ?_ | refine x_app ?_ | refine x_app0 ?_ | refine x_ld ?_)
  repeat (first | refine awp_seq ?_ | refine awp_block ?_ | refine awp_skip ?_ | refine awp_exit ?_)
  refine awp_gh (g_rev 130 (i := 7) rfl rfl (pre := []) (post := [_]) rfl) ?_
  refine awp_gh (g_rev 131 (i := 7) rfl rfl (pre := [_]) (post := []) rfl) ?_
  repeat (first | refine awp_seq ?_ | refine awp_block ?_ | refine awp_skip ?_ | refine awp_exit ?_ | refine awp_ret ?_ | refine awp_region0 fun C => ?_ | refine awp_region1 (by kernel_rfl) (by kernel_rfl) fun C => ?_ | refine walk_end ?_ | refine x_nop ?_ | refine x_bs ?_ | refine x_gr ?_ | refine x_st ?_ | refine x_mv ?_ | refine x_sk ?_ | refine x_sk0 ?_ | refine x_ix ?_ | refine x_ixs ?_ | refine x_sto ?_ | refine x_app ?_ | refine x_app0 ?_ | refine x_ld ?_)
  exact ret0 (x := .ag [.ow 50 n1 4 c1, .ow 114 n2 2 c2]) rfl (clV_ag (clL_sl (rw := ⟨50, 4, n1, false, c1⟩) rfl rfl rfl hc1 (clL_sl (rw := ⟨114, 2, n2, false, c2⟩) rfl rfl rfl hc2 clL_nil))) ⟨rfl, rfl⟩
end Go.Proofs.Ytfnnbjkjfoiboaa
