/- impl.DropEntry: by the abstract machine. -/
import Derived.Test.YtfnnbjkjfoiboaaT15
namespace Go.Proofs.Ytfnnbjkjfoiboaa
open Go.RowKit
set_option maxRecDepth 100000
theorem owL_noUn : ∀ l : List E, (owL l).all noUn = true := by
  intro l
  have : ∀ e : E, (owE e).all noUn = true := by
    intro e
    induction e using E.ind with
    | h1 | h2 | h3 => rfl
    | h4 fs ih =>
      simp only [owE]
      induction fs with
      | nil => rfl
      | cons x r ihr => simp only [owL, List.all_append, ih x List.mem_cons_self, ihr fun e he => ih e (List.mem_cons_of_mem _ he)]; rfl
    | h5 => rfl
  induction l with
  | nil => rfl
  | cons x r ih => simp only [owL, List.all_append, this x, ih]; rfl
theorem owL_erase {k : Nat} : ∀ {l : List E} {i : Nat}, (∀ e ∈ l, e.enc.length = k) → i < l.length → owL (l.eraseIdx i) = (owL l).take (i * k) ++ (owL l).drop ((i + 1) * k)
  | [], _, _, h => absurd h (by simp)
  | x :: r, 0, hk, _ => by
    have hx : (owE x).length = k := by rw [owE_len, hk x List.mem_cons_self]
    simp only [List.eraseIdx_cons_zero, owL, Nat.zero_mul, List.take_zero, List.nil_append, Nat.zero_add, Nat.one_mul]
    rw [List.drop_left' hx]
  | x :: r, i + 1, hk, h => by
    have hx : (owE x).length = k := by rw [owE_len, hk x List.mem_cons_self]
    have ih := owL_erase (l := r) (i := i) (fun e he => hk e (List.mem_cons_of_mem _ he)) (by simpa using h)
    have e1 : (i + 1) * k = (owE x).length + i * k := by rw [hx, Nat.add_mul]; omega
    have e2 : (i + 1 + 1) * k = (owE x).length + (i + 1) * k := by rw [hx, Nat.add_mul (i + 1)]; omega
    simp only [List.eraseIdx_cons_succ, owL, ih]
    rw [e2, e1, List.take_length_add_append, List.drop_length_add_append, ← e1, List.append_assoc]
theorem deleteE_c {m : List E} {n i : Nat} {z : Int} (hz : z = (i : Int) + 1) (hn : n = m.length) (hk : ∀ e ∈ m, e.enc.length = 4) (hi : i < m.length) : CtrT Try.prog 105 [.c .un, .c (.v (.int .i64 i)), .c (.v (.int .i64 z))] 0 116 4 n (owL m) (.c (.ow 116 (n - 1) 4 (owL (m.eraseIdx i)))) none := by
  subst hn
  rw [owL_erase hk hi]
  exact delete_c hz (by rw [owL_len, E.encL_len hk]) (owL_noUn m) hi
theorem filt_erase {s : ByteArray} : ∀ {m : List E} {i : Nat} {x : E}, m[i]? = some x → isNm s x = true → (m.eraseIdx i).filter (notNm s) = m.filter (notNm s)
  | [], _, _, h, _ => by simp at h
  | y :: r, 0, x, h, hx => by
    obtain rfl : y = x := by simpa using h
    simp [List.filter_cons, notNm, hx]
  | y :: r, i + 1, x, h, hx => by
    simp only [List.eraseIdx_cons_succ, List.filter_cons, filt_erase (m := r) (by simpa using h) hx]
theorem filt_all {s : ByteArray} {m : List E} (h : idxF (isNm s) m = -1) : m.filter (notNm s) = m := by
  rw [List.filter_eq_self]
  intro x hx
  have := List.findIdx?_eq_none_iff.1 (idxF_neg h) x hx
  simp [notNm, this]
set_option maxHeartbeats 600000 in
theorem idrop0_c {x0A x1A : Option Addr} {x0c x1c : Nat} {l l2 : List E} {nm s : ByteArray} (hlen : l.length ≤ 1048576) (hlen2 : l2.length ≤ 1048576) (cc : Ctr Try.prog 81 [.ag (acE (E.agg [.lst 4 50 x0A x0c l, .lst 2 114 x1A x1c l2]))] [] (.ag (owE (E.agg [.lst 4 50 x0A x0c l, .lst 2 114 x1A x1c l2]))) []) (ca : Ctr Try.prog 102 [.ag (acE (E.agg [.lst 4 50 x0A x0c l, .lst 2 114 x1A x1c l2])), .c (.v (.string nm))] [] (.c (.v (.int .i64 (-1)))) []) : Ctr Try.prog 50 [.ag (acE (E.agg [.lst 4 50 x0A x0c l, .lst 2 114 x1A x1c l2])), .c (.v (.string nm)), .c (.v (.string s))] [] (.ag [.ow 50 l.length 4 (owL l), .ow 114 l2.length 2 (owL l2)]) [] := by
  refine ctr_of Try.func50 rfl rfl ?_
  repeat (first | refine awp_seq ?_ | refine awp_block ?_ | refine awp_skip ?_ | refine awp_exit ?_ | refine awp_region0 fun C => ?_ | refine awp_region1 (by kernel_rfl) (by kernel_rfl) fun C => ?_ | refine walk_end ?_ | refine x_nop ?_ | refine x_bs ?_ | refine x_gr ?_ | refine x_st ?_ | refine x_mv ?_ | refine x_sk ?_ | refine x_sk0 ?_ | refine x_ix ?_ | refine x_ixs ?_ | refine x_sto ?_ | refine x_app ?_ | refine x_app0 ?_ | refine x_ld ?_)
  refine x_call 100 cc ?_
  repeat (first | refine awp_seq ?_ | refine awp_block ?_ | refine awp_skip ?_ | refine awp_exit ?_ | refine awp_region0 fun C => ?_ | refine awp_region1 (by kernel_rfl) (by kernel_rfl) fun C => ?_ | refine walk_end ?_ | refine x_nop ?_ | refine x_bs ?_ | refine x_gr ?_ | refine x_st ?_ | refine x_mv ?_ | refine x_sk ?_ | refine x_sk0 ?_ | refine x_ix ?_ | refine x_ixs ?_ | refine x_sto ?_ | refine x_app ?_ | refine x_app0 ?_ | refine x_ld ?_)
  refine x_call 110 ca ?_
  repeat (first | refine awp_seq ?_ | refine awp_block ?_ | refine awp_skip ?_ | refine awp_exit ?_ | refine awp_region0 fun C => ?_ | refine awp_region1 (by kernel_rfl) (by kernel_rfl) fun C => ?_ | refine walk_end ?_ | refine x_nop ?_ | refine x_bs ?_ | refine x_gr ?_ | refine x_st ?_ | refine x_mv ?_ | refine x_sk ?_ | refine x_sk0 ?_ | refine x_ix ?_ | refine x_ixs ?_ | refine x_sto ?_ | refine x_app ?_ | refine x_app0 ?_ | refine x_ld ?_)
  refine awp_cond (by rfl) (fun h1 => ?_) fun h1 => ?_
  · simp at h1
  repeat (first | refine awp_seq ?_ | refine awp_block ?_ | refine awp_skip ?_ | refine awp_exit ?_ | refine awp_ret ?_ | refine awp_region0 fun C => ?_ | refine awp_region1 (by kernel_rfl) (by kernel_rfl) fun C => ?_ | refine walk_end ?_ | refine x_nop ?_ | refine x_bs ?_ | refine x_gr ?_ | refine x_st ?_ | refine x_mv ?_ | refine x_sk ?_ | refine x_sk0 ?_ | refine x_ix ?_ | refine x_ixs ?_ | refine x_sto ?_ | refine x_app ?_ | refine x_app0 ?_ | refine x_ld ?_)
  refine ret0 (x := .ag [.ow 50 l.length 4 (owL l), .ow 114 l2.length 2 (owL l2)]) rfl (clV_ag (clL_sl (rw := ⟨50, 4, l.length, false, owL l⟩) rfl rfl rfl (owL_clo _) (clL_sl (rw := ⟨114, 2, l2.length, false, owL l2⟩) rfl rfl rfl (owL_clo _) clL_nil))) ⟨rfl, rfl⟩
set_option maxHeartbeats 1000000 in
theorem idropS_c {x0A x1A y1A : Option Addr} {x0c x1c y1c : Nat} {l l2 y1 : List E} {y0 nm s : ByteArray} {k : Nat} (hk2 : ∀ e ∈ l2, e.enc.length = 2) (hk1 : ∀ e ∈ y1, e.enc.length = 4) (hy1 : ∀ e ∈ y1, e.Ty Try.prog 116) (hlen : l.length ≤ 1048576) (hlen2 : l2.length ≤ 1048576) (hy1l : y1.length ≤ 1048576) (hlt : k < l2.length) (hx : l2[k]? = some (.agg [.str y0, .lst 4 116 y1A y1c y1])) (cc : Ctr Try.prog 81 [.ag (acE (E.agg [.lst 4 50 x0A x0c l, .lst 2 114 x1A x1c l2]))] [] (.ag (owE (E.agg [.lst 4 50 x0A x0c l, .lst 2 114 x1A x1c l2]))) []) (ca : Ctr Try.prog 102 [.ag (acE (E.agg [.lst 4 50 x0A x0c l, .lst 2 114 x1A x1c l2])), .c (.v (.string nm))] [] (.c (.v (.int .i64 (k)))) []) :
    Ctr Try.prog 50 [.ag (acE (E.agg [.lst 4 50 x0A x0c l, .lst 2 114 x1A x1c l2])), .c (.v (.string nm)), .c (.v (.string s))] [] (.ag [.ow 50 l.length 4 (owL l), .ow 114 l2.length 2 ((owL (l2.take k) ++ [.v (.string y0)]) ++ .ow 116 (y1.filter (notNm s)).length 4 (owL (y1.filter (notNm s))) :: owL (l2.drop (k + 1)))]) [] := by
  have hP := owL_take_len (k := k) hk2 (Nat.le_of_lt hlt)
  have hs2 : subL ((owL (l2.take k) ++ [.v (.string y0)]) ++ .sl 102 y1.length :: owL (l2.drop (k + 1))) (k * 2 + 1) 1 = [.sl 102 y1.length] := subL_snd hP
  have ck0 := keyAt_c hy1 hk1 s (by omega)
  refine ctr_of Try.func50 rfl rfl ?_
  repeat (first | refine awp_seq ?_ | refine awp_block ?_ | refine awp_skip ?_ | refine awp_exit ?_ | refine awp_region0 fun C => ?_ | refine awp_region1 (by kernel_rfl) (by kernel_rfl) fun C => ?_ | refine walk_end ?_ | refine x_nop ?_ | refine x_bs ?_ | refine x_gr ?_ | refine x_st ?_ | refine x_mv ?_ | refine x_sk ?_ | refine x_sk0 ?_ | refine x_ix ?_ | refine x_ixs ?_ | refine x_sto ?_ | refine x_app ?_ | refine x_app0 ?_ | refine x_ld ?_)
  refine x_call 100 cc ?_
  repeat (first | refine awp_seq ?_ | refine awp_block ?_ | refine awp_skip ?_ | refine awp_exit ?_ | refine awp_region0 fun C => ?_ | refine awp_region1 (by kernel_rfl) (by kernel_rfl) fun C => ?_ | refine walk_end ?_ | refine x_nop ?_ | refine x_bs ?_ | refine x_gr ?_ | refine x_st ?_ | refine x_mv ?_ | refine x_sk ?_ | refine x_sk0 ?_ | refine x_ix ?_ | refine x_ixs ?_ | refine x_sto ?_ | refine x_app ?_ | refine x_app0 ?_ | refine x_ld ?_)
  refine x_call 110 ca ?_
  repeat (first | refine awp_seq ?_ | refine awp_block ?_ | refine awp_skip ?_ | refine awp_exit ?_ | refine awp_region0 fun C => ?_ | refine awp_region1 (by kernel_rfl) (by kernel_rfl) fun C => ?_ | refine walk_end ?_ | refine x_nop ?_ | refine x_bs ?_ | refine x_gr ?_ | refine x_st ?_ | refine x_mv ?_ | refine x_sk ?_ | refine x_sk0 ?_ | refine x_ix ?_ | refine x_ixs ?_ | refine x_sto ?_ | refine x_app ?_ | refine x_app0 ?_ | refine x_ld ?_)
  refine awp_cond (by rfl) (fun h1 => ?_) fun h1 => ?_
  rotate_left
  · exact absurd (of_decide_eq_false h1) (by omega)
  refine awp_gh (g_rev 102 (i := 101) rfl rfl (pre := (owL (l2.take k) ++ [.v (.string y0)])) (post := owL (l2.drop (k + 1))) (tab_at hx)) ?_
  repeat (first | refine awp_seq ?_ | refine awp_block ?_ | refine awp_skip ?_ | refine awp_exit ?_ | refine awp_region0 fun C => ?_ | refine awp_region1 (by kernel_rfl) (by kernel_rfl) fun C => ?_ | refine walk_end ?_ | refine x_nop ?_ | refine x_bs ?_ | refine x_gr ?_ | refine x_st ?_ | refine x_mv ?_ | refine x_sk ?_ | refine x_sk0 ?_ | refine x_ix ?_ | refine x_ixs ?_ | refine x_sto ?_ | refine x_app ?_ | refine x_app0 ?_ | refine x_ld ?_)
  refine x_call 120 ck0 ?_
  repeat (first | refine awp_seq ?_ | refine awp_block ?_ | refine awp_skip ?_ | refine awp_exit ?_ | refine awp_region0 fun C => ?_ | refine awp_region1 (by kernel_rfl) (by kernel_rfl) fun C => ?_ | refine walk_end ?_ | refine x_nop ?_ | refine x_bs ?_ | refine x_gr ?_ | refine x_st ?_ | refine x_mv ?_ | refine x_sk ?_ | refine x_sk0 ?_ | refine x_ix ?_ | refine x_ixs ?_ | refine x_sto ?_ | refine x_app ?_ | refine x_app0 ?_ | refine x_ld ?_)
  refine awp_loopd (fun d : List E × Nat => ⟨tmsF [(2, .c (.v (.string s))), (6, .c (.pt 6 0)), (7, .c (.pt 7 0)), (9, .c (.pt 101 (k * 2))), (10, .c (.v (.int .i64 (idxF (isNm s) d.1))))], hpsF [(6, 6, ⟨45, 0, 0, true, [.v (.slice none 0 0), .v (.slice none 0 0)]⟩), (7, 7, ⟨45, 0, 0, true, [.sl 100 l.length, .sl 101 l2.length]⟩), (100, 100, ⟨50, 4, l.length, false, owL l⟩), (101, 101, ⟨114, 2, l2.length, false, (owL (l2.take k) ++ [.v (.string y0)]) ++ .sl 102 d.2 :: owL (l2.drop (k + 1))⟩), (102, 102, ⟨116, 4, d.2, false, owL d.1⟩)], 0, [6, 7, 100, 101, 102], 48⟩)
    (fun N d => d.2 = d.1.length ∧ N = d.1.length ∧ (∀ e ∈ d.1, e.Ty Try.prog 116) ∧ (∀ e ∈ d.1, e.enc.length = 4) ∧ d.1.filter (notNm s) = y1.filter (notNm s) ∧ d.1.length ≤ 1048576) y1.length (y1, y1.length) ⟨rfl, rfl, hy1, hk1, rfl, hy1l⟩ ?_ ?_
  · (refine gh_tidy _ _ rfl rfl ?_ ?_ <;> (repeat' (first | exact TmOk.nil | exact RwOk.nil | refine TmOk.cons ?_ ?_ | refine RwOk.cons ?_ ?_ | rfl | (refine rnV_id' rfl ?_; (first | rfl | (simp [cloV, cloL, clo, acE_clo, acL_clo, owE_clo, owL_clo, cloL_app]; done))) | (refine rn_int ?_; first | rfl | omega | (rw [wrap_nat (by omega) (by omega)]; omega)) | (refine rw_same rfl ?_; (first | rfl | (simp [cloV, cloL, clo, acE_clo, acL_clo, owE_clo, owL_clo, cloL_app]; done))) | exact rw_rn rfl rfl | (refine rw_mid (by rfl) (by rfl) ?_ ?_ <;> (first | rfl | (simp [cloV, cloL, clo, acE_clo, acL_clo, owE_clo, owL_clo, cloL_app]; done))) | (refine rw_rn' rfl rfl ?_; simp; done))))
  rintro N ⟨m, n⟩ ⟨hn, hN, hm, hmk, hmf, hml⟩
  dsimp only at hn hN hm hmk hmf hml
  dsimp only
  have hs3 : subL ((owL (l2.take k) ++ [.v (.string y0)]) ++ .sl 102 n :: owL (l2.drop (k + 1))) (k * 2 + 1) 1 = [.sl 102 n] := subL_snd hP
  have hs4 : subL ((owL (l2.take k) ++ [.v (.string y0)]) ++ .sl 503 (n - 1) :: owL (l2.drop (k + 1))) (k * 2 + 1) 1 = [.sl 503 (n - 1)] := subL_snd hP
  have hle : k * 2 + 1 + 1 ≤ ((owL (l2.take k) ++ [AC.v (.string y0)]) ++ AC.sl 102 n :: owL (l2.drop (k + 1))).length := by simp [hP]; omega
  rcases idxF_cases (isNm s) m with h0 | ⟨i, h0, hit⟩
  · rw [h0]
    repeat (first | refine awp_seq ?_ | refine awp_block ?_ | refine awp_skip ?_ | refine awp_exit ?_ | refine awp_region0 fun C => ?_ | refine awp_region1 (by kernel_rfl) (by kernel_rfl) fun C => ?_ | refine walk_end ?_ | refine x_nop ?_ | refine x_bs ?_ | refine x_gr ?_ | refine x_st ?_ | refine x_mv ?_ | refine x_sk ?_ | refine x_sk0 ?_ | refine x_ix ?_ | refine x_ixs ?_ | refine x_sto ?_ | refine x_app ?_ | refine x_app0 ?_ | refine x_ld ?_)
    refine awp_cond (by rfl) (fun h2 => ?_) fun h2 => ?_
    · simp at h2
    repeat (first | refine awp_seq ?_ | refine awp_block ?_ | refine awp_skip ?_ | refine awp_exit ?_)
    refine awp_gh (g_abs (i := 101) (j := 102) rfl rfl rfl (pre := (owL (l2.take k) ++ [.v (.string y0)])) (post := owL (l2.drop (k + 1))) rfl) ?_
    repeat (first | refine awp_seq ?_ | refine awp_block ?_ | refine awp_skip ?_ | refine awp_exit ?_ | refine awp_ret ?_ | refine awp_region0 fun C => ?_ | refine awp_region1 (by kernel_rfl) (by kernel_rfl) fun C => ?_ | refine walk_end ?_ | refine x_nop ?_ | refine x_bs ?_ | refine x_gr ?_ | refine x_st ?_ | refine x_mv ?_ | refine x_sk ?_ | refine x_sk0 ?_ | refine x_ix ?_ | refine x_ixs ?_ | refine x_sto ?_ | refine x_app ?_ | refine x_app0 ?_ | refine x_ld ?_)
    rw [filt_all h0] at hmf
    refine ret0 (x := .ag [.ow 50 l.length 4 (owL l), .ow 114 l2.length 2 ((owL (l2.take k) ++ [.v (.string y0)]) ++ .ow 116 n 4 (owL m) :: owL (l2.drop (k + 1)))]) rfl (clV_ag (clL_sl (rw := ⟨50, 4, l.length, false, owL l⟩) rfl rfl rfl (owL_clo _) (clL_sl (rw := ⟨114, 2, l2.length, false, (owL (l2.take k) ++ [.v (.string y0)]) ++ .ow 116 n 4 (owL m) :: owL (l2.drop (k + 1))⟩) rfl rfl rfl ?_ clL_nil))) ⟨?_, rfl⟩
    · first | rfl | (simp [cloV, cloL, clo, acE_clo, acL_clo, owE_clo, owL_clo, cloL_app]; done)
    · rw [hn, hmf]
  · rw [h0]
    obtain ⟨x, hxm, hxn⟩ := idxF_some h0
    have hdl := deleteE_c (z := IntKind.i64.wrap ((i : Int) + 1)) (wrap_nat (by omega) (by omega)) hn hmk hit
    have hml' : (m.eraseIdx i).length = n - 1 := by rw [List.length_eraseIdx_of_lt hit, hn]
    have hmem : ∀ e ∈ m.eraseIdx i, e ∈ m := fun e he => List.mem_of_mem_eraseIdx he
    have ck := keyAt_c (fun e he => hm e (hmem e he)) (fun e he => hmk e (hmem e he)) s (by omega)
    rw [hml'] at ck
    repeat (first | refine awp_seq ?_ | refine awp_block ?_ | refine awp_skip ?_ | refine awp_exit ?_ | refine awp_region0 fun C => ?_ | refine awp_region1 (by kernel_rfl) (by kernel_rfl) fun C => ?_ | refine walk_end ?_ | refine x_nop ?_ | refine x_bs ?_ | refine x_gr ?_ | refine x_st ?_ | refine x_mv ?_ | refine x_sk ?_ | refine x_sk0 ?_ | refine x_ix ?_ | refine x_ixs ?_ | refine x_sto ?_ | refine x_app ?_ | refine x_app0 ?_ | refine x_ld ?_)
    refine awp_cond (by rfl) (fun h2 => ?_) fun h2 => ?_
    rotate_left
    · exact absurd (of_decide_eq_false h2) (by omega)
    repeat (first | refine awp_seq ?_ | refine awp_block ?_ | refine awp_skip ?_ | refine awp_exit ?_ | refine awp_region0 fun C => ?_ | refine awp_region1 (by kernel_rfl) (by kernel_rfl) fun C => ?_ | refine walk_end ?_ | refine x_nop ?_ | refine x_bs ?_ | refine x_gr ?_ | refine x_st ?_ | refine x_mv ?_ | refine x_sk ?_ | refine x_sk0 ?_ | refine x_ix ?_ | refine x_ixs ?_ | refine x_sto ?_ | refine x_app ?_ | refine x_app0 ?_ | refine x_ld ?_)
    refine x_callt 500 0 hdl ?_
    repeat (first | refine walk_end ?_ | refine x_nop ?_ | refine x_bs ?_ | refine x_gr ?_ | refine x_st ?_ | refine x_mv ?_ | refine x_sk ?_ | refine x_sk0 ?_ | refine x_ix ?_ | refine x_ixs ?_ | refine x_sto ?_ | refine x_app ?_ | refine x_app0 ?_ | refine x_ld ?_)
    repeat (first | refine awp_seq ?_ | refine awp_block ?_ | refine awp_skip ?_ | refine awp_exit ?_)
    refine awp_gh (g_abs (i := 101) (j := 500) rfl rfl rfl (pre := (owL (l2.take k) ++ [.v (.string y0)])) (post := owL (l2.drop (k + 1))) (spl_snd hP)) ?_
    refine awp_gh (g_rev 503 (i := 101) rfl rfl (pre := (owL (l2.take k) ++ [.v (.string y0)])) (post := owL (l2.drop (k + 1))) rfl) ?_
    repeat (first | refine awp_seq ?_ | refine awp_block ?_ | refine awp_skip ?_ | refine awp_exit ?_ | refine awp_region0 fun C => ?_ | refine awp_region1 (by kernel_rfl) (by kernel_rfl) fun C => ?_ | refine walk_end ?_ | refine x_nop ?_ | refine x_bs ?_ | refine x_gr ?_ | refine x_st ?_ | refine x_mv ?_ | refine x_sk ?_ | refine x_sk0 ?_ | refine x_ix ?_ | refine x_ixs ?_ | refine x_sto ?_ | refine x_app ?_ | refine x_app0 ?_ | refine x_ld ?_)
    refine x_call 600 ck ?_
    repeat (first | refine awp_seq ?_ | refine awp_block ?_ | refine awp_skip ?_ | refine awp_exit ?_ | refine awp_region0 fun C => ?_ | refine awp_region1 (by kernel_rfl) (by kernel_rfl) fun C => ?_ | refine walk_end ?_ | refine x_nop ?_ | refine x_bs ?_ | refine x_gr ?_ | refine x_st ?_ | refine x_mv ?_ | refine x_sk ?_ | refine x_sk0 ?_ | refine x_ix ?_ | refine x_ixs ?_ | refine x_sto ?_ | refine x_app ?_ | refine x_app0 ?_ | refine x_ld ?_)
    refine ⟨N - 1, (m.eraseIdx i, n - 1), by omega, ⟨hml'.symm, by simp only; omega, fun e he => hm e (hmem e he), fun e he => hmk e (hmem e he), ?_, by simp only; omega⟩, ?_⟩
    · exact (filt_erase hxm hxn).trans hmf
    · (refine gh_ren (fun j => if j = 102 then 503 else j) _ _ rfl rfl ?_ ?_ <;> (repeat' (first | exact TmOk.nil | exact RwOk.nil | refine TmOk.cons ?_ ?_ | refine RwOk.cons ?_ ?_ | rfl | (refine rnV_id' rfl ?_; (first | rfl | (simp [cloV, cloL, clo, acE_clo, acL_clo, owE_clo, owL_clo, cloL_app]; done))) | (refine rn_int ?_; first | rfl | omega | (rw [wrap_nat (by omega) (by omega)]; omega)) | (refine rw_same rfl ?_; (first | rfl | (simp [cloV, cloL, clo, acE_clo, acL_clo, owE_clo, owL_clo, cloL_app]; done))) | exact rw_rn rfl rfl | (refine rw_mid (by rfl) (by rfl) ?_ ?_ <;> (first | rfl | (simp [cloV, cloL, clo, acE_clo, acL_clo, owE_clo, owL_clo, cloL_app]; done))) | (refine rw_rn' rfl rfl ?_; simp; done))))
end Go.Proofs.Ytfnnbjkjfoiboaa
