/- impl.PutEntry: by the abstract machine. -/
import Derived.Test.YtfnnbjkjfoiboaaT11
namespace Go.Proofs.Ytfnnbjkjfoiboaa
open Go.RowKit
set_option maxRecDepth 100000
set_option maxHeartbeats 600000 in
theorem iput0_c {x0A x1A : Option Addr} {x0c x1c : Nat} {l l2 : List E} {v0 v1 : Int} {v2 nm s : ByteArray} (hlen : l.length ≤ 1048576) (hlen2 : l2.length ≤ 1048576) (cc : Ctr Try.prog 81 [.ag (acE (E.agg [.lst 4 50 x0A x0c l, .lst 2 114 x1A x1c l2]))] [] (.ag (owE (E.agg [.lst 4 50 x0A x0c l, .lst 2 114 x1A x1c l2]))) []) (ca : Ctr Try.prog 102 [.ag (acE (E.agg [.lst 4 50 x0A x0c l, .lst 2 114 x1A x1c l2])), .c (.v (.string nm))] [] (.c (.v (.int .i64 (-1)))) []) : Ctr Try.prog 47 [.ag (acE (E.agg [.lst 4 50 x0A x0c l, .lst 2 114 x1A x1c l2])), .c (.v (.string nm)), .c (.v (.string s)), .ag (acE (.agg [.int .i64 v0, .int .i64 v1, .str v2]))] [] (.tu [.ag [.ow 50 l.length 4 (owL l), .ow 114 l2.length 2 (owL l2)], .c (.v (.bool false))]) [] := by
  refine ctr_of Try.func47 rfl rfl ?_
  repeat (first | refine awp_seq ?_ | refine awp_block ?_ | refine awp_skip ?_ | refine awp_exit ?_ | refine awp_region0 fun C => ?_ | refine awp_region1 (by kernel_rfl) (by kernel_rfl) fun C => ?_ | refine walk_end ?_ | refine x_nop ?_ | refine x_bs ?_ | refine x_gr ?_ | refine x_st ?_ | refine x_mv ?_ | refine x_sk ?_ | refine x_sk0 ?_ | refine x_ix ?_ | refine x_ixs ?_ | refine x_sto ?_ | refine x_app ?_ | refine x_app0 ?_ | refine x_ld ?_)
  refine x_call 100 cc ?_
  repeat (first | refine awp_seq ?_ | refine awp_block ?_ | refine awp_skip ?_ | refine awp_exit ?_ | refine awp_region0 fun C => ?_ | refine awp_region1 (by kernel_rfl) (by kernel_rfl) fun C => ?_ | refine walk_end ?_ | refine x_nop ?_ | refine x_bs ?_ | refine x_gr ?_ | refine x_st ?_ | refine x_mv ?_ | refine x_sk ?_ | refine x_sk0 ?_ | refine x_ix ?_ | refine x_ixs ?_ | refine x_sto ?_ | refine x_app ?_ | refine x_app0 ?_ | refine x_ld ?_)
  refine x_call 110 ca ?_
  repeat (first | refine awp_seq ?_ | refine awp_block ?_ | refine awp_skip ?_ | refine awp_exit ?_ | refine awp_region0 fun C => ?_ | refine awp_region1 (by kernel_rfl) (by kernel_rfl) fun C => ?_ | refine walk_end ?_ | refine x_nop ?_ | refine x_bs ?_ | refine x_gr ?_ | refine x_st ?_ | refine x_mv ?_ | refine x_sk ?_ | refine x_sk0 ?_ | refine x_ix ?_ | refine x_ixs ?_ | refine x_sto ?_ | refine x_app ?_ | refine x_app0 ?_ | refine x_ld ?_)
  refine awp_cond (by rfl) (fun h1 => ?_) fun h1 => ?_
  rotate_left
  · simp at h1
  repeat (first | refine awp_seq ?_ | refine awp_block ?_ | refine awp_skip ?_ | refine awp_exit ?_ | refine awp_region0 fun C => ?_ | refine awp_region1 (by kernel_rfl) (by kernel_rfl) fun C => ?_ | refine walk_end ?_ | refine x_nop ?_ | refine x_bs ?_ | refine x_gr ?_ | refine x_st ?_ | refine x_mv ?_ | refine x_sk ?_ | refine x_sk0 ?_ | refine x_ix ?_ | refine x_ixs ?_ | refine x_sto ?_ | refine x_app ?_ | refine x_app0 ?_ | refine x_ld ?_)
  refine awp_ret ?_
  refine ret0 (x := .tu [.ag [.ow 50 l.length 4 (owL l), .ow 114 l2.length 2 (owL l2)], .c (.v (.bool false))]) rfl (clV_tu (clVL_cons (clV_ag (clL_sl (rw := ⟨50, 4, l.length, false, owL l⟩) rfl rfl rfl (owL_clo _) (clL_sl (rw := ⟨114, 2, l2.length, false, owL l2⟩) rfl rfl rfl ?_ clL_nil))) (clVL_cons clV_v clVL_nil))) ⟨rfl, rfl⟩
  exact owL_clo _
set_option maxHeartbeats 600000 in
theorem iputF_c {x0A x1A y1A : Option Addr} {x0c x1c y1c : Nat} {l l2 y1 : List E} {v0 v1 : Int} {v2 y0 nm s : ByteArray} {k : Nat} (hk2 : ∀ e ∈ l2, e.enc.length = 2) (hlen : l.length ≤ 1048576) (hlen2 : l2.length ≤ 1048576) (hy1l : y1.length ≤ 1048576) (hlt : k < l2.length) (hx : l2[k]? = some (.agg [.str y0, .lst 4 116 y1A y1c y1])) (cc : Ctr Try.prog 81 [.ag (acE (E.agg [.lst 4 50 x0A x0c l, .lst 2 114 x1A x1c l2]))] [] (.ag (owE (E.agg [.lst 4 50 x0A x0c l, .lst 2 114 x1A x1c l2]))) []) (ca : Ctr Try.prog 102 [.ag (acE (E.agg [.lst 4 50 x0A x0c l, .lst 2 114 x1A x1c l2])), .c (.v (.string nm))] [] (.c (.v (.int .i64 (k)))) []) (h20 : 20 ≤ y1.length) (cky : Ctr Try.prog 103 [.c (.ro y1.length 4 (acL y1)), .c (.v (.string s))] [] (.c (.v (.int .i64 (-1)))) []) : Ctr Try.prog 47 [.ag (acE (E.agg [.lst 4 50 x0A x0c l, .lst 2 114 x1A x1c l2])), .c (.v (.string nm)), .c (.v (.string s)), .ag (acE (.agg [.int .i64 v0, .int .i64 v1, .str v2]))] [] (.tu [.ag [.ow 50 l.length 4 (owL l), .ow 114 l2.length 2 ((owL (l2.take k) ++ [.v (.string y0)]) ++ .ow 116 y1.length 4 (owL y1) :: owL (l2.drop (k + 1)))], .c (.v (.bool false))]) [] := by
  have hP := owL_take_len (k := k) hk2 (Nat.le_of_lt hlt)
  have hs2 : subL ((owL (l2.take k) ++ [.v (.string y0)]) ++ .sl 102 y1.length :: owL (l2.drop (k + 1))) (k * 2 + 1) 1 = [.sl 102 y1.length] := subL_snd hP
  have hle : k * 2 + 1 + 1 ≤ ((owL (l2.take k) ++ [AC.v (.string y0)]) ++ AC.sl 102 y1.length :: owL (l2.drop (k + 1))).length := by simp [hP]; omega
  refine ctr_of Try.func47 rfl rfl ?_
  repeat (first | refine awp_seq ?_ | refine awp_block ?_ | refine awp_skip ?_ | refine awp_exit ?_ | refine awp_region0 fun C => ?_ | refine awp_region1 (by kernel_rfl) (by kernel_rfl) fun C => ?_ | refine walk_end ?_ | refine x_nop ?_ | refine x_bs ?_ | refine x_gr ?_ | refine x_st ?_ | refine x_mv ?_ | refine x_sk ?_ | refine x_sk0 ?_ | refine x_ix ?_ | refine x_ixs ?_ | refine x_sto ?_ | refine x_app ?_ | refine x_app0 ?_ | refine x_ld ?_)
  refine x_call 100 cc ?_
  repeat (first | refine awp_seq ?_ | refine awp_block ?_ | refine awp_skip ?_ | refine awp_exit ?_ | refine awp_region0 fun C => ?_ | refine awp_region1 (by kernel_rfl) (by kernel_rfl) fun C => ?_ | refine walk_end ?_ | refine x_nop ?_ | refine x_bs ?_ | refine x_gr ?_ | refine x_st ?_ | refine x_mv ?_ | refine x_sk ?_ | refine x_sk0 ?_ | refine x_ix ?_ | refine x_ixs ?_ | refine x_sto ?_ | refine x_app ?_ | refine x_app0 ?_ | refine x_ld ?_)
  refine x_call 110 ca ?_
  repeat (first | refine awp_seq ?_ | refine awp_block ?_ | refine awp_skip ?_ | refine awp_exit ?_ | refine awp_region0 fun C => ?_ | refine awp_region1 (by kernel_rfl) (by kernel_rfl) fun C => ?_ | refine walk_end ?_ | refine x_nop ?_ | refine x_bs ?_ | refine x_gr ?_ | refine x_st ?_ | refine x_mv ?_ | refine x_sk ?_ | refine x_sk0 ?_ | refine x_ix ?_ | refine x_ixs ?_ | refine x_sto ?_ | refine x_app ?_ | refine x_app0 ?_ | refine x_ld ?_)
  refine awp_cond (by rfl) (fun h1 => ?_) fun h1 => ?_
  · exact absurd (of_decide_eq_true h1) (by omega)
  refine awp_gh (g_rev 102 (i := 101) rfl rfl (pre := (owL (l2.take k) ++ [.v (.string y0)])) (post := owL (l2.drop (k + 1))) (tab_at hx)) ?_
  repeat (first | refine awp_seq ?_ | refine awp_block ?_ | refine awp_skip ?_ | refine awp_exit ?_ | refine awp_region0 fun C => ?_ | refine awp_region1 (by kernel_rfl) (by kernel_rfl) fun C => ?_ | refine walk_end ?_ | refine x_nop ?_ | refine x_bs ?_ | refine x_gr ?_ | refine x_st ?_ | refine x_mv ?_ | refine x_sk ?_ | refine x_sk0 ?_ | refine x_ix ?_ | refine x_ixs ?_ | refine x_sto ?_ | refine x_app ?_ | refine x_app0 ?_ | refine x_ld ?_)
  refine x_call 120 cky ?_
  repeat (first | refine awp_seq ?_ | refine awp_block ?_ | refine awp_skip ?_ | refine awp_exit ?_ | refine awp_region0 fun C => ?_ | refine awp_region1 (by kernel_rfl) (by kernel_rfl) fun C => ?_ | refine walk_end ?_ | refine x_nop ?_ | refine x_bs ?_ | refine x_gr ?_ | refine x_st ?_ | refine x_mv ?_ | refine x_sk ?_ | refine x_sk0 ?_ | refine x_ix ?_ | refine x_ixs ?_ | refine x_sto ?_ | refine x_app ?_ | refine x_app0 ?_ | refine x_ld ?_)
  refine awp_cond (by rfl) (fun h2 => ?_) fun h2 => ?_
  · simp at h2
  repeat (first | refine awp_seq ?_ | refine awp_block ?_ | refine awp_skip ?_ | refine awp_exit ?_ | refine awp_region0 fun C => ?_ | refine awp_region1 (by kernel_rfl) (by kernel_rfl) fun C => ?_ | refine walk_end ?_ | refine x_nop ?_ | refine x_bs ?_ | refine x_gr ?_ | refine x_st ?_ | refine x_mv ?_ | refine x_sk ?_ | refine x_sk0 ?_ | refine x_ix ?_ | refine x_ixs ?_ | refine x_sto ?_ | refine x_app ?_ | refine x_app0 ?_ | refine x_ld ?_)
  refine awp_cond (by rfl) (fun h3 => ?_) fun h3 => ?_
  rotate_left
  · exact absurd (of_decide_eq_false h3) (by omega)
  repeat (first | refine awp_seq ?_ | refine awp_block ?_ | refine awp_skip ?_ | refine awp_exit ?_ | refine awp_region0 fun C => ?_ | refine awp_region1 (by kernel_rfl) (by kernel_rfl) fun C => ?_ | refine walk_end ?_ | refine x_nop ?_ | refine x_bs ?_ | refine x_gr ?_ | refine x_st ?_ | refine x_mv ?_ | refine x_sk ?_ | refine x_sk0 ?_ | refine x_ix ?_ | refine x_ixs ?_ | refine x_sto ?_ | refine x_app ?_ | refine x_app0 ?_ | refine x_ld ?_)
  refine awp_gh (g_abs (i := 101) (j := 102) rfl rfl rfl (pre := (owL (l2.take k) ++ [.v (.string y0)])) (post := owL (l2.drop (k + 1))) rfl) ?_
  refine awp_ret ?_
  refine ret0 (x := .tu [.ag [.ow 50 l.length 4 (owL l), .ow 114 l2.length 2 ((owL (l2.take k) ++ [.v (.string y0)]) ++ .ow 116 y1.length 4 (owL y1) :: owL (l2.drop (k + 1)))], .c (.v (.bool false))]) rfl (clV_tu (clVL_cons (clV_ag (clL_sl (rw := ⟨50, 4, l.length, false, owL l⟩) rfl rfl rfl (owL_clo _) (clL_sl (rw := ⟨114, 2, l2.length, false, (owL (l2.take k) ++ [.v (.string y0)]) ++ .ow 116 y1.length 4 (owL y1) :: owL (l2.drop (k + 1))⟩) rfl rfl rfl ?_ clL_nil))) (clVL_cons clV_v clVL_nil))) ⟨rfl, rfl⟩
  first | rfl | (simp [cloV, cloL, clo, acE_clo, acL_clo, owE_clo, owL_clo, cloL_app]; done)
set_option maxHeartbeats 600000 in
theorem iputN_c {x0A x1A y1A : Option Addr} {x0c x1c y1c : Nat} {l l2 y1 : List E} {v0 v1 : Int} {v2 y0 nm s : ByteArray} {k : Nat} (hk2 : ∀ e ∈ l2, e.enc.length = 2) (hlen : l.length ≤ 1048576) (hlen2 : l2.length ≤ 1048576) (hy1l : y1.length ≤ 1048576) (hlt : k < l2.length) (hx : l2[k]? = some (.agg [.str y0, .lst 4 116 y1A y1c y1])) (cc : Ctr Try.prog 81 [.ag (acE (E.agg [.lst 4 50 x0A x0c l, .lst 2 114 x1A x1c l2]))] [] (.ag (owE (E.agg [.lst 4 50 x0A x0c l, .lst 2 114 x1A x1c l2]))) []) (ca : Ctr Try.prog 102 [.ag (acE (E.agg [.lst 4 50 x0A x0c l, .lst 2 114 x1A x1c l2])), .c (.v (.string nm))] [] (.c (.v (.int .i64 (k)))) []) (h20 : ¬ 20 ≤ y1.length) (cky : Ctr Try.prog 103 [.c (.ro y1.length 4 (acL y1)), .c (.v (.string s))] [] (.c (.v (.int .i64 (-1)))) []) : Ctr Try.prog 47 [.ag (acE (E.agg [.lst 4 50 x0A x0c l, .lst 2 114 x1A x1c l2])), .c (.v (.string nm)), .c (.v (.string s)), .ag (acE (.agg [.int .i64 v0, .int .i64 v1, .str v2]))] [] (.tu [.ag [.ow 50 l.length 4 (owL l), .ow 114 l2.length 2 ((owL (l2.take k) ++ [.v (.string y0)]) ++ .ow 116 (y1.length + 1) 4 (owL (y1 ++ [.agg [.str s, (.agg [.int .i64 v0, .int .i64 v1, .str v2])]])) :: owL (l2.drop (k + 1)))], .c (.v (.bool true))]) [] := by
  have hP := owL_take_len (k := k) hk2 (Nat.le_of_lt hlt)
  have hs2 : subL ((owL (l2.take k) ++ [.v (.string y0)]) ++ .sl 102 y1.length :: owL (l2.drop (k + 1))) (k * 2 + 1) 1 = [.sl 102 y1.length] := subL_snd hP
  have hle : k * 2 + 1 + 1 ≤ ((owL (l2.take k) ++ [AC.v (.string y0)]) ++ AC.sl 102 y1.length :: owL (l2.drop (k + 1))).length := by simp [hP]; omega
  refine ctr_of Try.func47 rfl rfl ?_
  repeat (first | refine awp_seq ?_ | refine awp_block ?_ | refine awp_skip ?_ | refine awp_exit ?_ | refine awp_region0 fun C => ?_ | refine awp_region1 (by kernel_rfl) (by kernel_rfl) fun C => ?_ | refine walk_end ?_ | refine x_nop ?_ | refine x_bs ?_ | refine x_gr ?_ | refine x_st ?_ | refine x_mv ?_ | refine x_sk ?_ | refine x_sk0 ?_ | refine x_ix ?_ | refine x_ixs ?_ | refine x_sto ?_ | refine x_app ?_ | refine x_app0 ?_ | refine x_ld ?_)
  refine x_call 100 cc ?_
  repeat (first | refine awp_seq ?_ | refine awp_block ?_ | refine awp_skip ?_ | refine awp_exit ?_ | refine awp_region0 fun C => ?_ | refine awp_region1 (by kernel_rfl) (by kernel_rfl) fun C => ?_ | refine walk_end ?_ | refine x_nop ?_ | refine x_bs ?_ | refine x_gr ?_ | refine x_st ?_ | refine x_mv ?_ | refine x_sk ?_ | refine x_sk0 ?_ | refine x_ix ?_ | refine x_ixs ?_ | refine x_sto ?_ | refine x_app ?_ | refine x_app0 ?_ | refine x_ld ?_)
  refine x_call 110 ca ?_
  repeat (first | refine awp_seq ?_ | refine awp_block ?_ | refine awp_skip ?_ | refine awp_exit ?_ | refine awp_region0 fun C => ?_ | refine awp_region1 (by kernel_rfl) (by kernel_rfl) fun C => ?_ | refine walk_end ?_ | refine x_nop ?_ | refine x_bs ?_ | refine x_gr ?_ | refine x_st ?_ | refine x_mv ?_ | refine x_sk ?_ | refine x_sk0 ?_ | refine x_ix ?_ | refine x_ixs ?_ | refine x_sto ?_ | refine x_app ?_ | refine x_app0 ?_ | refine x_ld ?_)
  refine awp_cond (by rfl) (fun h1 => ?_) fun h1 => ?_
  · exact absurd (of_decide_eq_true h1) (by omega)
  refine awp_gh (g_rev 102 (i := 101) rfl rfl (pre := (owL (l2.take k) ++ [.v (.string y0)])) (post := owL (l2.drop (k + 1))) (tab_at hx)) ?_
  repeat (first | refine awp_seq ?_ | refine awp_block ?_ | refine awp_skip ?_ | refine awp_exit ?_ | refine awp_region0 fun C => ?_ | refine awp_region1 (by kernel_rfl) (by kernel_rfl) fun C => ?_ | refine walk_end ?_ | refine x_nop ?_ | refine x_bs ?_ | refine x_gr ?_ | refine x_st ?_ | refine x_mv ?_ | refine x_sk ?_ | refine x_sk0 ?_ | refine x_ix ?_ | refine x_ixs ?_ | refine x_sto ?_ | refine x_app ?_ | refine x_app0 ?_ | refine x_ld ?_)
  refine x_call 120 cky ?_
  repeat (first | refine awp_seq ?_ | refine awp_block ?_ | refine awp_skip ?_ | refine awp_exit ?_ | refine awp_region0 fun C => ?_ | refine awp_region1 (by kernel_rfl) (by kernel_rfl) fun C => ?_ | refine walk_end ?_ | refine x_nop ?_ | refine x_bs ?_ | refine x_gr ?_ | refine x_st ?_ | refine x_mv ?_ | refine x_sk ?_ | refine x_sk0 ?_ | refine x_ix ?_ | refine x_ixs ?_ | refine x_sto ?_ | refine x_app ?_ | refine x_app0 ?_ | refine x_ld ?_)
  refine awp_cond (by rfl) (fun h2 => ?_) fun h2 => ?_
  · simp at h2
  repeat (first | refine awp_seq ?_ | refine awp_block ?_ | refine awp_skip ?_ | refine awp_exit ?_ | refine awp_region0 fun C => ?_ | refine awp_region1 (by kernel_rfl) (by kernel_rfl) fun C => ?_ | refine walk_end ?_ | refine x_nop ?_ | refine x_bs ?_ | refine x_gr ?_ | refine x_st ?_ | refine x_mv ?_ | refine x_sk ?_ | refine x_sk0 ?_ | refine x_ix ?_ | refine x_ixs ?_ | refine x_sto ?_ | refine x_app ?_ | refine x_app0 ?_ | refine x_ld ?_)
  refine awp_cond (by rfl) (fun h3 => ?_) fun h3 => ?_
  · exact absurd (of_decide_eq_true h3) (by omega)
  repeat (first | refine awp_seq ?_ | refine awp_block ?_ | refine awp_skip ?_ | refine awp_exit ?_ | refine awp_region0 fun C => ?_ | refine awp_region1 (by kernel_rfl) (by kernel_rfl) fun C => ?_ | refine walk_end ?_ | refine x_nop ?_ | refine x_bs ?_ | refine x_gr ?_ | refine x_st ?_ | refine x_mv ?_ | refine x_sk ?_ | refine x_sk0 ?_ | refine x_ix ?_ | refine x_ixs ?_ | refine x_sto ?_ | refine x_app ?_ | refine x_app0 ?_ | refine x_ld ?_)
  refine awp_gh (g_abs (i := 101) (j := 59) rfl rfl rfl (pre := (owL (l2.take k) ++ [.v (.string y0)])) (post := owL (l2.drop (k + 1))) (spl_snd hP)) ?_
  refine awp_ret ?_
  refine ret0 (x := .tu [.ag [.ow 50 l.length 4 (owL l), .ow 114 l2.length 2 ((owL (l2.take k) ++ [.v (.string y0)]) ++ .ow 116 (y1.length + 1) 4 (owL y1 ++ [.v (.string s), .v (.int .i64 v0), .v (.int .i64 v1), .v (.string v2)]) :: owL (l2.drop (k + 1)))], .c (.v (.bool true))]) rfl (clV_tu (clVL_cons (clV_ag (clL_sl (rw := ⟨50, 4, l.length, false, owL l⟩) rfl rfl rfl (owL_clo _) (clL_sl (rw := ⟨114, 2, l2.length, false, (owL (l2.take k) ++ [.v (.string y0)]) ++ .ow 116 (y1.length + 1) 4 (owL y1 ++ [.v (.string s), .v (.int .i64 v0), .v (.int .i64 v1), .v (.string v2)]) :: owL (l2.drop (k + 1))⟩) rfl rfl rfl ?_ clL_nil))) (clVL_cons clV_v clVL_nil))) ⟨by rw [owL_app]; rfl, rfl⟩
  first | rfl | (simp [cloV, cloL, clo, acE_clo, acL_clo, owE_clo, owL_clo, cloL_app]; done)
set_option maxHeartbeats 600000 in
theorem iputO_c {x0A x1A y1A : Option Addr} {x0c x1c y1c : Nat} {l l2 y1 : List E} {v0 v1 : Int} {v2 y0 nm s : ByteArray} {k : Nat} (hk2 : ∀ e ∈ l2, e.enc.length = 2) (hlen : l.length ≤ 1048576) (hlen2 : l2.length ≤ 1048576) (hy1l : y1.length ≤ 1048576) (hlt : k < l2.length) (hx : l2[k]? = some (.agg [.str y0, .lst 4 116 y1A y1c y1])) {i : Nat} {q w2 : ByteArray} {w0 w1 : Int} (hk1 : ∀ e ∈ y1, e.enc.length = 4) (hit : i < y1.length) (hz : y1[i]? = some (.agg [.str q, .agg [.int .i64 w0, .int .i64 w1, .str w2]])) (cc : Ctr Try.prog 81 [.ag (acE (E.agg [.lst 4 50 x0A x0c l, .lst 2 114 x1A x1c l2]))] [] (.ag (owE (E.agg [.lst 4 50 x0A x0c l, .lst 2 114 x1A x1c l2]))) []) (ca : Ctr Try.prog 102 [.ag (acE (E.agg [.lst 4 50 x0A x0c l, .lst 2 114 x1A x1c l2])), .c (.v (.string nm))] [] (.c (.v (.int .i64 (k)))) []) (cky : Ctr Try.prog 103 [.c (.ro y1.length 4 (acL y1)), .c (.v (.string s))] [] (.c (.v (.int .i64 (i)))) []) : Ctr Try.prog 47 [.ag (acE (E.agg [.lst 4 50 x0A x0c l, .lst 2 114 x1A x1c l2])), .c (.v (.string nm)), .c (.v (.string s)), .ag (acE (.agg [.int .i64 v0, .int .i64 v1, .str v2]))] [] (.tu [.ag [.ow 50 l.length 4 (owL l), .ow 114 l2.length 2 ((owL (l2.take k) ++ [.v (.string y0)]) ++ .ow 116 y1.length 4 (owL (y1.set i (.agg [.str q, (.agg [.int .i64 v0, .int .i64 v1, .str v2])]))) :: owL (l2.drop (k + 1)))], .c (.v (.bool true))]) [] := by
  have hle2 : i * 4 + 1 + 3 ≤ (owL y1).length := owL_fit hk1 hit (by omega)
  have hP := owL_take_len (k := k) hk2 (Nat.le_of_lt hlt)
  have hs2 : subL ((owL (l2.take k) ++ [.v (.string y0)]) ++ .sl 102 y1.length :: owL (l2.drop (k + 1))) (k * 2 + 1) 1 = [.sl 102 y1.length] := subL_snd hP
  have hle : k * 2 + 1 + 1 ≤ ((owL (l2.take k) ++ [AC.v (.string y0)]) ++ AC.sl 102 y1.length :: owL (l2.drop (k + 1))).length := by simp [hP]; omega
  refine ctr_of Try.func47 rfl rfl ?_
  repeat (first | refine awp_seq ?_ | refine awp_block ?_ | refine awp_skip ?_ | refine awp_exit ?_ | refine awp_region0 fun C => ?_ | refine awp_region1 (by kernel_rfl) (by kernel_rfl) fun C => ?_ | refine walk_end ?_ | refine x_nop ?_ | refine x_bs ?_ | refine x_gr ?_ | refine x_st ?_ | refine x_mv ?_ | refine x_sk ?_ | refine x_sk0 ?_ | refine x_ix ?_ | refine x_ixs ?_ | refine x_sto ?_ | refine x_app ?_ | refine x_app0 ?_ | refine x_ld ?_)
  refine x_call 100 cc ?_
  repeat (first | refine awp_seq ?_ | refine awp_block ?_ | refine awp_skip ?_ | refine awp_exit ?_ | refine awp_region0 fun C => ?_ | refine awp_region1 (by kernel_rfl) (by kernel_rfl) fun C => ?_ | refine walk_end ?_ | refine x_nop ?_ | refine x_bs ?_ | refine x_gr ?_ | refine x_st ?_ | refine x_mv ?_ | refine x_sk ?_ | refine x_sk0 ?_ | refine x_ix ?_ | refine x_ixs ?_ | refine x_sto ?_ | refine x_app ?_ | refine x_app0 ?_ | refine x_ld ?_)
  refine x_call 110 ca ?_
  repeat (first | refine awp_seq ?_ | refine awp_block ?_ | refine awp_skip ?_ | refine awp_exit ?_ | refine awp_region0 fun C => ?_ | refine awp_region1 (by kernel_rfl) (by kernel_rfl) fun C => ?_ | refine walk_end ?_ | refine x_nop ?_ | refine x_bs ?_ | refine x_gr ?_ | refine x_st ?_ | refine x_mv ?_ | refine x_sk ?_ | refine x_sk0 ?_ | refine x_ix ?_ | refine x_ixs ?_ | refine x_sto ?_ | refine x_app ?_ | refine x_app0 ?_ | refine x_ld ?_)
  refine awp_cond (by rfl) (fun h1 => ?_) fun h1 => ?_
  · exact absurd (of_decide_eq_true h1) (by omega)
  refine awp_gh (g_rev 102 (i := 101) rfl rfl (pre := (owL (l2.take k) ++ [.v (.string y0)])) (post := owL (l2.drop (k + 1))) (tab_at hx)) ?_
  repeat (first | refine awp_seq ?_ | refine awp_block ?_ | refine awp_skip ?_ | refine awp_exit ?_ | refine awp_region0 fun C => ?_ | refine awp_region1 (by kernel_rfl) (by kernel_rfl) fun C => ?_ | refine walk_end ?_ | refine x_nop ?_ | refine x_bs ?_ | refine x_gr ?_ | refine x_st ?_ | refine x_mv ?_ | refine x_sk ?_ | refine x_sk0 ?_ | refine x_ix ?_ | refine x_ixs ?_ | refine x_sto ?_ | refine x_app ?_ | refine x_app0 ?_ | refine x_ld ?_)
  refine x_call 120 cky ?_
  repeat (first | refine awp_seq ?_ | refine awp_block ?_ | refine awp_skip ?_ | refine awp_exit ?_ | refine awp_region0 fun C => ?_ | refine awp_region1 (by kernel_rfl) (by kernel_rfl) fun C => ?_ | refine walk_end ?_ | refine x_nop ?_ | refine x_bs ?_ | refine x_gr ?_ | refine x_st ?_ | refine x_mv ?_ | refine x_sk ?_ | refine x_sk0 ?_ | refine x_ix ?_ | refine x_ixs ?_ | refine x_sto ?_ | refine x_app ?_ | refine x_app0 ?_ | refine x_ld ?_)
  refine awp_cond (by rfl) (fun h2 => ?_) fun h2 => ?_
  rotate_left
  · exact absurd (of_decide_eq_false h2) (by omega)
  repeat (first | refine awp_seq ?_ | refine awp_block ?_ | refine awp_skip ?_ | refine awp_exit ?_ | refine awp_region0 fun C => ?_ | refine awp_region1 (by kernel_rfl) (by kernel_rfl) fun C => ?_ | refine walk_end ?_ | refine x_nop ?_ | refine x_bs ?_ | refine x_gr ?_ | refine x_st ?_ | refine x_mv ?_ | refine x_sk ?_ | refine x_sk0 ?_ | refine x_ix ?_ | refine x_ixs ?_ | refine x_sto ?_ | refine x_app ?_ | refine x_app0 ?_ | refine x_ld ?_)
  refine awp_gh (g_abs (i := 101) (j := 102) rfl rfl rfl (pre := (owL (l2.take k) ++ [.v (.string y0)])) (post := owL (l2.drop (k + 1))) rfl) ?_
  have e1 : spl (owL y1) (i * 4 + 1) [.v (.int .i64 v0), .v (.int .i64 v1), .v (.string v2)] = owL (y1.set i (.agg [.str q, .agg [.int .i64 v0, .int .i64 v1, .str v2]])) := owL_spl hk1 hz (by simp) rfl
  refine awp_ret ?_
  refine ret0 (x := .tu [.ag [.ow 50 l.length 4 (owL l), .ow 114 l2.length 2 ((owL (l2.take k) ++ [.v (.string y0)]) ++ .ow 116 y1.length 4 (spl (owL y1) (i * 4 + 1) [.v (.int .i64 v0), .v (.int .i64 v1), .v (.string v2)]) :: owL (l2.drop (k + 1)))], .c (.v (.bool true))]) rfl (clV_tu (clVL_cons (clV_ag (clL_sl (rw := ⟨50, 4, l.length, false, owL l⟩) rfl rfl rfl (owL_clo _) (clL_sl (rw := ⟨114, 2, l2.length, false, (owL (l2.take k) ++ [.v (.string y0)]) ++ .ow 116 y1.length 4 (spl (owL y1) (i * 4 + 1) [.v (.int .i64 v0), .v (.int .i64 v1), .v (.string v2)]) :: owL (l2.drop (k + 1))⟩) rfl rfl rfl ?_ clL_nil))) (clVL_cons clV_v clVL_nil))) ⟨by rw [e1], rfl⟩
  rw [e1]; first | rfl | (simp [cloV, cloL, clo, acE_clo, acL_clo, owE_clo, owL_clo, cloL_app]; done)
theorem implPutEntry_c {e v : E} (he : e.Ty Try.prog 45) (hv : v.Ty Try.prog 35) (nm s : ByteArray) (hsz : e.sz ≤ 1048576) : Ctr Try.prog 47 [.ag (acE e), .c (.v (.string nm)), .c (.v (.string s)), .ag (acE v)] [] (.tu [.ag (owE (putE e nm s v)), .c (.v (.bool (putOk e nm s)))]) [] := by
  have ca := tableAt_c he nm hsz
  have cc := copyEnv_c he hsz
  obtain ⟨x0A, x0c, l, x1A, x1c, l2, rfl, ⟨hl, hk⟩, ⟨hl2, hk2⟩, -⟩ := shape_impl_Env he
  have hlen : l.length ≤ 1048576 := by simp only [E.sz, E.szL] at hsz; omega
  have hlen2 : l2.length ≤ 1048576 := by simp only [E.sz, E.szL] at hsz; omega
  obtain ⟨v0, v1, v2, rfl, -⟩ := shape_impl_Val hv
  rcases idxF_cases (isNm nm) l2 with h0 | ⟨k, h0, hlt⟩
  · rw [show tabsE _ = l2 from rfl, h0] at ca
    obtain ⟨p1, p2⟩ := putE_none (x0A := x0A) (x1A := x1A) (x0c := x0c) (x1c := x1c) (k := 4) (k' := 2) (T := 50) (T' := 114) (l := l) (s := s) (v := .agg [.int .i64 v0, .int .i64 v1, .str v2]) h0
    rw [p1, p2]
    exact iput0_c hlen hlen2 cc ca
  · rw [show tabsE _ = l2 from rfl, h0] at ca
    obtain ⟨x, hx⟩ : ∃ x, l2[k]? = some x := ⟨_, List.getElem?_eq_getElem hlt⟩
    have hxt := hl2 x (List.mem_of_getElem? hx)
    have hxs : x.sz ≤ 1048576 := by
      have := E.szL_mem (List.mem_of_getElem? hx)
      simp only [E.sz, E.szL] at hsz; omega
    obtain ⟨y0, y1A, y1c, y1, rfl, hy0, ⟨hy1, hy1k⟩, -⟩ := shape_impl_Table hxt
    have hy1l : y1.length ≤ 1048576 := by simp only [E.sz, E.szL] at hxs; omega
    have cky := keyAt_c hy1 hy1k s (by omega)
    obtain ⟨p1, p2⟩ := putE_some (x0A := x0A) (x1A := x1A) (x0c := x0c) (x1c := x1c) (k := 4) (k' := 2) (T := 50) (T' := 114) (l := l) (s := s) (v := .agg [.int .i64 v0, .int .i64 v1, .str v2]) h0 hx
    rw [p1, p2]
    have hr : ∀ m : List E, owE (.agg [.lst 4 50 none 0 l, .lst 2 114 none 0 (l2.set k (.agg [.str y0, .lst 4 116 none 0 m]))]) = [.ow 50 l.length 4 (owL l), .ow 114 l2.length 2 ((owL (l2.take k) ++ [.v (.string y0)]) ++ .ow 116 m.length 4 (owL m) :: owL (l2.drop (k + 1)))] := by
      intro m
      simp only [owE, owL, List.length_set, List.append_nil]
      rw [tab_set hlt]; rfl
    rcases idxF_cases (isNm s) y1 with j0 | ⟨i, j0, hit⟩
    · rw [j0] at cky
      by_cases h20 : 20 ≤ y1.length
      · obtain ⟨q1, q2⟩ := putL_full (v := .agg [.int .i64 v0, .int .i64 v1, .str v2]) j0 h20
        rw [q1, q2, hr]
        exact iputF_c hk2 hlen hlen2 hy1l hlt hx cc ca h20 cky
      · obtain ⟨q1, q2⟩ := putL_new (v := .agg [.int .i64 v0, .int .i64 v1, .str v2]) j0 h20
        rw [q1, q2, hr, List.length_append]
        exact iputN_c hk2 hlen hlen2 hy1l hlt hx cc ca h20 cky
    · rw [j0] at cky
      obtain ⟨z, hz⟩ : ∃ z, y1[i]? = some z := ⟨_, List.getElem?_eq_getElem hit⟩
      obtain ⟨z0, z1, z2, z3, rfl, hz0⟩ := shape_impl_Entry (hy1 z (List.mem_of_getElem? hz))
      obtain ⟨q1, q2⟩ := putL_old (v := .agg [.int .i64 v0, .int .i64 v1, .str v2]) j0 hz
      rw [q1, q2, hr, List.length_set]
      exact iputO_c hk2 hlen hlen2 hy1l hlt hx hy1k hit hz cc ca cky
end Go.Proofs.Ytfnnbjkjfoiboaa
