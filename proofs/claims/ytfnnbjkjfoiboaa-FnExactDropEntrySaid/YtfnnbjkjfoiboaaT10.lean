/- spec.l14Put, spec.PutEntry: by the abstract machine. -/
import Derived.Test.YtfnnbjkjfoiboaaT6
import Derived.Test.YtfnnbjkjfoiboaaT8
import Derived.Test.YtfnnbjkjfoiboaaAY
namespace Go.Proofs.Ytfnnbjkjfoiboaa
open Go.RowKit
set_option maxRecDepth 100000
/-- An entry put into a table's entries. -/
def putL (l : List E) (s : ByteArray) (v : E) : List E := match l.findIdx? (isNm s) with | some i => l.set i (.agg [.str (nmE (l[i]?.getD v)), v]) | none => if 20 ≤ l.length then l else l ++ [.agg [.str s, v]]
def putOkL (l : List E) (s : ByteArray) : Bool := match l.findIdx? (isNm s) with | some _ => true | none => !decide (20 ≤ l.length)
def putE (e : E) (nm s : ByteArray) (v : E) : E := .agg [.lst 4 50 none 0 (varsE e), .lst 2 114 none 0 (match (tabsE e).findIdx? (isNm nm) with
  | some k => (tabsE e).set k (.agg [.str (nmE ((tabsE e)[k]?.getD e)), .lst 4 116 none 0 (putL (tabsE ((tabsE e)[k]?.getD e)) s v)]) | none => tabsE e)]
def putOk (e : E) (nm s : ByteArray) : Bool := match (tabsE e).findIdx? (isNm nm) with | some k => putOkL (tabsE ((tabsE e)[k]?.getD e)) s | none => false
theorem putE_none {x0A x1A : Option Addr} {x0c x1c k k' : Nat} {T T' : TypeId} {l l2 : List E} {nm s : ByteArray} {v : E} (h : idxF (isNm nm) l2 = -1) : putE (.agg [.lst k T x0A x0c l, .lst k' T' x1A x1c l2]) nm s v = .agg [.lst 4 50 none 0 l, .lst 2 114 none 0 l2] ∧ putOk (.agg [.lst k T x0A x0c l, .lst k' T' x1A x1c l2]) nm s = false := by
  simp [putE, putOk, varsE, tabsE, idxF_neg h]
theorem putE_some {x0A x1A zA : Option Addr} {x0c x1c zc k k' kz : Nat} {T T' Tz : TypeId} {l l2 lz : List E} {nm s q : ByteArray} {v : E} {i : Nat} (h : idxF (isNm nm) l2 = (i : Int)) (hx : l2[i]? = some (.agg [.str q, .lst kz Tz zA zc lz])) :
    putE (.agg [.lst k T x0A x0c l, .lst k' T' x1A x1c l2]) nm s v = .agg [.lst 4 50 none 0 l, .lst 2 114 none 0 (l2.set i (.agg [.str q, .lst 4 116 none 0 (putL lz s v)]))] ∧ putOk (.agg [.lst k T x0A x0c l, .lst k' T' x1A x1c l2]) nm s = putOkL lz s := by
  simp [putE, putOk, varsE, tabsE, idxF_pos h, hx, nmE]
theorem tab_at {l2 : List E} {k c kz : Nat} {q : ByteArray} {T : TypeId} {A : Option Addr} {m : List E} (hx : l2[k]? = some (.agg [.str q, .lst kz T A c m])) : owL l2 = (owL (l2.take k) ++ [.v (.string q)]) ++ .ow T m.length kz (owL m) :: owL (l2.drop (k + 1)) := by
  rw [owL_split hx, List.append_assoc]; rfl
theorem tab_set {l2 : List E} {k c kz : Nat} {q : ByteArray} {T : TypeId} {A : Option Addr} {m : List E} (hk : k < l2.length) : owL (l2.set k (.agg [.str q, .lst kz T A c m])) = (owL (l2.take k) ++ [.v (.string q)]) ++ .ow T m.length kz (owL m) :: owL (l2.drop (k + 1)) := by
  rw [owL_set hk, List.append_assoc]; rfl
theorem putL_full {l : List E} {s : ByteArray} {v : E} (h : idxF (isNm s) l = -1) (hl : 20 ≤ l.length) : putL l s v = l ∧ putOkL l s = false := by simp [putL, putOkL, idxF_neg h, hl]
theorem putL_new {l : List E} {s : ByteArray} {v : E} (h : idxF (isNm s) l = -1) (hl : ¬ 20 ≤ l.length) : putL l s v = l ++ [.agg [.str s, v]] ∧ putOkL l s = true := by simp [putL, putOkL, idxF_neg h, hl]
theorem putL_old {l : List E} {s q : ByteArray} {v v0 : E} {i : Nat} (h : idxF (isNm s) l = (i : Int)) (hx : l[i]? = some (.agg [.str q, v0])) : putL l s v = l.set i (.agg [.str q, v]) ∧ putOkL l s = true := by simp [putL, putOkL, idxF_pos h, hx, nmE]
-- CASES
set_option maxHeartbeats 600000 in
theorem putF_c {x0A x1A y1A : Option Addr} {x0c x1c y1c : Nat} {l l2 y1 : List E} {v0 v1 : Int} {v2 y0 nm s : ByteArray} {k : Nat} (hk2 : ∀ e ∈ l2, e.enc.length = 2) (hlen : l.length ≤ 1048576) (hlen2 : l2.length ≤ 1048576) (hy1l : y1.length ≤ 1048576) (hlt : k < l2.length) (hx : l2[k]? = some (.agg [.str y0, .lst 4 116 y1A y1c y1]))
    (ca : Ctr Try.prog 106 [.ag (acE (E.agg [.lst 4 50 x0A x0c l, .lst 2 114 x1A x1c l2])), .c (.v (.string nm))] [] (.c (.v (.int .i64 k))) []) (h20 : 20 ≤ y1.length) (cky : Ctr Try.prog 107 [.ag (acE (.agg [.str y0, .lst 4 116 y1A y1c y1])), .c (.v (.string s))] [] (.c (.v (.int .i64 (-1)))) []) :
    Ctr Try.prog 104 [.c (.pt 0 0), .c (.v (.string nm)), .c (.v (.string s)), .ag (acE (.agg [.int .i64 v0, .int .i64 v1, .str v2]))] [owE (E.agg [.lst 4 50 x0A x0c l, .lst 2 114 x1A x1c l2])] (.c (.v (.bool false))) [[.ow 50 l.length 4 (owL l), .ow 114 l2.length 2 ((owL (l2.take k) ++ [.v (.string y0)]) ++ .ow 116 y1.length 4 (owL y1) :: owL (l2.drop (k + 1)))]] := by
  have hP := owL_take_len (k := k) hk2 (Nat.le_of_lt hlt)
  have hs1 : subL ((owL (l2.take k) ++ [.v (.string y0)]) ++ .sl 102 y1.length :: owL (l2.drop (k + 1))) (k * 2) 2 = [.v (.string y0), .sl 102 y1.length] := subL_two hP
  have hs2 : subL ((owL (l2.take k) ++ [.v (.string y0)]) ++ .sl 102 y1.length :: owL (l2.drop (k + 1))) (k * 2 + 1) 1 = [.sl 102 y1.length] := subL_snd hP
  have hle : k * 2 + 1 + 1 ≤ ((owL (l2.take k) ++ [AC.v (.string y0)]) ++ AC.sl 102 y1.length :: owL (l2.drop (k + 1))).length := by simp [hP]; omega
  refine ctr_of Try.func104 rfl rfl ?_
  refine awp_gh (g_rev 100 (i := 0) rfl rfl (pre := []) (post := [_]) rfl) ?_
  refine awp_gh (g_rev 101 (i := 0) rfl rfl (pre := [_]) (post := []) rfl) ?_
  repeat (first | refine awp_seq ?_ | refine awp_block ?_ | refine awp_skip ?_ | refine awp_exit ?_ | refine awp_region0 fun C => ?_ | refine awp_region1 (by kernel_rfl) (by kernel_rfl) fun C => ?_ | refine walk_end ?_ | refine x_nop ?_ | refine x_bs ?_ | refine x_gr ?_ | refine x_st ?_ | refine x_mv ?_ | refine x_sk ?_ | refine x_sk0 ?_ | refine x_ix ?_ | refine x_ixs ?_ | refine x_sto ?_ | refine x_app ?_ | refine x_app0 ?_ | refine x_ld ?_)
  refine x_call 110 ca ?_
  repeat (first | refine awp_seq ?_ | refine awp_block ?_ | refine awp_skip ?_ | refine awp_exit ?_ | refine awp_region0 fun C => ?_ | refine awp_region1 (by kernel_rfl) (by kernel_rfl) fun C => ?_ | refine walk_end ?_ | refine x_nop ?_ | refine x_bs ?_ | refine x_gr ?_ | refine x_st ?_ | refine x_mv ?_ | refine x_sk ?_ | refine x_sk0 ?_ | refine x_ix ?_ | refine x_ixs ?_ | refine x_sto ?_ | refine x_app ?_ | refine x_app0 ?_ | refine x_ld ?_)
  refine awp_cond (by rfl) (fun h1 => ?_) fun h1 => ?_
  · exact absurd (of_decide_eq_true h1) (by omega)
  refine awp_gh (g_rev 102 (i := 101) rfl rfl (pre := (owL (l2.take k) ++ [.v (.string y0)])) (post := owL (l2.drop (k + 1))) (tab_at hx)) ?_
  repeat (first | refine awp_seq ?_ | refine awp_block ?_ | refine awp_skip ?_ | refine awp_exit ?_ | refine awp_region0 fun C => ?_ | refine awp_region1 (by kernel_rfl) (by kernel_rfl) fun C => ?_ | refine walk_end ?_ | refine x_nop ?_ | refine x_bs ?_ | refine x_gr ?_ | refine x_st ?_ | refine x_mv ?_ | refine x_sk ?_ | refine x_sk0 ?_ | refine x_ix ?_ | refine x_ixs ?_ | refine x_sto ?_ | refine x_app ?_ | refine x_app0 ?_ | refine x_ld ?_)
  refine x_call 120 cky ?_
  repeat (first | refine awp_seq ?_ | refine awp_block ?_ | refine awp_skip ?_ | refine awp_exit ?_ | refine awp_region0 fun C => ?_ | refine awp_region1 (by kernel_rfl) (by kernel_rfl) fun C => ?_ | refine walk_end ?_ | refine x_nop ?_ | refine x_bs ?_ | refine x_gr ?_ | refine x_st ?_ | refine x_mv ?_ | refine x_sk ?_ | refine x_sk0 ?_ | refine x_ix ?_ | refine x_ixs ?_ | refine x_sto ?_ | refine x_app ?_ | refine x_app0 ?_ | refine x_ld ?_)
  refine awp_cond (by rfl) (fun h2 => ?_) fun h2 => ?_
  rotate_left
  · exact absurd (of_decide_eq_false h2) (by omega)
  repeat (first | refine awp_seq ?_ | refine awp_block ?_ | refine awp_skip ?_ | refine awp_exit ?_ | refine awp_region0 fun C => ?_ | refine awp_region1 (by kernel_rfl) (by kernel_rfl) fun C => ?_ | refine walk_end ?_ | refine x_nop ?_ | refine x_bs ?_ | refine x_gr ?_ | refine x_st ?_ | refine x_mv ?_ | refine x_sk ?_ | refine x_sk0 ?_ | refine x_ix ?_ | refine x_ixs ?_ | refine x_sto ?_ | refine x_app ?_ | refine x_app0 ?_ | refine x_ld ?_)
  refine awp_gh (g_abs (i := 101) (j := 102) rfl rfl rfl (pre := (owL (l2.take k) ++ [.v (.string y0)])) (post := owL (l2.drop (k + 1))) rfl) ?_
  refine awp_gh (g_abs (i := 0) (j := 100) rfl rfl rfl (pre := []) (post := [_]) rfl) ?_
  refine awp_gh (g_abs (i := 0) (j := 101) rfl rfl rfl (pre := [_]) (post := []) rfl) ?_
  refine awp_ret ?_
  refine retL (x := .c (.v (.bool false))) rfl clV_v rfl ?_ rfl ⟨rfl, rfl⟩
  first | rfl | (simp [cloV, cloL, clo, acE_clo, acL_clo, owE_clo, owL_clo, cloL_app]; done)
set_option maxHeartbeats 600000 in
theorem putN_c {x0A x1A y1A : Option Addr} {x0c x1c y1c : Nat} {l l2 y1 : List E} {v0 v1 : Int} {v2 y0 nm s : ByteArray} {k : Nat} (hk2 : ∀ e ∈ l2, e.enc.length = 2) (hlen : l.length ≤ 1048576) (hlen2 : l2.length ≤ 1048576) (hy1l : y1.length ≤ 1048576) (hlt : k < l2.length) (hx : l2[k]? = some (.agg [.str y0, .lst 4 116 y1A y1c y1]))
    (ca : Ctr Try.prog 106 [.ag (acE (E.agg [.lst 4 50 x0A x0c l, .lst 2 114 x1A x1c l2])), .c (.v (.string nm))] [] (.c (.v (.int .i64 k))) []) (h20 : ¬ 20 ≤ y1.length) (cky : Ctr Try.prog 107 [.ag (acE (.agg [.str y0, .lst 4 116 y1A y1c y1])), .c (.v (.string s))] [] (.c (.v (.int .i64 (-1)))) []) :
    Ctr Try.prog 104 [.c (.pt 0 0), .c (.v (.string nm)), .c (.v (.string s)), .ag (acE (.agg [.int .i64 v0, .int .i64 v1, .str v2]))] [owE (E.agg [.lst 4 50 x0A x0c l, .lst 2 114 x1A x1c l2])] (.c (.v (.bool true))) [[.ow 50 l.length 4 (owL l), .ow 114 l2.length 2 ((owL (l2.take k) ++ [.v (.string y0)]) ++ .ow 116 (y1.length + 1) 4 (owL (y1 ++ [.agg [.str s, (.agg [.int .i64 v0, .int .i64 v1, .str v2])]])) :: owL (l2.drop (k + 1)))]] := by
  have hP := owL_take_len (k := k) hk2 (Nat.le_of_lt hlt)
  have hs1 : subL ((owL (l2.take k) ++ [.v (.string y0)]) ++ .sl 102 y1.length :: owL (l2.drop (k + 1))) (k * 2) 2 = [.v (.string y0), .sl 102 y1.length] := subL_two hP
  have hs2 : subL ((owL (l2.take k) ++ [.v (.string y0)]) ++ .sl 102 y1.length :: owL (l2.drop (k + 1))) (k * 2 + 1) 1 = [.sl 102 y1.length] := subL_snd hP
  have hle : k * 2 + 1 + 1 ≤ ((owL (l2.take k) ++ [AC.v (.string y0)]) ++ AC.sl 102 y1.length :: owL (l2.drop (k + 1))).length := by simp [hP]; omega
  refine ctr_of Try.func104 rfl rfl ?_
  refine awp_gh (g_rev 100 (i := 0) rfl rfl (pre := []) (post := [_]) rfl) ?_
  refine awp_gh (g_rev 101 (i := 0) rfl rfl (pre := [_]) (post := []) rfl) ?_
  repeat (first | refine awp_seq ?_ | refine awp_block ?_ | refine awp_skip ?_ | refine awp_exit ?_ | refine awp_region0 fun C => ?_ | refine awp_region1 (by kernel_rfl) (by kernel_rfl) fun C => ?_ | refine walk_end ?_ | refine x_nop ?_ | refine x_bs ?_ | refine x_gr ?_ | refine x_st ?_ | refine x_mv ?_ | refine x_sk ?_ | refine x_sk0 ?_ | refine x_ix ?_ | refine x_ixs ?_ | refine x_sto ?_ | refine x_app ?_ | refine x_app0 ?_ | refine x_ld ?_)
  refine x_call 110 ca ?_
  repeat (first | refine awp_seq ?_ | refine awp_block ?_ | refine awp_skip ?_ | refine awp_exit ?_ | refine awp_region0 fun C => ?_ | refine awp_region1 (by kernel_rfl) (by kernel_rfl) fun C => ?_ | refine walk_end ?_ | refine x_nop ?_ | refine x_bs ?_ | refine x_gr ?_ | refine x_st ?_ | refine x_mv ?_ | refine x_sk ?_ | refine x_sk0 ?_ | refine x_ix ?_ | refine x_ixs ?_ | refine x_sto ?_ | refine x_app ?_ | refine x_app0 ?_ | refine x_ld ?_)
  refine awp_cond (by rfl) (fun h1 => ?_) fun h1 => ?_
  · exact absurd (of_decide_eq_true h1) (by omega)
  refine awp_gh (g_rev 102 (i := 101) rfl rfl (pre := (owL (l2.take k) ++ [.v (.string y0)])) (post := owL (l2.drop (k + 1))) (tab_at hx)) ?_
  repeat (first | refine awp_seq ?_ | refine awp_block ?_ | refine awp_skip ?_ | refine awp_exit ?_ | refine awp_region0 fun C => ?_ | refine awp_region1 (by kernel_rfl) (by kernel_rfl) fun C => ?_ | refine walk_end ?_ | refine x_nop ?_ | refine x_bs ?_ | refine x_gr ?_ | refine x_st ?_ | refine x_mv ?_ | refine x_sk ?_ | refine x_sk0 ?_ | refine x_ix ?_ | refine x_ixs ?_ | refine x_sto ?_ | refine x_app ?_ | refine x_app0 ?_ | refine x_ld ?_)
  refine x_call 120 cky ?_
  repeat (first | refine awp_seq ?_ | refine awp_block ?_ | refine awp_skip ?_ | refine awp_exit ?_ | refine awp_region0 fun C => ?_ | refine awp_region1 (by kernel_rfl) (by kernel_rfl) fun C => ?_ | refine walk_end ?_ | refine x_nop ?_ | refine x_bs ?_ | refine x_gr ?_ | refine x_st ?_ | refine x_mv ?_ | refine x_sk ?_ | refine x_sk0 ?_ | refine x_ix ?_ | refine x_ixs ?_ | refine x_sto ?_ | refine x_app ?_ | refine x_app0 ?_ | refine x_ld ?_)
  refine awp_cond (by rfl) (fun h2 => ?_) fun h2 => ?_
  · exact absurd (of_decide_eq_true h2) (by omega)
  repeat (first | refine awp_seq ?_ | refine awp_block ?_ | refine awp_skip ?_ | refine awp_exit ?_ | refine awp_region0 fun C => ?_ | refine awp_region1 (by kernel_rfl) (by kernel_rfl) fun C => ?_ | refine walk_end ?_ | refine x_nop ?_ | refine x_bs ?_ | refine x_gr ?_ | refine x_st ?_ | refine x_mv ?_ | refine x_sk ?_ | refine x_sk0 ?_ | refine x_ix ?_ | refine x_ixs ?_ | refine x_sto ?_ | refine x_app ?_ | refine x_app0 ?_ | refine x_ld ?_)
  refine awp_cond (by rfl) (fun h3 => ?_) fun h3 => ?_
  rotate_left
  · simp at h3
  repeat (first | refine awp_seq ?_ | refine awp_block ?_ | refine awp_skip ?_ | refine awp_exit ?_ | refine awp_region0 fun C => ?_ | refine awp_region1 (by kernel_rfl) (by kernel_rfl) fun C => ?_ | refine walk_end ?_ | refine x_nop ?_ | refine x_bs ?_ | refine x_gr ?_ | refine x_st ?_ | refine x_mv ?_ | refine x_sk ?_ | refine x_sk0 ?_ | refine x_ix ?_ | refine x_ixs ?_ | refine x_sto ?_ | refine x_app ?_ | refine x_app0 ?_ | refine x_ld ?_)
  refine awp_gh (g_abs (i := 101) (j := 51) rfl rfl rfl (pre := (owL (l2.take k) ++ [.v (.string y0)])) (post := owL (l2.drop (k + 1))) (spl_snd hP)) ?_
  refine awp_gh (g_abs (i := 0) (j := 100) rfl rfl rfl (pre := []) (post := [_]) rfl) ?_
  refine awp_gh (g_abs (i := 0) (j := 101) rfl rfl rfl (pre := [_]) (post := []) rfl) ?_
  refine awp_ret ?_
  refine retL (x := .c (.v (.bool true))) (cs := [.ow 50 l.length 4 (owL l), .ow 114 l2.length 2 ((owL (l2.take k) ++ [.v (.string y0)]) ++ .ow 116 (y1.length + 1) 4 (owL y1 ++ [.v (.string s), .v (.int .i64 v0), .v (.int .i64 v1), .v (.string v2)]) :: owL (l2.drop (k + 1)))]) rfl clV_v rfl ?_ rfl ⟨rfl, ?_⟩
  · first | rfl | (simp [cloV, cloL, clo, acE_clo, acL_clo, owE_clo, owL_clo, cloL_app]; done)
  · rw [owL_app]; rfl
set_option maxHeartbeats 600000 in
theorem putO_c {x0A x1A y1A : Option Addr} {x0c x1c y1c : Nat} {l l2 y1 : List E} {v0 v1 : Int} {v2 y0 nm s : ByteArray} {k : Nat} (hk2 : ∀ e ∈ l2, e.enc.length = 2) (hlen : l.length ≤ 1048576) (hlen2 : l2.length ≤ 1048576) (hy1l : y1.length ≤ 1048576) (hlt : k < l2.length) (hx : l2[k]? = some (.agg [.str y0, .lst 4 116 y1A y1c y1]))
    (ca : Ctr Try.prog 106 [.ag (acE (E.agg [.lst 4 50 x0A x0c l, .lst 2 114 x1A x1c l2])), .c (.v (.string nm))] [] (.c (.v (.int .i64 k))) []) {i : Nat} {q w2 : ByteArray} {w0 w1 : Int} (hk1 : ∀ e ∈ y1, e.enc.length = 4) (hit : i < y1.length) (hz : y1[i]? = some (.agg [.str q, .agg [.int .i64 w0, .int .i64 w1, .str w2]])) (cky : Ctr Try.prog 107 [.ag (acE (.agg [.str y0, .lst 4 116 y1A y1c y1])), .c (.v (.string s))] [] (.c (.v (.int .i64 (i)))) []) :
    Ctr Try.prog 104 [.c (.pt 0 0), .c (.v (.string nm)), .c (.v (.string s)), .ag (acE (.agg [.int .i64 v0, .int .i64 v1, .str v2]))] [owE (E.agg [.lst 4 50 x0A x0c l, .lst 2 114 x1A x1c l2])] (.c (.v (.bool true))) [[.ow 50 l.length 4 (owL l), .ow 114 l2.length 2 ((owL (l2.take k) ++ [.v (.string y0)]) ++ .ow 116 y1.length 4 (owL (y1.set i (.agg [.str q, (.agg [.int .i64 v0, .int .i64 v1, .str v2])]))) :: owL (l2.drop (k + 1)))]] := by
  have hle2 : i * 4 + 1 + 3 ≤ (owL y1).length := owL_fit hk1 hit (by omega)
  have hP := owL_take_len (k := k) hk2 (Nat.le_of_lt hlt)
  have hs1 : subL ((owL (l2.take k) ++ [.v (.string y0)]) ++ .sl 102 y1.length :: owL (l2.drop (k + 1))) (k * 2) 2 = [.v (.string y0), .sl 102 y1.length] := subL_two hP
  have hs2 : subL ((owL (l2.take k) ++ [.v (.string y0)]) ++ .sl 102 y1.length :: owL (l2.drop (k + 1))) (k * 2 + 1) 1 = [.sl 102 y1.length] := subL_snd hP
  have hle : k * 2 + 1 + 1 ≤ ((owL (l2.take k) ++ [AC.v (.string y0)]) ++ AC.sl 102 y1.length :: owL (l2.drop (k + 1))).length := by simp [hP]; omega
  refine ctr_of Try.func104 rfl rfl ?_
  refine awp_gh (g_rev 100 (i := 0) rfl rfl (pre := []) (post := [_]) rfl) ?_
  refine awp_gh (g_rev 101 (i := 0) rfl rfl (pre := [_]) (post := []) rfl) ?_
  repeat (first | refine awp_seq ?_ | refine awp_block ?_ | refine awp_skip ?_ | refine awp_exit ?_ | refine awp_region0 fun C => ?_ | refine awp_region1 (by kernel_rfl) (by kernel_rfl) fun C => ?_ | refine walk_end ?_ | refine x_nop ?_ | refine x_bs ?_ | refine x_gr ?_ | refine x_st ?_ | refine x_mv ?_ | refine x_sk ?_ | refine x_sk0 ?_ | refine x_ix ?_ | refine x_ixs ?_ | refine x_sto ?_ | refine x_app ?_ | refine x_app0 ?_ | refine x_ld ?_)
  refine x_call 110 ca ?_
  repeat (first | refine awp_seq ?_ | refine awp_block ?_ | refine awp_skip ?_ | refine awp_exit ?_ | refine awp_region0 fun C => ?_ | refine awp_region1 (by kernel_rfl) (by kernel_rfl) fun C => ?_ | refine walk_end ?_ | refine x_nop ?_ | refine x_bs ?_ | refine x_gr ?_ | refine x_st ?_ | refine x_mv ?_ | refine x_sk ?_ | refine x_sk0 ?_ | refine x_ix ?_ | refine x_ixs ?_ | refine x_sto ?_ | refine x_app ?_ | refine x_app0 ?_ | refine x_ld ?_)
  refine awp_cond (by rfl) (fun h1 => ?_) fun h1 => ?_
  · exact absurd (of_decide_eq_true h1) (by omega)
  refine awp_gh (g_rev 102 (i := 101) rfl rfl (pre := (owL (l2.take k) ++ [.v (.string y0)])) (post := owL (l2.drop (k + 1))) (tab_at hx)) ?_
  repeat (first | refine awp_seq ?_ | refine awp_block ?_ | refine awp_skip ?_ | refine awp_exit ?_ | refine awp_region0 fun C => ?_ | refine awp_region1 (by kernel_rfl) (by kernel_rfl) fun C => ?_ | refine walk_end ?_ | refine x_nop ?_ | refine x_bs ?_ | refine x_gr ?_ | refine x_st ?_ | refine x_mv ?_ | refine x_sk ?_ | refine x_sk0 ?_ | refine x_ix ?_ | refine x_ixs ?_ | refine x_sto ?_ | refine x_app ?_ | refine x_app0 ?_ | refine x_ld ?_)
  refine x_call 120 cky ?_
  repeat (first | refine awp_seq ?_ | refine awp_block ?_ | refine awp_skip ?_ | refine awp_exit ?_ | refine awp_region0 fun C => ?_ | refine awp_region1 (by kernel_rfl) (by kernel_rfl) fun C => ?_ | refine walk_end ?_ | refine x_nop ?_ | refine x_bs ?_ | refine x_gr ?_ | refine x_st ?_ | refine x_mv ?_ | refine x_sk ?_ | refine x_sk0 ?_ | refine x_ix ?_ | refine x_ixs ?_ | refine x_sto ?_ | refine x_app ?_ | refine x_app0 ?_ | refine x_ld ?_)
  refine awp_cond (by rfl) (fun h2 => ?_) fun h2 => ?_
  · simp at h2
  repeat (first | refine awp_seq ?_ | refine awp_block ?_ | refine awp_skip ?_ | refine awp_exit ?_ | refine awp_region0 fun C => ?_ | refine awp_region1 (by kernel_rfl) (by kernel_rfl) fun C => ?_ | refine walk_end ?_ | refine x_nop ?_ | refine x_bs ?_ | refine x_gr ?_ | refine x_st ?_ | refine x_mv ?_ | refine x_sk ?_ | refine x_sk0 ?_ | refine x_ix ?_ | refine x_ixs ?_ | refine x_sto ?_ | refine x_app ?_ | refine x_app0 ?_ | refine x_ld ?_)
  refine awp_cond (by rfl) (fun h3 => ?_) fun h3 => ?_
  · exact absurd (of_decide_eq_true h3) (by omega)
  repeat (first | refine awp_seq ?_ | refine awp_block ?_ | refine awp_skip ?_ | refine awp_exit ?_ | refine awp_region0 fun C => ?_ | refine awp_region1 (by kernel_rfl) (by kernel_rfl) fun C => ?_ | refine walk_end ?_ | refine x_nop ?_ | refine x_bs ?_ | refine x_gr ?_ | refine x_st ?_ | refine x_mv ?_ | refine x_sk ?_ | refine x_sk0 ?_ | refine x_ix ?_ | refine x_ixs ?_ | refine x_sto ?_ | refine x_app ?_ | refine x_app0 ?_ | refine x_ld ?_)
  refine awp_gh (g_abs (i := 101) (j := 102) rfl rfl rfl (pre := (owL (l2.take k) ++ [.v (.string y0)])) (post := owL (l2.drop (k + 1))) rfl) ?_
  refine awp_gh (g_abs (i := 0) (j := 100) rfl rfl rfl (pre := []) (post := [_]) rfl) ?_
  refine awp_gh (g_abs (i := 0) (j := 101) rfl rfl rfl (pre := [_]) (post := []) rfl) ?_
  refine awp_ret ?_
  have e1 : spl (owL y1) (i * 4 + 1) [.v (.int .i64 v0), .v (.int .i64 v1), .v (.string v2)] = owL (y1.set i (.agg [.str q, .agg [.int .i64 v0, .int .i64 v1, .str v2]])) := owL_spl hk1 hz (by simp) rfl
  refine retL (x := .c (.v (.bool true))) (cs := [.ow 50 l.length 4 (owL l), .ow 114 l2.length 2 ((owL (l2.take k) ++ [.v (.string y0)]) ++ .ow 116 y1.length 4 (spl (owL y1) (i * 4 + 1) [.v (.int .i64 v0), .v (.int .i64 v1), .v (.string v2)]) :: owL (l2.drop (k + 1)))]) rfl clV_v rfl ?_ rfl ⟨rfl, ?_⟩
  · rw [e1]; first | rfl | (simp [cloV, cloL, clo, acE_clo, acL_clo, owE_clo, owL_clo, cloL_app]; done)
  · rw [e1]
set_option maxHeartbeats 600000 in
theorem put0_c {x0A x1A : Option Addr} {x0c x1c : Nat} {l l2 : List E} {v0 v1 : Int} {v2 nm s : ByteArray} (hlen : l.length ≤ 1048576) (hlen2 : l2.length ≤ 1048576) (ca : Ctr Try.prog 106 [.ag (acE (E.agg [.lst 4 50 x0A x0c l, .lst 2 114 x1A x1c l2])), .c (.v (.string nm))] [] (.c (.v (.int .i64 (-1)))) []) :
    Ctr Try.prog 104 [.c (.pt 0 0), .c (.v (.string nm)), .c (.v (.string s)), .ag (acE (.agg [.int .i64 v0, .int .i64 v1, .str v2]))] [owE (E.agg [.lst 4 50 x0A x0c l, .lst 2 114 x1A x1c l2])] (.c (.v (.bool false))) [owE (E.agg [.lst 4 50 x0A x0c l, .lst 2 114 x1A x1c l2])] := by
  refine ctr_of Try.func104 rfl rfl ?_
  refine awp_gh (g_rev 100 (i := 0) rfl rfl (pre := []) (post := [_]) rfl) ?_
  refine awp_gh (g_rev 101 (i := 0) rfl rfl (pre := [_]) (post := []) rfl) ?_
  repeat (first | refine awp_seq ?_ | refine awp_block ?_ | refine awp_skip ?_ | refine awp_exit ?_ | refine awp_region0 fun C => ?_ | refine awp_region1 (by kernel_rfl) (by kernel_rfl) fun C => ?_ | refine walk_end ?_ | refine x_nop ?_ | refine x_bs ?_ | refine x_gr ?_ | refine x_st ?_ | refine x_mv ?_ | refine x_sk ?_ | refine x_sk0 ?_ | refine x_ix ?_ | refine x_ixs ?_ | refine x_sto ?_ | refine x_app ?_ | refine x_app0 ?_ | refine x_ld ?_)
  refine x_call 110 ca ?_
  repeat (first | refine awp_seq ?_ | refine awp_block ?_ | refine awp_skip ?_ | refine awp_exit ?_ | refine awp_region0 fun C => ?_ | refine awp_region1 (by kernel_rfl) (by kernel_rfl) fun C => ?_ | refine walk_end ?_ | refine x_nop ?_ | refine x_bs ?_ | refine x_gr ?_ | refine x_st ?_ | refine x_mv ?_ | refine x_sk ?_ | refine x_sk0 ?_ | refine x_ix ?_ | refine x_ixs ?_ | refine x_sto ?_ | refine x_app ?_ | refine x_app0 ?_ | refine x_ld ?_)
  refine awp_cond (by rfl) (fun h1 => ?_) fun h1 => ?_
  rotate_left
  · simp at h1
  repeat (first | refine awp_seq ?_ | refine awp_block ?_ | refine awp_skip ?_ | refine awp_exit ?_ | refine awp_region0 fun C => ?_ | refine awp_region1 (by kernel_rfl) (by kernel_rfl) fun C => ?_ | refine walk_end ?_ | refine x_nop ?_ | refine x_bs ?_ | refine x_gr ?_ | refine x_st ?_ | refine x_mv ?_ | refine x_sk ?_ | refine x_sk0 ?_ | refine x_ix ?_ | refine x_ixs ?_ | refine x_sto ?_ | refine x_app ?_ | refine x_app0 ?_ | refine x_ld ?_)
  refine awp_gh (g_abs (i := 0) (j := 100) rfl rfl rfl (pre := []) (post := [_]) rfl) ?_
  refine awp_gh (g_abs (i := 0) (j := 101) rfl rfl rfl (pre := [_]) (post := []) rfl) ?_
  refine awp_ret ?_
  refine retL (x := .c (.v (.bool false))) rfl clV_v rfl ?_ rfl ⟨rfl, rfl⟩
  first | rfl | (simp [cloV, cloL, clo, acE_clo, acL_clo, owE_clo, owL_clo, cloL_app]; done)
theorem l14Put_c {e v : E} (he : e.Ty Try.prog 45) (hv : v.Ty Try.prog 35) (nm s : ByteArray) (hsz : e.sz ≤ 1048576) : Ctr Try.prog 104 [.c (.pt 0 0), .c (.v (.string nm)), .c (.v (.string s)), .ag (acE v)] [owE e] (.c (.v (.bool (putOk e nm s)))) [owE (putE e nm s v)] := by
  have ca := l14At_c he nm hsz
  obtain ⟨x0A, x0c, l, x1A, x1c, l2, rfl, ⟨hl, hk⟩, ⟨hl2, hk2⟩, -⟩ := shape_impl_Env he
  have hlen : l.length ≤ 1048576 := by simp only [E.sz, E.szL] at hsz; omega
  have hlen2 : l2.length ≤ 1048576 := by simp only [E.sz, E.szL] at hsz; omega
  obtain ⟨v0, v1, v2, rfl, -⟩ := shape_impl_Val hv
  rcases idxF_cases (isNm nm) l2 with h0 | ⟨k, h0, hlt⟩
  · rw [show tabsE _ = l2 from rfl, h0] at ca
    obtain ⟨p1, p2⟩ := putE_none (x0A := x0A) (x1A := x1A) (x0c := x0c) (x1c := x1c) (k := 4) (k' := 2) (T := 50) (T' := 114) (l := l) (s := s) (v := .agg [.int .i64 v0, .int .i64 v1, .str v2]) h0
    rw [p1, p2]
    exact put0_c hlen hlen2 ca
  · rw [show tabsE _ = l2 from rfl, h0] at ca
    obtain ⟨x, hx⟩ : ∃ x, l2[k]? = some x := ⟨_, List.getElem?_eq_getElem hlt⟩
    have hxt := hl2 x (List.mem_of_getElem? hx)
    have hxs : x.sz ≤ 1048576 := by
      have := E.szL_mem (List.mem_of_getElem? hx)
      simp only [E.sz, E.szL] at hsz; omega
    have cky := l14Key_c hxt s hxs
    obtain ⟨y0, y1A, y1c, y1, rfl, hy0, ⟨hy1, hy1k⟩, -⟩ := shape_impl_Table hxt
    have hy1l : y1.length ≤ 1048576 := by simp only [E.sz, E.szL] at hxs; omega
    obtain ⟨p1, p2⟩ := putE_some (x0A := x0A) (x1A := x1A) (x0c := x0c) (x1c := x1c) (k := 4) (k' := 2) (T := 50) (T' := 114) (l := l) (s := s) (v := .agg [.int .i64 v0, .int .i64 v1, .str v2]) h0 hx
    rw [p1, p2]
    have hr : ∀ m : List E, [owE (.agg [.lst 4 50 none 0 l, .lst 2 114 none 0 (l2.set k (.agg [.str y0, .lst 4 116 none 0 m]))])] = [[.ow 50 l.length 4 (owL l), .ow 114 l2.length 2 ((owL (l2.take k) ++ [.v (.string y0)]) ++ .ow 116 m.length 4 (owL m) :: owL (l2.drop (k + 1)))]] := by
      intro m
      simp only [owE, owL, List.length_set, List.append_nil]
      rw [tab_set hlt]; rfl
    rcases idxF_cases (isNm s) y1 with j0 | ⟨i, j0, hit⟩
    · rw [show tabsE _ = y1 from rfl, j0] at cky
      by_cases h20 : 20 ≤ y1.length
      · obtain ⟨q1, q2⟩ := putL_full (v := .agg [.int .i64 v0, .int .i64 v1, .str v2]) j0 h20
        rw [q1, q2, hr]
        exact putF_c hk2 hlen hlen2 hy1l hlt hx ca h20 cky
      · obtain ⟨q1, q2⟩ := putL_new (v := .agg [.int .i64 v0, .int .i64 v1, .str v2]) j0 h20
        rw [q1, q2, hr, List.length_append]
        exact putN_c hk2 hlen hlen2 hy1l hlt hx ca h20 cky
    · rw [show tabsE _ = y1 from rfl, j0] at cky
      obtain ⟨z, hz⟩ : ∃ z, y1[i]? = some z := ⟨_, List.getElem?_eq_getElem hit⟩
      obtain ⟨z0, z1, z2, z3, rfl, hz0⟩ := shape_impl_Entry (hy1 z (List.mem_of_getElem? hz))
      obtain ⟨q1, q2⟩ := putL_old (v := .agg [.int .i64 v0, .int .i64 v1, .str v2]) j0 hz
      rw [q1, q2, hr, List.length_set]
      exact putO_c hk2 hlen hlen2 hy1l hlt hx ca hy1k hit hz cky
end Go.Proofs.Ytfnnbjkjfoiboaa
