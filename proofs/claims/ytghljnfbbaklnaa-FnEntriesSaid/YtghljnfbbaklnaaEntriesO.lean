/- spec.l14Put, spec.PutEntry: by the abstract machine. -/
import Derived.Lib.SliceRun
import Derived.Test.YtghljnfbbaklnaaEntriesN
namespace Go.Proofs.Ytghljnfbbaklnaa
open Go.RowKit
set_option maxRecDepth 100000
def putL (l : List E) (s : ByteArray) (v : E) : List E := match l.findIdx? (isNm s) with | some i => l.set i (.agg [.str (nmE (l[i]?.getD v)), v]) | none => if 20 ≤ l.length then l else l ++ [.agg [.str s, v]]
def putOkL (l : List E) (s : ByteArray) : Bool := match l.findIdx? (isNm s) with | some _ => true | none => !decide (20 ≤ l.length)
def putE (e : E) (nm s : ByteArray) (v : E) : E := .agg [.lst 4 34 none 0 (varsE e), .lst 2 80 none 0 (match (tabsE e).findIdx? (isNm nm) with
  | some k => (tabsE e).set k (.agg [.str (nmE ((tabsE e)[k]?.getD e)), .lst 4 82 none 0 (putL (tabsE ((tabsE e)[k]?.getD e)) s v)]) | none => tabsE e)]
def putOk (e : E) (nm s : ByteArray) : Bool := match (tabsE e).findIdx? (isNm nm) with | some k => putOkL (tabsE ((tabsE e)[k]?.getD e)) s | none => false
theorem zi6 {x0A x1A : Option Addr} {x0c x1c k k' : Nat} {T T' : TypeId} {l l2 : List E} {nm s : ByteArray} {v : E} (h : idxF (isNm nm) l2 = -1) : putE (.agg [.lst k T x0A x0c l, .lst k' T' x1A x1c l2]) nm s v = .agg [.lst 4 34 none 0 l, .lst 2 80 none 0 l2] ∧ putOk (.agg [.lst k T x0A x0c l, .lst k' T' x1A x1c l2]) nm s = false := by
  simp [putE, putOk, varsE, tabsE, zo5 h]
theorem zj6 {x0A x1A zA : Option Addr} {x0c x1c zc k k' kz : Nat} {T T' Tz : TypeId} {l l2 lz : List E} {nm s q : ByteArray} {v : E} {i : Nat} (h : idxF (isNm nm) l2 = (i : Int)) (hx : l2[i]? = some (.agg [.str q, .lst kz Tz zA zc lz])) :
    putE (.agg [.lst k T x0A x0c l, .lst k' T' x1A x1c l2]) nm s v = .agg [.lst 4 34 none 0 l, .lst 2 80 none 0 (l2.set i (.agg [.str q, .lst 4 82 none 0 (putL lz s v)]))] ∧ putOk (.agg [.lst k T x0A x0c l, .lst k' T' x1A x1c l2]) nm s = putOkL lz s := by
  simp [putE, putOk, varsE, tabsE, zp5 h, hx, nmE]
theorem zj8 {l2 : List E} {k c kz : Nat} {q : ByteArray} {T : TypeId} {A : Option Addr} {m : List E} (hx : l2[k]? = some (.agg [.str q, .lst kz T A c m])) : owL l2 = (owL (l2.take k) ++ [.v (.string q)]) ++ .ow T m.length kz (owL m) :: owL (l2.drop (k + 1)) := by
  rw [zm10 hx, List.append_assoc]; rfl
theorem zp11 {l2 : List E} {k c kz : Nat} {q : ByteArray} {T : TypeId} {A : Option Addr} {m : List E} (hk : k < l2.length) : owL (l2.set k (.agg [.str q, .lst kz T A c m])) = (owL (l2.take k) ++ [.v (.string q)]) ++ .ow T m.length kz (owL m) :: owL (l2.drop (k + 1)) := by
  rw [zw19 hk, List.append_assoc]; rfl
theorem zt10 {l : List E} {s : ByteArray} {v : E} (h : idxF (isNm s) l = -1) (hl : 20 ≤ l.length) : putL l s v = l ∧ putOkL l s = false := by simp [putL, putOkL, zo5 h, hl]
theorem zu12 {l : List E} {s : ByteArray} {v : E} (h : idxF (isNm s) l = -1) (hl : ¬ 20 ≤ l.length) : putL l s v = l ++ [.agg [.str s, v]] ∧ putOkL l s = true := by simp [putL, putOkL, zo5 h, hl]
theorem zv12 {l : List E} {s q : ByteArray} {v v0 : E} {i : Nat} (h : idxF (isNm s) l = (i : Int)) (hx : l[i]? = some (.agg [.str q, v0])) : putL l s v = l.set i (.agg [.str q, v]) ∧ putOkL l s = true := by simp [putL, putOkL, zp5 h, hx, nmE]
-- CASES
set_option maxHeartbeats 600000 in
theorem zn21 {x0A x1A y1A : Option Addr} {x0c x1c y1c : Nat} {l l2 y1 : List E} {v0 v1 : Int} {v2 y0 nm s : ByteArray} {k : Nat} (hk2 : ∀ e ∈ l2, e.enc.length = 2) (hlen : l.length ≤ 1048576) (hlen2 : l2.length ≤ 1048576) (hy1l : y1.length ≤ 1048576) (hlt : k < l2.length) (hx : l2[k]? = some (.agg [.str y0, .lst 4 82 y1A y1c y1]))
    (ca : Ctr Try.prog 100 [.ag (acE (E.agg [.lst 4 34 x0A x0c l, .lst 2 80 x1A x1c l2])), .c (.v (.string nm))] [] (.c (.v (.int .i64 k))) []) (h20 : 20 ≤ y1.length) (cky : Ctr Try.prog 101 [.ag (acE (.agg [.str y0, .lst 4 82 y1A y1c y1])), .c (.v (.string s))] [] (.c (.v (.int .i64 (-1)))) []) :
    Ctr Try.prog 59 [.c (.pt 0 0), .c (.v (.string nm)), .c (.v (.string s)), .ag (acE (.agg [.int .i64 v0, .int .i64 v1, .str v2]))] [owE (E.agg [.lst 4 34 x0A x0c l, .lst 2 80 x1A x1c l2])] (.c (.v (.bool false))) [[.ow 34 l.length 4 (owL l), .ow 80 l2.length 2 ((owL (l2.take k) ++ [.v (.string y0)]) ++ .ow 82 y1.length 4 (owL y1) :: owL (l2.drop (k + 1)))]] := by
  have hP := zk4 (k := k) hk2 (Nat.le_of_lt hlt)
  have hs1 : subL ((owL (l2.take k) ++ [.v (.string y0)]) ++ .sl 102 y1.length :: owL (l2.drop (k + 1))) (k * 2) 2 = [.v (.string y0), .sl 102 y1.length] := zo9 hP
  have hs2 : subL ((owL (l2.take k) ++ [.v (.string y0)]) ++ .sl 102 y1.length :: owL (l2.drop (k + 1))) (k * 2 + 1) 1 = [.sl 102 y1.length] := zc5 hP
  have hle : k * 2 + 1 + 1 ≤ ((owL (l2.take k) ++ [AC.v (.string y0)]) ++ AC.sl 102 y1.length :: owL (l2.drop (k + 1))).length := by simp [hP]; omega
  refine zt1 Try.func59 rfl rfl ?_
  refine za2 (zf5 100 (i := 0) rfl rfl (pre := []) (post := [_]) rfl) ?_
  refine za2 (zf5 101 (i := 0) rfl rfl (pre := [_]) (post := []) rfl) ?_
  repeat (first | refine zi ?_ | refine ze ?_ | refine zg ?_ | refine zh ?_ | refine za fun C => ?_ | refine zf (by kernel_rfl) (by kernel_rfl) fun C => ?_ | refine zd ?_ | refine zf1 ?_ | refine x_bs ?_ | refine x_gr ?_ | refine x_st ?_ | refine x_mv ?_ | refine x_sk ?_ | refine zh1 ?_ | refine x_ix ?_ | refine zi1 ?_ | refine zj1 ?_ | refine zg1 ?_ | refine zt ?_ | refine x_ld ?_)
  refine zb4 110 ca ?_
  repeat (first | refine zi ?_ | refine ze ?_ | refine zg ?_ | refine zh ?_ | refine za fun C => ?_ | refine zf (by kernel_rfl) (by kernel_rfl) fun C => ?_ | refine zd ?_ | refine zf1 ?_ | refine x_bs ?_ | refine x_gr ?_ | refine x_st ?_ | refine x_mv ?_ | refine x_sk ?_ | refine zh1 ?_ | refine x_ix ?_ | refine zi1 ?_ | refine zj1 ?_ | refine zg1 ?_ | refine zt ?_ | refine x_ld ?_)
  refine zn1 (by rfl) (fun h1 => ?_) fun h1 => ?_
  · exact absurd (of_decide_eq_true h1) (by omega)
  refine za2 (zf5 102 (i := 101) rfl rfl (pre := (owL (l2.take k) ++ [.v (.string y0)])) (post := owL (l2.drop (k + 1))) (zj8 hx)) ?_
  repeat (first | refine zi ?_ | refine ze ?_ | refine zg ?_ | refine zh ?_ | refine za fun C => ?_ | refine zf (by kernel_rfl) (by kernel_rfl) fun C => ?_ | refine zd ?_ | refine zf1 ?_ | refine x_bs ?_ | refine x_gr ?_ | refine x_st ?_ | refine x_mv ?_ | refine x_sk ?_ | refine zh1 ?_ | refine x_ix ?_ | refine zi1 ?_ | refine zj1 ?_ | refine zg1 ?_ | refine zt ?_ | refine x_ld ?_)
  refine zb4 120 cky ?_
  repeat (first | refine zi ?_ | refine ze ?_ | refine zg ?_ | refine zh ?_ | refine za fun C => ?_ | refine zf (by kernel_rfl) (by kernel_rfl) fun C => ?_ | refine zd ?_ | refine zf1 ?_ | refine x_bs ?_ | refine x_gr ?_ | refine x_st ?_ | refine x_mv ?_ | refine x_sk ?_ | refine zh1 ?_ | refine x_ix ?_ | refine zi1 ?_ | refine zj1 ?_ | refine zg1 ?_ | refine zt ?_ | refine x_ld ?_)
  refine zn1 (by rfl) (fun h2 => ?_) fun h2 => ?_
  rotate_left
  · exact absurd (of_decide_eq_false h2) (by omega)
  repeat (first | refine zi ?_ | refine ze ?_ | refine zg ?_ | refine zh ?_ | refine za fun C => ?_ | refine zf (by kernel_rfl) (by kernel_rfl) fun C => ?_ | refine zd ?_ | refine zf1 ?_ | refine x_bs ?_ | refine x_gr ?_ | refine x_st ?_ | refine x_mv ?_ | refine x_sk ?_ | refine zh1 ?_ | refine x_ix ?_ | refine zi1 ?_ | refine zj1 ?_ | refine zg1 ?_ | refine zt ?_ | refine x_ld ?_)
  refine za2 (ze5 (i := 101) (j := 102) rfl rfl rfl (pre := (owL (l2.take k) ++ [.v (.string y0)])) (post := owL (l2.drop (k + 1))) rfl) ?_
  refine za2 (ze5 (i := 0) (j := 100) rfl rfl rfl (pre := []) (post := [_]) rfl) ?_
  refine za2 (ze5 (i := 0) (j := 101) rfl rfl rfl (pre := [_]) (post := []) rfl) ?_
  refine zq ?_
  refine retL (x := .c (.v (.bool false))) rfl zj4 rfl ?_ rfl ⟨rfl, rfl⟩
  first | rfl | (simp [cloV, cloL, clo, zo, zn, zp, zl, zk]; done)
set_option maxHeartbeats 600000 in
theorem zo21 {x0A x1A y1A : Option Addr} {x0c x1c y1c : Nat} {l l2 y1 : List E} {v0 v1 : Int} {v2 y0 nm s : ByteArray} {k : Nat} (hk2 : ∀ e ∈ l2, e.enc.length = 2) (hlen : l.length ≤ 1048576) (hlen2 : l2.length ≤ 1048576) (hy1l : y1.length ≤ 1048576) (hlt : k < l2.length) (hx : l2[k]? = some (.agg [.str y0, .lst 4 82 y1A y1c y1]))
    (ca : Ctr Try.prog 100 [.ag (acE (E.agg [.lst 4 34 x0A x0c l, .lst 2 80 x1A x1c l2])), .c (.v (.string nm))] [] (.c (.v (.int .i64 k))) []) (h20 : ¬ 20 ≤ y1.length) (cky : Ctr Try.prog 101 [.ag (acE (.agg [.str y0, .lst 4 82 y1A y1c y1])), .c (.v (.string s))] [] (.c (.v (.int .i64 (-1)))) []) :
    Ctr Try.prog 59 [.c (.pt 0 0), .c (.v (.string nm)), .c (.v (.string s)), .ag (acE (.agg [.int .i64 v0, .int .i64 v1, .str v2]))] [owE (E.agg [.lst 4 34 x0A x0c l, .lst 2 80 x1A x1c l2])] (.c (.v (.bool true))) [[.ow 34 l.length 4 (owL l), .ow 80 l2.length 2 ((owL (l2.take k) ++ [.v (.string y0)]) ++ .ow 82 (y1.length + 1) 4 (owL (y1 ++ [.agg [.str s, (.agg [.int .i64 v0, .int .i64 v1, .str v2])]])) :: owL (l2.drop (k + 1)))]] := by
  have hP := zk4 (k := k) hk2 (Nat.le_of_lt hlt)
  have hs1 : subL ((owL (l2.take k) ++ [.v (.string y0)]) ++ .sl 102 y1.length :: owL (l2.drop (k + 1))) (k * 2) 2 = [.v (.string y0), .sl 102 y1.length] := zo9 hP
  have hs2 : subL ((owL (l2.take k) ++ [.v (.string y0)]) ++ .sl 102 y1.length :: owL (l2.drop (k + 1))) (k * 2 + 1) 1 = [.sl 102 y1.length] := zc5 hP
  have hle : k * 2 + 1 + 1 ≤ ((owL (l2.take k) ++ [AC.v (.string y0)]) ++ AC.sl 102 y1.length :: owL (l2.drop (k + 1))).length := by simp [hP]; omega
  refine zt1 Try.func59 rfl rfl ?_
  refine za2 (zf5 100 (i := 0) rfl rfl (pre := []) (post := [_]) rfl) ?_
  refine za2 (zf5 101 (i := 0) rfl rfl (pre := [_]) (post := []) rfl) ?_
  repeat (first | refine zi ?_ | refine ze ?_ | refine zg ?_ | refine zh ?_ | refine za fun C => ?_ | refine zf (by kernel_rfl) (by kernel_rfl) fun C => ?_ | refine zd ?_ | refine zf1 ?_ | refine x_bs ?_ | refine x_gr ?_ | refine x_st ?_ | refine x_mv ?_ | refine x_sk ?_ | refine zh1 ?_ | refine x_ix ?_ | refine zi1 ?_ | refine zj1 ?_ | refine zg1 ?_ | refine zt ?_ | refine x_ld ?_)
  refine zb4 110 ca ?_
  repeat (first | refine zi ?_ | refine ze ?_ | refine zg ?_ | refine zh ?_ | refine za fun C => ?_ | refine zf (by kernel_rfl) (by kernel_rfl) fun C => ?_ | refine zd ?_ | refine zf1 ?_ | refine x_bs ?_ | refine x_gr ?_ | refine x_st ?_ | refine x_mv ?_ | refine x_sk ?_ | refine zh1 ?_ | refine x_ix ?_ | refine zi1 ?_ | refine zj1 ?_ | refine zg1 ?_ | refine zt ?_ | refine x_ld ?_)
  refine zn1 (by rfl) (fun h1 => ?_) fun h1 => ?_
  · exact absurd (of_decide_eq_true h1) (by omega)
  refine za2 (zf5 102 (i := 101) rfl rfl (pre := (owL (l2.take k) ++ [.v (.string y0)])) (post := owL (l2.drop (k + 1))) (zj8 hx)) ?_
  repeat (first | refine zi ?_ | refine ze ?_ | refine zg ?_ | refine zh ?_ | refine za fun C => ?_ | refine zf (by kernel_rfl) (by kernel_rfl) fun C => ?_ | refine zd ?_ | refine zf1 ?_ | refine x_bs ?_ | refine x_gr ?_ | refine x_st ?_ | refine x_mv ?_ | refine x_sk ?_ | refine zh1 ?_ | refine x_ix ?_ | refine zi1 ?_ | refine zj1 ?_ | refine zg1 ?_ | refine zt ?_ | refine x_ld ?_)
  refine zb4 120 cky ?_
  repeat (first | refine zi ?_ | refine ze ?_ | refine zg ?_ | refine zh ?_ | refine za fun C => ?_ | refine zf (by kernel_rfl) (by kernel_rfl) fun C => ?_ | refine zd ?_ | refine zf1 ?_ | refine x_bs ?_ | refine x_gr ?_ | refine x_st ?_ | refine x_mv ?_ | refine x_sk ?_ | refine zh1 ?_ | refine x_ix ?_ | refine zi1 ?_ | refine zj1 ?_ | refine zg1 ?_ | refine zt ?_ | refine x_ld ?_)
  refine zn1 (by rfl) (fun h2 => ?_) fun h2 => ?_
  · exact absurd (of_decide_eq_true h2) (by omega)
  repeat (first | refine zi ?_ | refine ze ?_ | refine zg ?_ | refine zh ?_ | refine za fun C => ?_ | refine zf (by kernel_rfl) (by kernel_rfl) fun C => ?_ | refine zd ?_ | refine zf1 ?_ | refine x_bs ?_ | refine x_gr ?_ | refine x_st ?_ | refine x_mv ?_ | refine x_sk ?_ | refine zh1 ?_ | refine x_ix ?_ | refine zi1 ?_ | refine zj1 ?_ | refine zg1 ?_ | refine zt ?_ | refine x_ld ?_)
  refine zn1 (by rfl) (fun h3 => ?_) fun h3 => ?_
  rotate_left
  · simp at h3
  repeat (first | refine zi ?_ | refine ze ?_ | refine zg ?_ | refine zh ?_ | refine za fun C => ?_ | refine zf (by kernel_rfl) (by kernel_rfl) fun C => ?_ | refine zd ?_ | refine zf1 ?_ | refine x_bs ?_ | refine x_gr ?_ | refine x_st ?_ | refine x_mv ?_ | refine x_sk ?_ | refine zh1 ?_ | refine x_ix ?_ | refine zi1 ?_ | refine zj1 ?_ | refine zg1 ?_ | refine zt ?_ | refine x_ld ?_)
  refine za2 (ze5 (i := 101) (j := 51) rfl rfl rfl (pre := (owL (l2.take k) ++ [.v (.string y0)])) (post := owL (l2.drop (k + 1))) (zk11 hP)) ?_
  refine za2 (ze5 (i := 0) (j := 100) rfl rfl rfl (pre := []) (post := [_]) rfl) ?_
  refine za2 (ze5 (i := 0) (j := 101) rfl rfl rfl (pre := [_]) (post := []) rfl) ?_
  refine zq ?_
  refine retL (x := .c (.v (.bool true))) (cs := [.ow 34 l.length 4 (owL l), .ow 80 l2.length 2 ((owL (l2.take k) ++ [.v (.string y0)]) ++ .ow 82 (y1.length + 1) 4 (owL y1 ++ [.v (.string s), .v (.int .i64 v0), .v (.int .i64 v1), .v (.string v2)]) :: owL (l2.drop (k + 1)))]) rfl zj4 rfl ?_ rfl ⟨rfl, ?_⟩
  · first | rfl | (simp [cloV, cloL, clo, zo, zn, zp, zl, zk]; done)
  · rw [zc6]; rfl
set_option maxHeartbeats 600000 in
theorem zp21 {x0A x1A y1A : Option Addr} {x0c x1c y1c : Nat} {l l2 y1 : List E} {v0 v1 : Int} {v2 y0 nm s : ByteArray} {k : Nat} (hk2 : ∀ e ∈ l2, e.enc.length = 2) (hlen : l.length ≤ 1048576) (hlen2 : l2.length ≤ 1048576) (hy1l : y1.length ≤ 1048576) (hlt : k < l2.length) (hx : l2[k]? = some (.agg [.str y0, .lst 4 82 y1A y1c y1]))
    (ca : Ctr Try.prog 100 [.ag (acE (E.agg [.lst 4 34 x0A x0c l, .lst 2 80 x1A x1c l2])), .c (.v (.string nm))] [] (.c (.v (.int .i64 k))) []) {i : Nat} {q w2 : ByteArray} {w0 w1 : Int} (hk1 : ∀ e ∈ y1, e.enc.length = 4) (hit : i < y1.length) (hz : y1[i]? = some (.agg [.str q, .agg [.int .i64 w0, .int .i64 w1, .str w2]])) (cky : Ctr Try.prog 101 [.ag (acE (.agg [.str y0, .lst 4 82 y1A y1c y1])), .c (.v (.string s))] [] (.c (.v (.int .i64 (i)))) []) :
    Ctr Try.prog 59 [.c (.pt 0 0), .c (.v (.string nm)), .c (.v (.string s)), .ag (acE (.agg [.int .i64 v0, .int .i64 v1, .str v2]))] [owE (E.agg [.lst 4 34 x0A x0c l, .lst 2 80 x1A x1c l2])] (.c (.v (.bool true))) [[.ow 34 l.length 4 (owL l), .ow 80 l2.length 2 ((owL (l2.take k) ++ [.v (.string y0)]) ++ .ow 82 y1.length 4 (owL (y1.set i (.agg [.str q, (.agg [.int .i64 v0, .int .i64 v1, .str v2])]))) :: owL (l2.drop (k + 1)))]] := by
  have hle2 : i * 4 + 1 + 3 ≤ (owL y1).length := zs15 hk1 hit (by omega)
  have hP := zk4 (k := k) hk2 (Nat.le_of_lt hlt)
  have hs1 : subL ((owL (l2.take k) ++ [.v (.string y0)]) ++ .sl 102 y1.length :: owL (l2.drop (k + 1))) (k * 2) 2 = [.v (.string y0), .sl 102 y1.length] := zo9 hP
  have hs2 : subL ((owL (l2.take k) ++ [.v (.string y0)]) ++ .sl 102 y1.length :: owL (l2.drop (k + 1))) (k * 2 + 1) 1 = [.sl 102 y1.length] := zc5 hP
  have hle : k * 2 + 1 + 1 ≤ ((owL (l2.take k) ++ [AC.v (.string y0)]) ++ AC.sl 102 y1.length :: owL (l2.drop (k + 1))).length := by simp [hP]; omega
  refine zt1 Try.func59 rfl rfl ?_
  refine za2 (zf5 100 (i := 0) rfl rfl (pre := []) (post := [_]) rfl) ?_
  refine za2 (zf5 101 (i := 0) rfl rfl (pre := [_]) (post := []) rfl) ?_
  repeat (first | refine zi ?_ | refine ze ?_ | refine zg ?_ | refine zh ?_ | refine za fun C => ?_ | refine zf (by kernel_rfl) (by kernel_rfl) fun C => ?_ | refine zd ?_ | refine zf1 ?_ | refine x_bs ?_ | refine x_gr ?_ | refine x_st ?_ | refine x_mv ?_ | refine x_sk ?_ | refine zh1 ?_ | refine x_ix ?_ | refine zi1 ?_ | refine zj1 ?_ | refine zg1 ?_ | refine zt ?_ | refine x_ld ?_)
  refine zb4 110 ca ?_
  repeat (first | refine zi ?_ | refine ze ?_ | refine zg ?_ | refine zh ?_ | refine za fun C => ?_ | refine zf (by kernel_rfl) (by kernel_rfl) fun C => ?_ | refine zd ?_ | refine zf1 ?_ | refine x_bs ?_ | refine x_gr ?_ | refine x_st ?_ | refine x_mv ?_ | refine x_sk ?_ | refine zh1 ?_ | refine x_ix ?_ | refine zi1 ?_ | refine zj1 ?_ | refine zg1 ?_ | refine zt ?_ | refine x_ld ?_)
  refine zn1 (by rfl) (fun h1 => ?_) fun h1 => ?_
  · exact absurd (of_decide_eq_true h1) (by omega)
  refine za2 (zf5 102 (i := 101) rfl rfl (pre := (owL (l2.take k) ++ [.v (.string y0)])) (post := owL (l2.drop (k + 1))) (zj8 hx)) ?_
  repeat (first | refine zi ?_ | refine ze ?_ | refine zg ?_ | refine zh ?_ | refine za fun C => ?_ | refine zf (by kernel_rfl) (by kernel_rfl) fun C => ?_ | refine zd ?_ | refine zf1 ?_ | refine x_bs ?_ | refine x_gr ?_ | refine x_st ?_ | refine x_mv ?_ | refine x_sk ?_ | refine zh1 ?_ | refine x_ix ?_ | refine zi1 ?_ | refine zj1 ?_ | refine zg1 ?_ | refine zt ?_ | refine x_ld ?_)
  refine zb4 120 cky ?_
  repeat (first | refine zi ?_ | refine ze ?_ | refine zg ?_ | refine zh ?_ | refine za fun C => ?_ | refine zf (by kernel_rfl) (by kernel_rfl) fun C => ?_ | refine zd ?_ | refine zf1 ?_ | refine x_bs ?_ | refine x_gr ?_ | refine x_st ?_ | refine x_mv ?_ | refine x_sk ?_ | refine zh1 ?_ | refine x_ix ?_ | refine zi1 ?_ | refine zj1 ?_ | refine zg1 ?_ | refine zt ?_ | refine x_ld ?_)
  refine zn1 (by rfl) (fun h2 => ?_) fun h2 => ?_
  · simp at h2
  repeat (first | refine zi ?_ | refine ze ?_ | refine zg ?_ | refine zh ?_ | refine za fun C => ?_ | refine zf (by kernel_rfl) (by kernel_rfl) fun C => ?_ | refine zd ?_ | refine zf1 ?_ | refine x_bs ?_ | refine x_gr ?_ | refine x_st ?_ | refine x_mv ?_ | refine x_sk ?_ | refine zh1 ?_ | refine x_ix ?_ | refine zi1 ?_ | refine zj1 ?_ | refine zg1 ?_ | refine zt ?_ | refine x_ld ?_)
  refine zn1 (by rfl) (fun h3 => ?_) fun h3 => ?_
  · exact absurd (of_decide_eq_true h3) (by omega)
  repeat (first | refine zi ?_ | refine ze ?_ | refine zg ?_ | refine zh ?_ | refine za fun C => ?_ | refine zf (by kernel_rfl) (by kernel_rfl) fun C => ?_ | refine zd ?_ | refine zf1 ?_ | refine x_bs ?_ | refine x_gr ?_ | refine x_st ?_ | refine x_mv ?_ | refine x_sk ?_ | refine zh1 ?_ | refine x_ix ?_ | refine zi1 ?_ | refine zj1 ?_ | refine zg1 ?_ | refine zt ?_ | refine x_ld ?_)
  refine za2 (ze5 (i := 101) (j := 102) rfl rfl rfl (pre := (owL (l2.take k) ++ [.v (.string y0)])) (post := owL (l2.drop (k + 1))) rfl) ?_
  refine za2 (ze5 (i := 0) (j := 100) rfl rfl rfl (pre := []) (post := [_]) rfl) ?_
  refine za2 (ze5 (i := 0) (j := 101) rfl rfl rfl (pre := [_]) (post := []) rfl) ?_
  refine zq ?_
  have e1 : spl (owL y1) (i * 4 + 1) [.v (.int .i64 v0), .v (.int .i64 v1), .v (.string v2)] = owL (y1.set i (.agg [.str q, .agg [.int .i64 v0, .int .i64 v1, .str v2]])) := zr15 hk1 hz (by simp) rfl
  refine retL (x := .c (.v (.bool true))) (cs := [.ow 34 l.length 4 (owL l), .ow 80 l2.length 2 ((owL (l2.take k) ++ [.v (.string y0)]) ++ .ow 82 y1.length 4 (spl (owL y1) (i * 4 + 1) [.v (.int .i64 v0), .v (.int .i64 v1), .v (.string v2)]) :: owL (l2.drop (k + 1)))]) rfl zj4 rfl ?_ rfl ⟨rfl, ?_⟩
  · rw [e1]; first | rfl | (simp [cloV, cloL, clo, zo, zn, zp, zl, zk]; done)
  · rw [e1]
set_option maxHeartbeats 600000 in
theorem zq21 {x0A x1A : Option Addr} {x0c x1c : Nat} {l l2 : List E} {v0 v1 : Int} {v2 nm s : ByteArray} (hlen : l.length ≤ 1048576) (hlen2 : l2.length ≤ 1048576) (ca : Ctr Try.prog 100 [.ag (acE (E.agg [.lst 4 34 x0A x0c l, .lst 2 80 x1A x1c l2])), .c (.v (.string nm))] [] (.c (.v (.int .i64 (-1)))) []) :
    Ctr Try.prog 59 [.c (.pt 0 0), .c (.v (.string nm)), .c (.v (.string s)), .ag (acE (.agg [.int .i64 v0, .int .i64 v1, .str v2]))] [owE (E.agg [.lst 4 34 x0A x0c l, .lst 2 80 x1A x1c l2])] (.c (.v (.bool false))) [owE (E.agg [.lst 4 34 x0A x0c l, .lst 2 80 x1A x1c l2])] := by
  refine zt1 Try.func59 rfl rfl ?_
  refine za2 (zf5 100 (i := 0) rfl rfl (pre := []) (post := [_]) rfl) ?_
  refine za2 (zf5 101 (i := 0) rfl rfl (pre := [_]) (post := []) rfl) ?_
  repeat (first | refine zi ?_ | refine ze ?_ | refine zg ?_ | refine zh ?_ | refine za fun C => ?_ | refine zf (by kernel_rfl) (by kernel_rfl) fun C => ?_ | refine zd ?_ | refine zf1 ?_ | refine x_bs ?_ | refine x_gr ?_ | refine x_st ?_ | refine x_mv ?_ | refine x_sk ?_ | refine zh1 ?_ | refine x_ix ?_ | refine zi1 ?_ | refine zj1 ?_ | refine zg1 ?_ | refine zt ?_ | refine x_ld ?_)
  refine zb4 110 ca ?_
  repeat (first | refine zi ?_ | refine ze ?_ | refine zg ?_ | refine zh ?_ | refine za fun C => ?_ | refine zf (by kernel_rfl) (by kernel_rfl) fun C => ?_ | refine zd ?_ | refine zf1 ?_ | refine x_bs ?_ | refine x_gr ?_ | refine x_st ?_ | refine x_mv ?_ | refine x_sk ?_ | refine zh1 ?_ | refine x_ix ?_ | refine zi1 ?_ | refine zj1 ?_ | refine zg1 ?_ | refine zt ?_ | refine x_ld ?_)
  refine zn1 (by rfl) (fun h1 => ?_) fun h1 => ?_
  rotate_left
  · simp at h1
  repeat (first | refine zi ?_ | refine ze ?_ | refine zg ?_ | refine zh ?_ | refine za fun C => ?_ | refine zf (by kernel_rfl) (by kernel_rfl) fun C => ?_ | refine zd ?_ | refine zf1 ?_ | refine x_bs ?_ | refine x_gr ?_ | refine x_st ?_ | refine x_mv ?_ | refine x_sk ?_ | refine zh1 ?_ | refine x_ix ?_ | refine zi1 ?_ | refine zj1 ?_ | refine zg1 ?_ | refine zt ?_ | refine x_ld ?_)
  refine za2 (ze5 (i := 0) (j := 100) rfl rfl rfl (pre := []) (post := [_]) rfl) ?_
  refine za2 (ze5 (i := 0) (j := 101) rfl rfl rfl (pre := [_]) (post := []) rfl) ?_
  refine zq ?_
  refine retL (x := .c (.v (.bool false))) rfl zj4 rfl ?_ rfl ⟨rfl, rfl⟩
  first | rfl | (simp [cloV, cloL, clo, zo, zn, zp, zl, zk]; done)
theorem zt9 {e v : E} (he : e.Ty Try.prog 27) (hv : v.Ty Try.prog 29) (nm s : ByteArray) (hsz : e.sz ≤ 1048576) : Ctr Try.prog 59 [.c (.pt 0 0), .c (.v (.string nm)), .c (.v (.string s)), .ag (acE v)] [owE e] (.c (.v (.bool (putOk e nm s)))) [owE (putE e nm s v)] := by
  have ca := zl20 he nm hsz
  obtain ⟨x0A, x0c, l, x1A, x1c, l2, rfl, ⟨hl, hk⟩, ⟨hl2, hk2⟩, -⟩ := zz2 he
  have hlen : l.length ≤ 1048576 := by simp only [E.sz, E.szL] at hsz; omega
  have hlen2 : l2.length ≤ 1048576 := by simp only [E.sz, E.szL] at hsz; omega
  obtain ⟨v0, v1, v2, rfl, -⟩ := zh4 hv
  rcases zu3 (isNm nm) l2 with h0 | ⟨k, h0, hlt⟩
  · rw [show tabsE _ = l2 from rfl, h0] at ca
    obtain ⟨p1, p2⟩ := zi6 (x0A := x0A) (x1A := x1A) (x0c := x0c) (x1c := x1c) (k := 4) (k' := 2) (T := 34) (T' := 80) (l := l) (s := s) (v := .agg [.int .i64 v0, .int .i64 v1, .str v2]) h0
    rw [p1, p2]
    exact zq21 hlen hlen2 ca
  · rw [show tabsE _ = l2 from rfl, h0] at ca
    obtain ⟨x, hx⟩ : ∃ x, l2[k]? = some x := ⟨_, List.getElem?_eq_getElem hlt⟩
    have hxt := hl2 x (List.mem_of_getElem? hx)
    have hxs : x.sz ≤ 1048576 := by
      have := E.szL_mem (List.mem_of_getElem? hx)
      simp only [E.sz, E.szL] at hsz; omega
    have cky := zz17 hxt s hxs
    obtain ⟨y0, y1A, y1c, y1, rfl, hy0, ⟨hy1, hy1k⟩, -⟩ := zh2 hxt
    have hy1l : y1.length ≤ 1048576 := by simp only [E.sz, E.szL] at hxs; omega
    obtain ⟨p1, p2⟩ := zj6 (x0A := x0A) (x1A := x1A) (x0c := x0c) (x1c := x1c) (k := 4) (k' := 2) (T := 34) (T' := 80) (l := l) (s := s) (v := .agg [.int .i64 v0, .int .i64 v1, .str v2]) h0 hx
    rw [p1, p2]
    have hr : ∀ m : List E, [owE (.agg [.lst 4 34 none 0 l, .lst 2 80 none 0 (l2.set k (.agg [.str y0, .lst 4 82 none 0 m]))])] = [[.ow 34 l.length 4 (owL l), .ow 80 l2.length 2 ((owL (l2.take k) ++ [.v (.string y0)]) ++ .ow 82 m.length 4 (owL m) :: owL (l2.drop (k + 1)))]] := by
      intro m
      simp only [owE, owL, List.length_set, List.append_nil]
      rw [zp11 hlt]; rfl
    rcases zu3 (isNm s) y1 with j0 | ⟨i, j0, hit⟩
    · rw [show tabsE _ = y1 from rfl, j0] at cky
      by_cases h20 : 20 ≤ y1.length
      · obtain ⟨q1, q2⟩ := zt10 (v := .agg [.int .i64 v0, .int .i64 v1, .str v2]) j0 h20
        rw [q1, q2, hr]
        exact zn21 hk2 hlen hlen2 hy1l hlt hx ca h20 cky
      · obtain ⟨q1, q2⟩ := zu12 (v := .agg [.int .i64 v0, .int .i64 v1, .str v2]) j0 h20
        rw [q1, q2, hr, List.length_append]
        exact zo21 hk2 hlen hlen2 hy1l hlt hx ca h20 cky
    · rw [show tabsE _ = y1 from rfl, j0] at cky
      obtain ⟨z, hz⟩ : ∃ z, y1[i]? = some z := ⟨_, List.getElem?_eq_getElem hit⟩
      obtain ⟨z0, z1, z2, z3, rfl, hz0⟩ := zh3 (hy1 z (List.mem_of_getElem? hz))
      obtain ⟨q1, q2⟩ := zv12 (v := .agg [.int .i64 v0, .int .i64 v1, .str v2]) j0 hz
      rw [q1, q2, hr, List.length_set]
      exact zp21 hk2 hlen hlen2 hy1l hlt hx ca hy1k hit hz cky
theorem zt13 (w : World) (g n cap i : Nat) (cur : Array Value) (us : List Value) (hi : i < n) (hn : n ≤ cap) (hc : cap ≤ maxLen) (hh : w.heap[g]? = some (.cells cur 82 (0, 0))) (hs : cur.size = cap * 4) (h1 : ∀ u ∈ cur.toList.take (n * 4), u.oneCell' = true) :
    Calls Try.prog 60 #[.slice (some ⟨g, 0, none⟩) n cap, .int .i64 i, .int .i64 ((i : Int) + 1)] w fun e w' => e = .returned (.slice (some ⟨g, 0, none⟩) (n - 1) cap) ∧
      ∃ cur', Stp (some g) w w' ∧ w'.heap[g]? = some (.cells cur' 82 (0, 0)) ∧ cur'.size = cap * 4 ∧ cur'.toList.take ((n - 1) * 4) = cur.toList.take (i * 4) ++ ((cur.toList.take (n * 4)).drop ((i + 1) * 4)) := by
  go_enter Try.func60, Try.ntmps60
  unfold maxLen at hc
  have a1 : (i : Int) + 1 ≤ n := by omega
  have a2 : (n : Int) ≤ cap := by omega
  have a3 : (0 : Int) ≤ i := by omega
  have a4 : (i : Int) ≤ (i : Int) + 1 := by omega
  have a5 : ((i : Int) == (i : Int) + 1) = false := by simp; omega
  have a6 : (i : Int) ≤ cap := by omega
  have a7 : (0 : Int) ≤ (i : Int) + 1 := by omega
  have hl0 : (cur.toList.take (n * 4)).length = n * 4 := by
    rw [List.length_take, Array.length_toList, hs]
    exact Nat.min_eq_left (Nat.mul_le_mul_right 4 hn)
  have hsrc : ((cur.toList.take (n * 4)).drop ((i + 1) * 4)).length = (n - (i + 1)) * 4 := by
    rw [List.length_drop, hl0, ← Nat.sub_mul]
  have hcell : ∀ j v, ((cur.toList.take (n * 4)).drop ((i + 1) * 4))[j]? = some v → w.drew.cell? ((⟨g, (i + 1) * 4, none⟩ : Addr).add j) = some v := by
    intro j v hv
    rw [List.getElem?_drop] at hv
    have hlt : (i + 1) * 4 + j < n * 4 := by
      have := (List.getElem?_eq_some_iff.1 hv).1
      omega
    rw [List.getElem?_take_of_lt hlt, Array.getElem?_toList] at hv
    rw [Addr.add_lit]
    simp only [World.cell?]
    have hh' : w.drew.heap[g]? = some (.cells cur 82 (0, 0)) := hh
    rw [hh']
    exact hv
  have hld : (loadCellsFrom (⟨g, (i + 1) * 4, none⟩ : Addr) 0 ((n - (i + 1)) * 4) #[]).run Try.prog w.drew = .ok ((cur.toList.take (n * 4)).drop ((i + 1) * 4)).toArray w.drew := by
    have := run_loadCells_list (P := Try.prog) w.drew _ _ hcell
    rw [hsrc] at this
    exact this
  have hst := run_storeCells_at Try.prog g (i * 4) 82 ((cur.toList.take (n * 4)).drop ((i + 1) * 4)) 0 cur w.drew hh (by rw [hsrc, hs]; omega) (fun u hu => h1 u (List.mem_of_mem_drop hu))
  simp only [Nat.add_zero] at hst
  obtain ⟨c1, hc1⟩ : ∃ c1, c1 = (cur.toList.take (i * 4) ++ (cur.toList.take (n * 4)).drop ((i + 1) * 4) ++ cur.toList.drop (i * 4 + ((cur.toList.take (n * 4)).drop ((i + 1) * 4)).length)).toArray := ⟨_, rfl⟩
  rw [← hc1] at hst
  have hs1 : c1.size = cap * 4 := by
    rw [hc1]
    simp only [List.size_toArray, List.length_append, List.length_take, List.length_drop, Array.length_toList, hs, hl0]
    omega
  have hh1 : (w.drew.setRow g c1).heap[g]? = some (.cells c1 82 (0, 0)) := setRow_heap _ g cur _ _ _ hh
  have e3 : i + (n - (i + 1)) = n - 1 := by omega
  have e4 : n - (n - 1) = 1 := by omega
  obtain ⟨c2, hc2⟩ : ∃ c2, c2 = (c1.toList.take ((n - 1) * 4) ++ [Value.string ByteArray.empty, .int .i64 0, .int .i64 0, .string ByteArray.empty] ++ c1.toList.drop ((n - 1) * 4 + 4)).toArray := ⟨_, rfl⟩
  have hclr : ∀ c, (Builtin.clear_ #[78] 0 #[.slice (some ⟨g, (n - 1) * 4, none⟩) 1 c]).run Try.prog (w.drew.setRow g c1) = .ok (.tuple #[]) ((w.drew.setRow g c1).setRow g c2) := by
    intro c
    have hz : ∀ W, (zeroValue 82).run Try.prog W = .ok (.agg #[.string ByteArray.empty, .int .i64 0, .int .i64 0, .string ByteArray.empty]) W := fun W => by
      simp [zeroValue, typeInfo]; rfl
    have hst2 := run_storeCells_at Try.prog g ((n - 1) * 4) 82 [Value.string ByteArray.empty, .int .i64 0, .int .i64 0, .string ByteArray.empty] 0 c1 (w.drew.setRow g c1) hh1 (by rw [hs1]; simp; omega) (by intro v hv; simp at hv; rcases hv with rfl | rfl | rfl | rfl <;> rfl)
    simp only [Nat.add_zero] at hst2
    have hzc : (Builtin.zeroCells (Value.agg #[.string ByteArray.empty, .int .i64 0, .int .i64 0, .string ByteArray.empty]).cells 1).toList = [Value.string ByteArray.empty, .int .i64 0, .int .i64 0, .string ByteArray.empty] := by
      kernel_rfl
    simp only [List.length_cons, List.length_nil, Nat.zero_add, Nat.reduceAdd, ← hc2] at hst2
    simp [Builtin.clear_, run_underlying Try.underlying78, hz, hzc, hst2]
  have hfin : Stp (some g) w ((w.drew.setRow g c1).setRow g c2) ∧ ((w.drew.setRow g c1).setRow g c2).heap[g]? = some (.cells c2 82 (0, 0)) ∧ c2.size = cap * 4 ∧ c2.toList.take ((n - 1) * 4) = cur.toList.take (i * 4) ++ ((cur.toList.take (n * 4)).drop ((i + 1) * 4)) := by
    refine ⟨⟨rfl, rfl, rfl, by simp, fun j hj hn => ?_⟩, setRow_heap _ g c1 _ _ _ hh1, ?_, ?_⟩
    · have hjg : j ≠ g := fun e => hn (by rw [e])
      rw [setRow_other _ g j c2 hjg, setRow_other _ g j c1 hjg]; rfl
    · rw [hc2]
      simp only [List.size_toArray, List.length_append, List.length_take, List.length_drop, Array.length_toList, hs1, List.length_cons, List.length_nil]
      omega
    · have h4 : (c1.toList.take ((n - 1) * 4)).length = (n - 1) * 4 := by
        rw [List.length_take, Array.length_toList, hs1]; omega
      rw [hc2, List.append_assoc, List.take_left' h4, hc1, List.take_left']
      rw [List.length_append, hsrc, List.length_take, Array.length_toList, hs]
      omega
  clear hc1 hc2 hsrc hcell hl0 hs1
  rcases Nat.lt_or_ge (i + 1) cap with hlt | hge
  · have a8 : ¬ cap = i + 1 := by omega
    go_wp2
    go_still_tail 6, (by kernel_rfl)
    go_wp2
    go_ret
    exact ⟨rfl, c2, hfin⟩
  · obtain rfl : n = i + 1 := by omega
    obtain rfl : cap = i + 1 := by omega
    have e5 : i + 1 - (i + 1) = 0 := by omega
    rw [e5, Nat.zero_mul] at hld
    have hld0 : (cur.toList.take ((i + 1) * 4)).drop ((i + 1) * 4) = [] := List.drop_eq_nil_of_le (by rw [List.length_take]; omega)
    rw [hld0] at hst
    have e6 : ∀ W : World, (loadCellsFrom (⟨g, 0, none⟩ : Addr) 0 0 #[]).run Try.prog W = .ok #[] W := fun W => by simp [loadCellsFrom]
    have hw : w.drew.setRow g c1 = w.drew := by
      have : (storeCells (⟨g, i * 4, none⟩ : Addr) []).run Try.prog w.drew = .ok () w.drew := by simp [storeCells]
      rw [this] at hst
      injection hst with _ hst
      exact hst.symm
    rw [hw] at hfin hst
    simp only [hw, Nat.add_sub_cancel] at hclr hfin e3 e4 ⊢
    clear hw
    go_wp2
    go_still_tail 6, (by kernel_rfl)
    go_wp2
    go_ret
    exact ⟨rfl, c2, hfin⟩
theorem za18 {l : List AC} {n i : Nat} {z : Int} (hz : z = (i : Int) + 1) (hl : l.length = n * 4) (hnu : l.all noUn = true) (hi : i < n) : CtrT Try.prog 60 [.c .un, .c (.v (.int .i64 i)), .c (.v (.int .i64 z))] 0 82 4 n l (.c (.ow 82 (n - 1) 4 (l.take (i * 4) ++ l.drop ((i + 1) * 4)))) none := by
  subst hz
  refine ⟨by kernel_rfl, fun w St us A hE => ?_⟩
  obtain ⟨u, vs, fs, hu, g1, ⟨hlen, ⟨_, h0⟩ | ⟨g, cap, cur, rfl, _, hh, hn, hc, hs, ht⟩⟩, hA⟩ := hE.row
  · omega
  have hargs := hE.args
  simp only [VRL] at hargs
  obtain ⟨a0, r0, rfl, _, a1, r1, rfl, h1, a2, r2, rfl, h2, rfl⟩ := hargs
  simp only [VR, CR] at h1 h2
  obtain ⟨rfl, -⟩ := h1
  obtain ⟨rfl, -⟩ := h2
  have hu' : a0 = .slice (some ⟨g, 0, none⟩) n cap := by simpa using hu
  subst hu'
  have hone := g1.one hnu
  refine (zt13 w g n cap i cur vs hi hn hc hh hs (by rw [ht]; exact hone)).mono ?_
  rintro e w' ⟨rfl, cur', hstp, hh', hs', ht'⟩
  rw [ht] at ht'
  obtain ⟨us1, us2, f1, f2, e1, e2, q1, q2⟩ := CRL.split (l := l.take ((i + 1) * 4)) (r := l.drop ((i + 1) * 4)) (by rw [List.take_append_drop]; exact g1)
  have hle : (i + 1) * 4 ≤ n * 4 := Nat.mul_le_mul_right 4 (show i + 1 ≤ n from hi)
  have hl1 : us1.length = (i + 1) * 4 := by rw [q1.len, List.length_take]; omega
  obtain ⟨us3, us4, f3, f4, e3, e4, q3, q4⟩ := CRL.split (l := l.take (i * 4)) (r := (l.take ((i + 1) * 4)).drop (i * 4)) (by
    have : l.take (i * 4) = (l.take ((i + 1) * 4)).take (i * 4) := by rw [List.take_take, Nat.min_eq_left (Nat.mul_le_mul_right 4 (by omega))]
    rw [this, List.take_append_drop]; exact q1)
  have hl3 : us3.length = i * 4 := by rw [q3.len, List.length_take]; omega
  have hres : vs.take (i * 4) ++ vs.drop ((i + 1) * 4) = us3 ++ us2 := by
    rw [e1, List.drop_left' hl1, List.take_append_of_le_length (by rw [hl1]; exact Nat.mul_le_mul_right 4 (by omega)), e3, List.take_left' hl3]
  have htk : cur.toList.take (i * 4) = vs.take (i * 4) := by rw [← ht, List.take_take, Nat.min_eq_left (Nat.mul_le_mul_right 4 (Nat.le_of_lt hi))]
  rw [htk, hres] at ht'
  have hblk : ∀ b, b < w.heap.size → b ≠ g → w'.heap[b]? = w.heap[b]? := fun b hb hne => hstp.blk b hb (fun e => hne (by injection e))
  have hnd := hE.nod
  subst hA
  have hob : obl (.slice (some ⟨g, 0, none⟩) n cap) = [g] := rfl
  rw [hob] at hnd
  have hnd' := List.nodup_cons.1 (by simpa using hnd)
  have hfs : ∀ b ∈ f3 ++ f2, b ∈ fs := fun b hb => by
    rw [e2, e4]
    rcases List.mem_append.1 hb with h | h
    · exact List.mem_append_left _ (List.mem_append_left _ h)
    · exact List.mem_append_right _ h
  have hkeep : ∀ b ∈ f3 ++ f2, w'.heap[b]? = w.heap[b]? := fun b hb => hblk b (g1.lt b (hfs b hb)) fun e => hnd'.1 (e ▸ hfs b hb)
  have hcr : CRL w' (fun b => St b ∧ b < w.heap.size) φ0 K0 (l.take (i * 4) ++ l.drop ((i + 1) * 4)) (us3 ++ us2) (f3 ++ f2) := (q3.app q2).mono (fun b hb hlt => ⟨⟨hb, hlt⟩, hblk b hlt fun e => by
    subst e; exact hE.st b (by rw [hob]; simp) hb⟩) hstp.size (fun i hi => ⟨hi, rfl⟩) hkeep
  refine ⟨_, fun b => St b ∧ b < w.heap.size, g :: (f3 ++ f2), [], rfl, ⟨hstp.os, hstp.tape, hstp.output, hstp.size, fun b hb hn => .inl (hblk b hb fun e => hn (by rw [hob, e]; simp))⟩, ?_, fun cs' hc' => (by cases hc'), ?_, fun b hb => .inl ?_⟩
  · simp only [VRF, CR]
    refine ⟨_, _, hcr, ⟨?_, .inr ⟨g, cap, cur', rfl, Nat.zero_le _, hh', by omega, hc, hs', ht'⟩⟩, rfl⟩
    rw [List.length_append, hl3, q2.len, List.length_drop, hl]; omega
  · rw [List.append_nil]
    refine List.nodup_cons.2 ⟨fun hm => hnd'.1 (hfs g hm), ?_⟩
    have := hnd'.2
    rw [e2, e4, List.append_assoc] at this
    obtain ⟨n1, n2, n3⟩ := List.nodup_append.1 this
    obtain ⟨_, m2, _⟩ := List.nodup_append.1 n2
    exact List.nodup_append.2 ⟨n1, m2, fun a ha b hb => n3 a ha b (List.mem_append_right _ hb)⟩
  · rw [List.append_nil] at hb
    rw [hob]
    rcases List.mem_cons.1 hb with rfl | hb
    · simp
    · simp [hfs b hb]
end Go.Proofs.Ytghljnfbbaklnaa
