/- spec.l14Put, spec.PutEntry: by the abstract machine. -/
import Derived.Lib.SliceRun
import Derived.Shelf.LaysM
import Derived.Shelf.Strconv.Itoa3
import Derived.Test.YtghljnfbbaklnaaVarsJ
namespace Go.Proofs.Ytghljnfbbaklnaa
open Go.RowKit
set_option maxRecDepth 100000
def putL (l : List E) (s : ByteArray) (v : E) : List E := match l.findIdx? (isNm s) with | some i => l.set i (.agg [.str (nmE (l[i]?.getD v)), v]) | none => if 20 ≤ l.length then l else l ++ [.agg [.str s, v]]
def putOkL (l : List E) (s : ByteArray) : Bool := match l.findIdx? (isNm s) with | some _ => true | none => !decide (20 ≤ l.length)
def putE (e : E) (nm s : ByteArray) (v : E) : E := .agg [.lst 4 34 none 0 (varsE e), .lst 2 80 none 0 (match (tabsE e).findIdx? (isNm nm) with
  | some k => (tabsE e).set k (.agg [.str (nmE ((tabsE e)[k]?.getD e)), .lst 4 82 none 0 (putL (tabsE ((tabsE e)[k]?.getD e)) s v)]) | none => tabsE e)]
def putOk (e : E) (nm s : ByteArray) : Bool := match (tabsE e).findIdx? (isNm nm) with | some k => putOkL (tabsE ((tabsE e)[k]?.getD e)) s | none => false
theorem zv9 {x0A x1A : Option Addr} {x0c x1c k k' : Nat} {T T' : TypeId} {l l2 : List E} {nm s : ByteArray} {v : E} (h : idxF (isNm nm) l2 = -1) : putE (.agg [.lst k T x0A x0c l, .lst k' T' x1A x1c l2]) nm s v = .agg [.lst 4 34 none 0 l, .lst 2 80 none 0 l2] ∧ putOk (.agg [.lst k T x0A x0c l, .lst k' T' x1A x1c l2]) nm s = false := by
  simp [putE, putOk, varsE, tabsE, zx5 h]
theorem zw9 {x0A x1A zA : Option Addr} {x0c x1c zc k k' kz : Nat} {T T' Tz : TypeId} {l l2 lz : List E} {nm s q : ByteArray} {v : E} {i : Nat} (h : idxF (isNm nm) l2 = (i : Int)) (hx : l2[i]? = some (.agg [.str q, .lst kz Tz zA zc lz])) :
    putE (.agg [.lst k T x0A x0c l, .lst k' T' x1A x1c l2]) nm s v = .agg [.lst 4 34 none 0 l, .lst 2 80 none 0 (l2.set i (.agg [.str q, .lst 4 82 none 0 (putL lz s v)]))] ∧ putOk (.agg [.lst k T x0A x0c l, .lst k' T' x1A x1c l2]) nm s = putOkL lz s := by
  simp [putE, putOk, varsE, tabsE, zj6 h, hx, nmE]
theorem zd15 {l2 : List E} {k c kz : Nat} {q : ByteArray} {T : TypeId} {A : Option Addr} {m : List E} (hx : l2[k]? = some (.agg [.str q, .lst kz T A c m])) : owL l2 = (owL (l2.take k) ++ [.v (.string q)]) ++ .ow T m.length kz (owL m) :: owL (l2.drop (k + 1)) := by
  rw [zl9 hx, List.append_assoc]; rfl
theorem zb19 {l2 : List E} {k c kz : Nat} {q : ByteArray} {T : TypeId} {A : Option Addr} {m : List E} (hk : k < l2.length) : owL (l2.set k (.agg [.str q, .lst kz T A c m])) = (owL (l2.take k) ++ [.v (.string q)]) ++ .ow T m.length kz (owL m) :: owL (l2.drop (k + 1)) := by
  rw [zn18 hk, List.append_assoc]; rfl
theorem ze15 {l : List E} {s : ByteArray} {v : E} (h : idxF (isNm s) l = -1) (hl : 20 ≤ l.length) : putL l s v = l ∧ putOkL l s = false := by simp [putL, putOkL, zx5 h, hl]
theorem zt16 {l : List E} {s : ByteArray} {v : E} (h : idxF (isNm s) l = -1) (hl : ¬ 20 ≤ l.length) : putL l s v = l ++ [.agg [.str s, v]] ∧ putOkL l s = true := by simp [putL, putOkL, zx5 h, hl]
theorem zu16 {l : List E} {s q : ByteArray} {v v0 : E} {i : Nat} (h : idxF (isNm s) l = (i : Int)) (hx : l[i]? = some (.agg [.str q, v0])) : putL l s v = l.set i (.agg [.str q, v]) ∧ putOkL l s = true := by simp [putL, putOkL, zj6 h, hx, nmE]
-- CASES
set_option maxHeartbeats 600000 in
theorem za20 {x0A x1A y1A : Option Addr} {x0c x1c y1c : Nat} {l l2 y1 : List E} {v0 v1 : Int} {v2 y0 nm s : ByteArray} {k : Nat} (hk2 : ∀ e ∈ l2, e.enc.length = 2) (hlen : l.length ≤ 1048576) (hlen2 : l2.length ≤ 1048576) (hy1l : y1.length ≤ 1048576) (hlt : k < l2.length) (hx : l2[k]? = some (.agg [.str y0, .lst 4 82 y1A y1c y1]))
    (ca : Ctr Try.prog 100 [.ag (acE (E.agg [.lst 4 34 x0A x0c l, .lst 2 80 x1A x1c l2])), .c (.v (.string nm))] [] (.c (.v (.int .i64 k))) []) (h20 : 20 ≤ y1.length) (cky : Ctr Try.prog 101 [.ag (acE (.agg [.str y0, .lst 4 82 y1A y1c y1])), .c (.v (.string s))] [] (.c (.v (.int .i64 (-1)))) []) :
    Ctr Try.prog 59 [.c (.pt 0 0), .c (.v (.string nm)), .c (.v (.string s)), .ag (acE (.agg [.int .i64 v0, .int .i64 v1, .str v2]))] [owE (E.agg [.lst 4 34 x0A x0c l, .lst 2 80 x1A x1c l2])] (.c (.v (.bool false))) [[.ow 34 l.length 4 (owL l), .ow 80 l2.length 2 ((owL (l2.take k) ++ [.v (.string y0)]) ++ .ow 82 y1.length 4 (owL y1) :: owL (l2.drop (k + 1)))]] := by
  have hP := zt5 (k := k) hk2 (Nat.le_of_lt hlt)
  have hs1 : subL ((owL (l2.take k) ++ [.v (.string y0)]) ++ .sl 102 y1.length :: owL (l2.drop (k + 1))) (k * 2) 2 = [.v (.string y0), .sl 102 y1.length] := zq8 hP
  have hs2 : subL ((owL (l2.take k) ++ [.v (.string y0)]) ++ .sl 102 y1.length :: owL (l2.drop (k + 1))) (k * 2 + 1) 1 = [.sl 102 y1.length] := zr8 hP
  have hle : k * 2 + 1 + 1 ≤ ((owL (l2.take k) ++ [AC.v (.string y0)]) ++ AC.sl 102 y1.length :: owL (l2.drop (k + 1))).length := by simp [hP]; omega
  refine zt1 Try.func59 rfl rfl ?_
  refine zu2 (za6 100 (i := 0) rfl rfl (pre := []) (post := [_]) rfl) ?_
  refine zu2 (za6 101 (i := 0) rfl rfl (pre := [_]) (post := []) rfl) ?_
  repeat (first | refine zl ?_ | refine zf ?_ | refine zh ?_ | refine zi ?_ | refine zb fun C => ?_ | refine ze (by kernel_rfl) (by kernel_rfl) fun C => ?_ | refine zd ?_ | refine zp1 ?_ | refine x_bs ?_ | refine x_gr ?_ | refine x_st ?_ | refine x_mv ?_ | refine x_sk ?_ | refine zz1 ?_ | refine x_ix ?_ | refine za2 ?_ | refine zb2 ?_ | refine zs1 ?_ | refine ze1 ?_ | refine x_ld ?_)
  refine za5 110 ca ?_
  repeat (first | refine zl ?_ | refine zf ?_ | refine zh ?_ | refine zi ?_ | refine zb fun C => ?_ | refine ze (by kernel_rfl) (by kernel_rfl) fun C => ?_ | refine zd ?_ | refine zp1 ?_ | refine x_bs ?_ | refine x_gr ?_ | refine x_st ?_ | refine x_mv ?_ | refine x_sk ?_ | refine zz1 ?_ | refine x_ix ?_ | refine za2 ?_ | refine zb2 ?_ | refine zs1 ?_ | refine ze1 ?_ | refine x_ld ?_)
  refine zd2 (by rfl) (fun h1 => ?_) fun h1 => ?_
  · exact absurd (of_decide_eq_true h1) (by omega)
  refine zu2 (za6 102 (i := 101) rfl rfl (pre := (owL (l2.take k) ++ [.v (.string y0)])) (post := owL (l2.drop (k + 1))) (zd15 hx)) ?_
  repeat (first | refine zl ?_ | refine zf ?_ | refine zh ?_ | refine zi ?_ | refine zb fun C => ?_ | refine ze (by kernel_rfl) (by kernel_rfl) fun C => ?_ | refine zd ?_ | refine zp1 ?_ | refine x_bs ?_ | refine x_gr ?_ | refine x_st ?_ | refine x_mv ?_ | refine x_sk ?_ | refine zz1 ?_ | refine x_ix ?_ | refine za2 ?_ | refine zb2 ?_ | refine zs1 ?_ | refine ze1 ?_ | refine x_ld ?_)
  refine za5 120 cky ?_
  repeat (first | refine zl ?_ | refine zf ?_ | refine zh ?_ | refine zi ?_ | refine zb fun C => ?_ | refine ze (by kernel_rfl) (by kernel_rfl) fun C => ?_ | refine zd ?_ | refine zp1 ?_ | refine x_bs ?_ | refine x_gr ?_ | refine x_st ?_ | refine x_mv ?_ | refine x_sk ?_ | refine zz1 ?_ | refine x_ix ?_ | refine za2 ?_ | refine zb2 ?_ | refine zs1 ?_ | refine ze1 ?_ | refine x_ld ?_)
  refine zd2 (by rfl) (fun h2 => ?_) fun h2 => ?_
  rotate_left
  · exact absurd (of_decide_eq_false h2) (by omega)
  repeat (first | refine zl ?_ | refine zf ?_ | refine zh ?_ | refine zi ?_ | refine zb fun C => ?_ | refine ze (by kernel_rfl) (by kernel_rfl) fun C => ?_ | refine zd ?_ | refine zp1 ?_ | refine x_bs ?_ | refine x_gr ?_ | refine x_st ?_ | refine x_mv ?_ | refine x_sk ?_ | refine zz1 ?_ | refine x_ix ?_ | refine za2 ?_ | refine zb2 ?_ | refine zs1 ?_ | refine ze1 ?_ | refine x_ld ?_)
  refine zu2 (zz5 (i := 101) (j := 102) rfl rfl rfl (pre := (owL (l2.take k) ++ [.v (.string y0)])) (post := owL (l2.drop (k + 1))) rfl) ?_
  refine zu2 (zz5 (i := 0) (j := 100) rfl rfl rfl (pre := []) (post := [_]) rfl) ?_
  refine zu2 (zz5 (i := 0) (j := 101) rfl rfl rfl (pre := [_]) (post := []) rfl) ?_
  refine zu ?_
  refine retL (x := .c (.v (.bool false))) rfl zb5 rfl ?_ rfl ⟨rfl, rfl⟩
  first | rfl | (simp [cloV, cloL, clo, zo, zn, zp, zm, zk]; done)
set_option maxHeartbeats 600000 in
theorem zb20 {x0A x1A y1A : Option Addr} {x0c x1c y1c : Nat} {l l2 y1 : List E} {v0 v1 : Int} {v2 y0 nm s : ByteArray} {k : Nat} (hk2 : ∀ e ∈ l2, e.enc.length = 2) (hlen : l.length ≤ 1048576) (hlen2 : l2.length ≤ 1048576) (hy1l : y1.length ≤ 1048576) (hlt : k < l2.length) (hx : l2[k]? = some (.agg [.str y0, .lst 4 82 y1A y1c y1]))
    (ca : Ctr Try.prog 100 [.ag (acE (E.agg [.lst 4 34 x0A x0c l, .lst 2 80 x1A x1c l2])), .c (.v (.string nm))] [] (.c (.v (.int .i64 k))) []) (h20 : ¬ 20 ≤ y1.length) (cky : Ctr Try.prog 101 [.ag (acE (.agg [.str y0, .lst 4 82 y1A y1c y1])), .c (.v (.string s))] [] (.c (.v (.int .i64 (-1)))) []) :
    Ctr Try.prog 59 [.c (.pt 0 0), .c (.v (.string nm)), .c (.v (.string s)), .ag (acE (.agg [.int .i64 v0, .int .i64 v1, .str v2]))] [owE (E.agg [.lst 4 34 x0A x0c l, .lst 2 80 x1A x1c l2])] (.c (.v (.bool true))) [[.ow 34 l.length 4 (owL l), .ow 80 l2.length 2 ((owL (l2.take k) ++ [.v (.string y0)]) ++ .ow 82 (y1.length + 1) 4 (owL (y1 ++ [.agg [.str s, (.agg [.int .i64 v0, .int .i64 v1, .str v2])]])) :: owL (l2.drop (k + 1)))]] := by
  have hP := zt5 (k := k) hk2 (Nat.le_of_lt hlt)
  have hs1 : subL ((owL (l2.take k) ++ [.v (.string y0)]) ++ .sl 102 y1.length :: owL (l2.drop (k + 1))) (k * 2) 2 = [.v (.string y0), .sl 102 y1.length] := zq8 hP
  have hs2 : subL ((owL (l2.take k) ++ [.v (.string y0)]) ++ .sl 102 y1.length :: owL (l2.drop (k + 1))) (k * 2 + 1) 1 = [.sl 102 y1.length] := zr8 hP
  have hle : k * 2 + 1 + 1 ≤ ((owL (l2.take k) ++ [AC.v (.string y0)]) ++ AC.sl 102 y1.length :: owL (l2.drop (k + 1))).length := by simp [hP]; omega
  refine zt1 Try.func59 rfl rfl ?_
  refine zu2 (za6 100 (i := 0) rfl rfl (pre := []) (post := [_]) rfl) ?_
  refine zu2 (za6 101 (i := 0) rfl rfl (pre := [_]) (post := []) rfl) ?_
  repeat (first | refine zl ?_ | refine zf ?_ | refine zh ?_ | refine zi ?_ | refine zb fun C => ?_ | refine ze (by kernel_rfl) (by kernel_rfl) fun C => ?_ | refine zd ?_ | refine zp1 ?_ | refine x_bs ?_ | refine x_gr ?_ | refine x_st ?_ | refine x_mv ?_ | refine x_sk ?_ | refine zz1 ?_ | refine x_ix ?_ | refine za2 ?_ | refine zb2 ?_ | refine zs1 ?_ | refine ze1 ?_ | refine x_ld ?_)
  refine za5 110 ca ?_
  repeat (first | refine zl ?_ | refine zf ?_ | refine zh ?_ | refine zi ?_ | refine zb fun C => ?_ | refine ze (by kernel_rfl) (by kernel_rfl) fun C => ?_ | refine zd ?_ | refine zp1 ?_ | refine x_bs ?_ | refine x_gr ?_ | refine x_st ?_ | refine x_mv ?_ | refine x_sk ?_ | refine zz1 ?_ | refine x_ix ?_ | refine za2 ?_ | refine zb2 ?_ | refine zs1 ?_ | refine ze1 ?_ | refine x_ld ?_)
  refine zd2 (by rfl) (fun h1 => ?_) fun h1 => ?_
  · exact absurd (of_decide_eq_true h1) (by omega)
  refine zu2 (za6 102 (i := 101) rfl rfl (pre := (owL (l2.take k) ++ [.v (.string y0)])) (post := owL (l2.drop (k + 1))) (zd15 hx)) ?_
  repeat (first | refine zl ?_ | refine zf ?_ | refine zh ?_ | refine zi ?_ | refine zb fun C => ?_ | refine ze (by kernel_rfl) (by kernel_rfl) fun C => ?_ | refine zd ?_ | refine zp1 ?_ | refine x_bs ?_ | refine x_gr ?_ | refine x_st ?_ | refine x_mv ?_ | refine x_sk ?_ | refine zz1 ?_ | refine x_ix ?_ | refine za2 ?_ | refine zb2 ?_ | refine zs1 ?_ | refine ze1 ?_ | refine x_ld ?_)
  refine za5 120 cky ?_
  repeat (first | refine zl ?_ | refine zf ?_ | refine zh ?_ | refine zi ?_ | refine zb fun C => ?_ | refine ze (by kernel_rfl) (by kernel_rfl) fun C => ?_ | refine zd ?_ | refine zp1 ?_ | refine x_bs ?_ | refine x_gr ?_ | refine x_st ?_ | refine x_mv ?_ | refine x_sk ?_ | refine zz1 ?_ | refine x_ix ?_ | refine za2 ?_ | refine zb2 ?_ | refine zs1 ?_ | refine ze1 ?_ | refine x_ld ?_)
  refine zd2 (by rfl) (fun h2 => ?_) fun h2 => ?_
  · exact absurd (of_decide_eq_true h2) (by omega)
  repeat (first | refine zl ?_ | refine zf ?_ | refine zh ?_ | refine zi ?_ | refine zb fun C => ?_ | refine ze (by kernel_rfl) (by kernel_rfl) fun C => ?_ | refine zd ?_ | refine zp1 ?_ | refine x_bs ?_ | refine x_gr ?_ | refine x_st ?_ | refine x_mv ?_ | refine x_sk ?_ | refine zz1 ?_ | refine x_ix ?_ | refine za2 ?_ | refine zb2 ?_ | refine zs1 ?_ | refine ze1 ?_ | refine x_ld ?_)
  refine zd2 (by rfl) (fun h3 => ?_) fun h3 => ?_
  rotate_left
  · simp at h3
  repeat (first | refine zl ?_ | refine zf ?_ | refine zh ?_ | refine zi ?_ | refine zb fun C => ?_ | refine ze (by kernel_rfl) (by kernel_rfl) fun C => ?_ | refine zd ?_ | refine zp1 ?_ | refine x_bs ?_ | refine x_gr ?_ | refine x_st ?_ | refine x_mv ?_ | refine x_sk ?_ | refine zz1 ?_ | refine x_ix ?_ | refine za2 ?_ | refine zb2 ?_ | refine zs1 ?_ | refine ze1 ?_ | refine x_ld ?_)
  refine zu2 (zz5 (i := 101) (j := 51) rfl rfl rfl (pre := (owL (l2.take k) ++ [.v (.string y0)])) (post := owL (l2.drop (k + 1))) (zo18 hP)) ?_
  refine zu2 (zz5 (i := 0) (j := 100) rfl rfl rfl (pre := []) (post := [_]) rfl) ?_
  refine zu2 (zz5 (i := 0) (j := 101) rfl rfl rfl (pre := [_]) (post := []) rfl) ?_
  refine zu ?_
  refine retL (x := .c (.v (.bool true))) (cs := [.ow 34 l.length 4 (owL l), .ow 80 l2.length 2 ((owL (l2.take k) ++ [.v (.string y0)]) ++ .ow 82 (y1.length + 1) 4 (owL y1 ++ [.v (.string s), .v (.int .i64 v0), .v (.int .i64 v1), .v (.string v2)]) :: owL (l2.drop (k + 1)))]) rfl zb5 rfl ?_ rfl ⟨rfl, ?_⟩
  · first | rfl | (simp [cloV, cloL, clo, zo, zn, zp, zm, zk]; done)
  · rw [zc6]; rfl
set_option maxHeartbeats 600000 in
theorem zc20 {x0A x1A y1A : Option Addr} {x0c x1c y1c : Nat} {l l2 y1 : List E} {v0 v1 : Int} {v2 y0 nm s : ByteArray} {k : Nat} (hk2 : ∀ e ∈ l2, e.enc.length = 2) (hlen : l.length ≤ 1048576) (hlen2 : l2.length ≤ 1048576) (hy1l : y1.length ≤ 1048576) (hlt : k < l2.length) (hx : l2[k]? = some (.agg [.str y0, .lst 4 82 y1A y1c y1]))
    (ca : Ctr Try.prog 100 [.ag (acE (E.agg [.lst 4 34 x0A x0c l, .lst 2 80 x1A x1c l2])), .c (.v (.string nm))] [] (.c (.v (.int .i64 k))) []) {i : Nat} {q w2 : ByteArray} {w0 w1 : Int} (hk1 : ∀ e ∈ y1, e.enc.length = 4) (hit : i < y1.length) (hz : y1[i]? = some (.agg [.str q, .agg [.int .i64 w0, .int .i64 w1, .str w2]])) (cky : Ctr Try.prog 101 [.ag (acE (.agg [.str y0, .lst 4 82 y1A y1c y1])), .c (.v (.string s))] [] (.c (.v (.int .i64 (i)))) []) :
    Ctr Try.prog 59 [.c (.pt 0 0), .c (.v (.string nm)), .c (.v (.string s)), .ag (acE (.agg [.int .i64 v0, .int .i64 v1, .str v2]))] [owE (E.agg [.lst 4 34 x0A x0c l, .lst 2 80 x1A x1c l2])] (.c (.v (.bool true))) [[.ow 34 l.length 4 (owL l), .ow 80 l2.length 2 ((owL (l2.take k) ++ [.v (.string y0)]) ++ .ow 82 y1.length 4 (owL (y1.set i (.agg [.str q, (.agg [.int .i64 v0, .int .i64 v1, .str v2])]))) :: owL (l2.drop (k + 1)))]] := by
  have hle2 : i * 4 + 1 + 3 ≤ (owL y1).length := zr10 hk1 hit (by omega)
  have hP := zt5 (k := k) hk2 (Nat.le_of_lt hlt)
  have hs1 : subL ((owL (l2.take k) ++ [.v (.string y0)]) ++ .sl 102 y1.length :: owL (l2.drop (k + 1))) (k * 2) 2 = [.v (.string y0), .sl 102 y1.length] := zq8 hP
  have hs2 : subL ((owL (l2.take k) ++ [.v (.string y0)]) ++ .sl 102 y1.length :: owL (l2.drop (k + 1))) (k * 2 + 1) 1 = [.sl 102 y1.length] := zr8 hP
  have hle : k * 2 + 1 + 1 ≤ ((owL (l2.take k) ++ [AC.v (.string y0)]) ++ AC.sl 102 y1.length :: owL (l2.drop (k + 1))).length := by simp [hP]; omega
  refine zt1 Try.func59 rfl rfl ?_
  refine zu2 (za6 100 (i := 0) rfl rfl (pre := []) (post := [_]) rfl) ?_
  refine zu2 (za6 101 (i := 0) rfl rfl (pre := [_]) (post := []) rfl) ?_
  repeat (first | refine zl ?_ | refine zf ?_ | refine zh ?_ | refine zi ?_ | refine zb fun C => ?_ | refine ze (by kernel_rfl) (by kernel_rfl) fun C => ?_ | refine zd ?_ | refine zp1 ?_ | refine x_bs ?_ | refine x_gr ?_ | refine x_st ?_ | refine x_mv ?_ | refine x_sk ?_ | refine zz1 ?_ | refine x_ix ?_ | refine za2 ?_ | refine zb2 ?_ | refine zs1 ?_ | refine ze1 ?_ | refine x_ld ?_)
  refine za5 110 ca ?_
  repeat (first | refine zl ?_ | refine zf ?_ | refine zh ?_ | refine zi ?_ | refine zb fun C => ?_ | refine ze (by kernel_rfl) (by kernel_rfl) fun C => ?_ | refine zd ?_ | refine zp1 ?_ | refine x_bs ?_ | refine x_gr ?_ | refine x_st ?_ | refine x_mv ?_ | refine x_sk ?_ | refine zz1 ?_ | refine x_ix ?_ | refine za2 ?_ | refine zb2 ?_ | refine zs1 ?_ | refine ze1 ?_ | refine x_ld ?_)
  refine zd2 (by rfl) (fun h1 => ?_) fun h1 => ?_
  · exact absurd (of_decide_eq_true h1) (by omega)
  refine zu2 (za6 102 (i := 101) rfl rfl (pre := (owL (l2.take k) ++ [.v (.string y0)])) (post := owL (l2.drop (k + 1))) (zd15 hx)) ?_
  repeat (first | refine zl ?_ | refine zf ?_ | refine zh ?_ | refine zi ?_ | refine zb fun C => ?_ | refine ze (by kernel_rfl) (by kernel_rfl) fun C => ?_ | refine zd ?_ | refine zp1 ?_ | refine x_bs ?_ | refine x_gr ?_ | refine x_st ?_ | refine x_mv ?_ | refine x_sk ?_ | refine zz1 ?_ | refine x_ix ?_ | refine za2 ?_ | refine zb2 ?_ | refine zs1 ?_ | refine ze1 ?_ | refine x_ld ?_)
  refine za5 120 cky ?_
  repeat (first | refine zl ?_ | refine zf ?_ | refine zh ?_ | refine zi ?_ | refine zb fun C => ?_ | refine ze (by kernel_rfl) (by kernel_rfl) fun C => ?_ | refine zd ?_ | refine zp1 ?_ | refine x_bs ?_ | refine x_gr ?_ | refine x_st ?_ | refine x_mv ?_ | refine x_sk ?_ | refine zz1 ?_ | refine x_ix ?_ | refine za2 ?_ | refine zb2 ?_ | refine zs1 ?_ | refine ze1 ?_ | refine x_ld ?_)
  refine zd2 (by rfl) (fun h2 => ?_) fun h2 => ?_
  · simp at h2
  repeat (first | refine zl ?_ | refine zf ?_ | refine zh ?_ | refine zi ?_ | refine zb fun C => ?_ | refine ze (by kernel_rfl) (by kernel_rfl) fun C => ?_ | refine zd ?_ | refine zp1 ?_ | refine x_bs ?_ | refine x_gr ?_ | refine x_st ?_ | refine x_mv ?_ | refine x_sk ?_ | refine zz1 ?_ | refine x_ix ?_ | refine za2 ?_ | refine zb2 ?_ | refine zs1 ?_ | refine ze1 ?_ | refine x_ld ?_)
  refine zd2 (by rfl) (fun h3 => ?_) fun h3 => ?_
  · exact absurd (of_decide_eq_true h3) (by omega)
  repeat (first | refine zl ?_ | refine zf ?_ | refine zh ?_ | refine zi ?_ | refine zb fun C => ?_ | refine ze (by kernel_rfl) (by kernel_rfl) fun C => ?_ | refine zd ?_ | refine zp1 ?_ | refine x_bs ?_ | refine x_gr ?_ | refine x_st ?_ | refine x_mv ?_ | refine x_sk ?_ | refine zz1 ?_ | refine x_ix ?_ | refine za2 ?_ | refine zb2 ?_ | refine zs1 ?_ | refine ze1 ?_ | refine x_ld ?_)
  refine zu2 (zz5 (i := 101) (j := 102) rfl rfl rfl (pre := (owL (l2.take k) ++ [.v (.string y0)])) (post := owL (l2.drop (k + 1))) rfl) ?_
  refine zu2 (zz5 (i := 0) (j := 100) rfl rfl rfl (pre := []) (post := [_]) rfl) ?_
  refine zu2 (zz5 (i := 0) (j := 101) rfl rfl rfl (pre := [_]) (post := []) rfl) ?_
  refine zu ?_
  have e1 : spl (owL y1) (i * 4 + 1) [.v (.int .i64 v0), .v (.int .i64 v1), .v (.string v2)] = owL (y1.set i (.agg [.str q, .agg [.int .i64 v0, .int .i64 v1, .str v2]])) := zq10 hk1 hz (by simp) rfl
  refine retL (x := .c (.v (.bool true))) (cs := [.ow 34 l.length 4 (owL l), .ow 80 l2.length 2 ((owL (l2.take k) ++ [.v (.string y0)]) ++ .ow 82 y1.length 4 (spl (owL y1) (i * 4 + 1) [.v (.int .i64 v0), .v (.int .i64 v1), .v (.string v2)]) :: owL (l2.drop (k + 1)))]) rfl zb5 rfl ?_ rfl ⟨rfl, ?_⟩
  · rw [e1]; first | rfl | (simp [cloV, cloL, clo, zo, zn, zp, zm, zk]; done)
  · rw [e1]
set_option maxHeartbeats 600000 in
theorem zd20 {x0A x1A : Option Addr} {x0c x1c : Nat} {l l2 : List E} {v0 v1 : Int} {v2 nm s : ByteArray} (hlen : l.length ≤ 1048576) (hlen2 : l2.length ≤ 1048576) (ca : Ctr Try.prog 100 [.ag (acE (E.agg [.lst 4 34 x0A x0c l, .lst 2 80 x1A x1c l2])), .c (.v (.string nm))] [] (.c (.v (.int .i64 (-1)))) []) :
    Ctr Try.prog 59 [.c (.pt 0 0), .c (.v (.string nm)), .c (.v (.string s)), .ag (acE (.agg [.int .i64 v0, .int .i64 v1, .str v2]))] [owE (E.agg [.lst 4 34 x0A x0c l, .lst 2 80 x1A x1c l2])] (.c (.v (.bool false))) [owE (E.agg [.lst 4 34 x0A x0c l, .lst 2 80 x1A x1c l2])] := by
  refine zt1 Try.func59 rfl rfl ?_
  refine zu2 (za6 100 (i := 0) rfl rfl (pre := []) (post := [_]) rfl) ?_
  refine zu2 (za6 101 (i := 0) rfl rfl (pre := [_]) (post := []) rfl) ?_
  repeat (first | refine zl ?_ | refine zf ?_ | refine zh ?_ | refine zi ?_ | refine zb fun C => ?_ | refine ze (by kernel_rfl) (by kernel_rfl) fun C => ?_ | refine zd ?_ | refine zp1 ?_ | refine x_bs ?_ | refine x_gr ?_ | refine x_st ?_ | refine x_mv ?_ | refine x_sk ?_ | refine zz1 ?_ | refine x_ix ?_ | refine za2 ?_ | refine zb2 ?_ | refine zs1 ?_ | refine ze1 ?_ | refine x_ld ?_)
  refine za5 110 ca ?_
  repeat (first | refine zl ?_ | refine zf ?_ | refine zh ?_ | refine zi ?_ | refine zb fun C => ?_ | refine ze (by kernel_rfl) (by kernel_rfl) fun C => ?_ | refine zd ?_ | refine zp1 ?_ | refine x_bs ?_ | refine x_gr ?_ | refine x_st ?_ | refine x_mv ?_ | refine x_sk ?_ | refine zz1 ?_ | refine x_ix ?_ | refine za2 ?_ | refine zb2 ?_ | refine zs1 ?_ | refine ze1 ?_ | refine x_ld ?_)
  refine zd2 (by rfl) (fun h1 => ?_) fun h1 => ?_
  rotate_left
  · simp at h1
  repeat (first | refine zl ?_ | refine zf ?_ | refine zh ?_ | refine zi ?_ | refine zb fun C => ?_ | refine ze (by kernel_rfl) (by kernel_rfl) fun C => ?_ | refine zd ?_ | refine zp1 ?_ | refine x_bs ?_ | refine x_gr ?_ | refine x_st ?_ | refine x_mv ?_ | refine x_sk ?_ | refine zz1 ?_ | refine x_ix ?_ | refine za2 ?_ | refine zb2 ?_ | refine zs1 ?_ | refine ze1 ?_ | refine x_ld ?_)
  refine zu2 (zz5 (i := 0) (j := 100) rfl rfl rfl (pre := []) (post := [_]) rfl) ?_
  refine zu2 (zz5 (i := 0) (j := 101) rfl rfl rfl (pre := [_]) (post := []) rfl) ?_
  refine zu ?_
  refine retL (x := .c (.v (.bool false))) rfl zb5 rfl ?_ rfl ⟨rfl, rfl⟩
  first | rfl | (simp [cloV, cloL, clo, zo, zn, zp, zm, zk]; done)
theorem za12 {e v : E} (he : e.Ty Try.prog 27) (hv : v.Ty Try.prog 29) (nm s : ByteArray) (hsz : e.sz ≤ 1048576) : Ctr Try.prog 59 [.c (.pt 0 0), .c (.v (.string nm)), .c (.v (.string s)), .ag (acE v)] [owE e] (.c (.v (.bool (putOk e nm s)))) [owE (putE e nm s v)] := by
  have ca := za19 he nm hsz
  obtain ⟨x0A, x0c, l, x1A, x1c, l2, rfl, ⟨hl, hk⟩, ⟨hl2, hk2⟩, -⟩ := zi3 he
  have hlen : l.length ≤ 1048576 := by simp only [E.sz, E.szL] at hsz; omega
  have hlen2 : l2.length ≤ 1048576 := by simp only [E.sz, E.szL] at hsz; omega
  obtain ⟨v0, v1, v2, rfl, -⟩ := za4 hv
  rcases zn4 (isNm nm) l2 with h0 | ⟨k, h0, hlt⟩
  · rw [show tabsE _ = l2 from rfl, h0] at ca
    obtain ⟨p1, p2⟩ := zv9 (x0A := x0A) (x1A := x1A) (x0c := x0c) (x1c := x1c) (k := 4) (k' := 2) (T := 34) (T' := 80) (l := l) (s := s) (v := .agg [.int .i64 v0, .int .i64 v1, .str v2]) h0
    rw [p1, p2]
    exact zd20 hlen hlen2 ca
  · rw [show tabsE _ = l2 from rfl, h0] at ca
    obtain ⟨x, hx⟩ : ∃ x, l2[k]? = some x := ⟨_, List.getElem?_eq_getElem hlt⟩
    have hxt := hl2 x (List.mem_of_getElem? hx)
    have hxs : x.sz ≤ 1048576 := by
      have := E.szL_mem (List.mem_of_getElem? hx)
      simp only [E.sz, E.szL] at hsz; omega
    have cky := zs16 hxt s hxs
    obtain ⟨y0, y1A, y1c, y1, rfl, hy0, ⟨hy1, hy1k⟩, -⟩ := zz3 hxt
    have hy1l : y1.length ≤ 1048576 := by simp only [E.sz, E.szL] at hxs; omega
    obtain ⟨p1, p2⟩ := zw9 (x0A := x0A) (x1A := x1A) (x0c := x0c) (x1c := x1c) (k := 4) (k' := 2) (T := 34) (T' := 80) (l := l) (s := s) (v := .agg [.int .i64 v0, .int .i64 v1, .str v2]) h0 hx
    rw [p1, p2]
    have hr : ∀ m : List E, [owE (.agg [.lst 4 34 none 0 l, .lst 2 80 none 0 (l2.set k (.agg [.str y0, .lst 4 82 none 0 m]))])] = [[.ow 34 l.length 4 (owL l), .ow 80 l2.length 2 ((owL (l2.take k) ++ [.v (.string y0)]) ++ .ow 82 m.length 4 (owL m) :: owL (l2.drop (k + 1)))]] := by
      intro m
      simp only [owE, owL, List.length_set, List.append_nil]
      rw [zb19 hlt]; rfl
    rcases zn4 (isNm s) y1 with j0 | ⟨i, j0, hit⟩
    · rw [show tabsE _ = y1 from rfl, j0] at cky
      by_cases h20 : 20 ≤ y1.length
      · obtain ⟨q1, q2⟩ := ze15 (v := .agg [.int .i64 v0, .int .i64 v1, .str v2]) j0 h20
        rw [q1, q2, hr]
        exact za20 hk2 hlen hlen2 hy1l hlt hx ca h20 cky
      · obtain ⟨q1, q2⟩ := zt16 (v := .agg [.int .i64 v0, .int .i64 v1, .str v2]) j0 h20
        rw [q1, q2, hr, List.length_append]
        exact zb20 hk2 hlen hlen2 hy1l hlt hx ca h20 cky
    · rw [show tabsE _ = y1 from rfl, j0] at cky
      obtain ⟨z, hz⟩ : ∃ z, y1[i]? = some z := ⟨_, List.getElem?_eq_getElem hit⟩
      obtain ⟨z0, z1, z2, z3, rfl, hz0⟩ := zy4 (hy1 z (List.mem_of_getElem? hz))
      obtain ⟨q1, q2⟩ := zu16 (v := .agg [.int .i64 v0, .int .i64 v1, .str v2]) j0 hz
      rw [q1, q2, hr, List.length_set]
      exact zc20 hk2 hlen hlen2 hy1l hlt hx ca hy1k hit hz cky
set_option maxRecDepth 100000
set_option maxRecDepth 100000
def zV : E := .agg [.int .i64 0, .int .i64 0, .str ByteArray.empty]
theorem ze6 {p : E → Bool} {x : E} : ∀ {l : List E} {k : Nat}, (∀ y, l[k]? = some y → p x = p y) → (l.set k x).findIdx? p = l.findIdx? p
  | [], _, _ => rfl
  | a :: r, 0, h => by simp [List.findIdx?_cons, h a rfl]
  | a :: r, k + 1, h => by
    have ih := ze6 (p := p) (x := x) (l := r) (k := k) fun y hy => h y (by simpa using hy)
    simp [List.findIdx?_cons, ih]
theorem zr7 {p : E → Bool} : ∀ {l : List E} {k : Nat}, l.findIdx? p = some k → ∃ x, l[k]? = some x ∧ p x = true := fun {l k} h => by
  obtain ⟨x, h1, h2⟩ := zh14 (p := p) (l := l) (k := k) (by simp [idxF, h])
  exact ⟨x, h1, h2⟩
def Nms (l : List E) : Prop := ∀ x ∈ l, ∃ (q : ByteArray) (v : E), x = .agg [.str q, v]
def vlL (l : List E) (s : ByteArray) : E := match l.findIdx? (isNm s) with | some k => vlE (l[k]?.getD zV) | none => zV
def hasL (l : List E) (s : ByteArray) : Bool := (l.findIdx? (isNm s)).isSome
theorem zx9 {l : List E} {s q : ByteArray} {v : E} {k : Nat} (h : idxF (isNm s) l = (k : Int)) (hx : l[k]? = some (.agg [.str q, v])) : vlL l s = v ∧ hasL l s = true := by
  simp [vlL, hasL, zj6 h, hx, vlE]
theorem zy9 {l : List E} {s : ByteArray} (h : idxF (isNm s) l = -1) : vlL l s = zV ∧ hasL l s = false := by
  simp [vlL, hasL, zx5 h]
theorem zz20 {s t q : ByteArray} {v w : E} (h : (s.toList == t.toList) = false) (h1 : isNm s (.agg [.str q, v]) = true) (h2 : isNm t (.agg [.str q, w]) = true) : False := by
  simp only [isNm, nmE, beq_iff_eq] at h1 h2
  rw [← h1, ← h2] at h
  simp at h
theorem zz9 {l : List E} (hl : Nms l) {s t : ByteArray} (v : E) (h : (s.toList == t.toList) = false) : vlL (setVarL l t v) s = vlL l s := by
  unfold setVarL
  cases hk : l.findIdx? (isNm t) with
  | none => rfl
  | some k =>
    obtain ⟨x, hx, hp⟩ := zr7 hk
    obtain ⟨q, v0, rfl⟩ := hl x (List.mem_of_getElem? hx)
    simp only [hx, Option.getD_some, nmE]
    unfold vlL
    rw [ze6 (p := isNm s) (x := .agg [.str q, v]) (l := l) (k := k) fun y hy => by rw [hx] at hy; injection hy with hy; subst hy; rfl]
    cases hj : l.findIdx? (isNm s) with
    | none => rfl
    | some j =>
      obtain ⟨y, hy, hpy⟩ := zr7 hj
      have hne : k ≠ j := by
        rintro rfl
        rw [hx] at hy
        injection hy with hy
        subst hy
        exact zz20 h hpy hp
      simp only [List.getElem?_set_ne hne]
theorem zw10 {l : List E} (hl : Nms l) {t : ByteArray} (v : E) (h : hasL l t = true) : vlL (setVarL l t v) t = v := by
  unfold hasL at h
  unfold setVarL
  cases hk : l.findIdx? (isNm t) with
  | none => rw [hk] at h; cases h
  | some k =>
    obtain ⟨x, hx, hp⟩ := zr7 hk
    obtain ⟨q, v0, rfl⟩ := hl x (List.mem_of_getElem? hx)
    have hlt : k < l.length := (List.getElem?_eq_some_iff.1 hx).1
    simp only [hx, Option.getD_some, nmE]
    unfold vlL
    rw [ze6 (p := isNm t) (x := .agg [.str q, v]) (l := l) (k := k) fun y hy => by rw [hx] at hy; injection hy with hy; subst hy; rfl, hk]
    simp [List.getElem?_set_self hlt, vlE]
theorem zf15 {l : List E} {t : ByteArray} (v : E) (h : hasL l t = false) : setVarL l t v = l := by
  unfold hasL at h
  unfold setVarL
  cases hk : l.findIdx? (isNm t) with
  | none => rfl
  | some k => rw [hk] at h; cases h
theorem zc19 {l : List E} {t : ByteArray} : hasL l t = l.any (isNm t) := by
  unfold hasL
  rw [List.findIdx?_isSome]
end Go.Proofs.Ytghljnfbbaklnaa
namespace Go.Proofs.Ytghljnfbbaklnaa
open Go.RowKit Go.Shelf
set_option maxRecDepth 100000
def numT (n : Int) : ByteArray := ⟨(Lib.itoa n).toArray⟩
end Go.Proofs.Ytghljnfbbaklnaa
namespace Go.Proofs.Ytghljnfbbaklnaa
open Go.RowKit
set_option maxRecDepth 100000
theorem zv16 (k : Nat) : (-(k : Int)).tdiv 10 = -((k / 10 : Nat) : Int) := by rw [Int.neg_tdiv]; rfl
theorem zw16 (k : Nat) : (-(k : Int)).tmod 10 = -((k % 10 : Nat) : Int) := by rw [Int.neg_tmod]; rfl
theorem zb12 {k : Nat} (h : 0 < k) : numT (-(k : Int)) = ⟨(45 :: Lib.decDigits k).toArray⟩ := by
  unfold numT Lib.itoa
  rw [if_pos (by omega)]
  simp
theorem zd7 (k : Nat) : numT (k : Int) = ⟨(Lib.decDigits k).toArray⟩ := by
  unfold numT Lib.itoa
  rw [if_neg (by omega)]
  simp
theorem zx10 {k : Nat} (h : ¬ k < 10) : Lib.decDigits k = Lib.decDigits (k / 10) ++ [UInt8.ofNat (48 + k % 10)] := by
  rw [Lib.decDigits, dif_neg h]
theorem zo6 {k : Nat} (h : k < 10) : Lib.decDigits k = [UInt8.ofNat (48 + k)] := by
  rw [Lib.decDigits, dif_pos h]
theorem zv8 {n : Int} (h0 : -9223372036854775808 ≤ n) (h1 : n ≤ 9223372036854775807) : (numT n).size ≤ 20 := by
  have key : ∀ (f k : Nat), k < 10 ^ (f + 1) → (Lib.decDigits k).length ≤ f + 1 := by
    intro f
    induction f with
    | zero => intro k hk; rw [zo6 (by simpa using hk)]; simp
    | succ f ih =>
      intro k hk
      by_cases h : k < 10
      · rw [zo6 h]; simp
      · rw [zx10 h, List.length_append]
        have := ih (k / 10) (by rw [Nat.pow_succ] at hk; omega)
        simp only [List.length_cons, List.length_nil]; omega
  unfold numT Lib.itoa
  show (List.toArray _).size ≤ 20
  rw [List.size_toArray]
  split
  · have := key 18 n.natAbs (by omega)
    rw [List.length_cons]; omega
  · have := key 18 n.toNat (by omega)
    omega
theorem u8of {z : Int} {d : Nat} (e : z = ((48 + d : Nat) : Int)) (h : d < 10) : UInt8.ofNat (IntKind.u8.wrap (IntKind.i64.wrap z)).toNat = UInt8.ofNat (48 + d) := by
  subst e
  rw [zc7 (by omega) (by omega), IntKind.wrap_u8]
  have : (((48 + d : Nat) : Int) % 256).toNat = 48 + d := by omega
  rw [this]
theorem za21 (x : List UInt8) (b : UInt8) : (ByteArray.mk #[45]) ++ ⟨x.toArray⟩ ++ ⟨[b].toArray⟩ = ⟨(45 :: (x ++ [b])).toArray⟩ := by
  rw [show (ByteArray.mk #[45]) = ⟨[45].toArray⟩ from rfl, ByteArray.mk_append_mk, ByteArray.mk_append_mk]; rfl
theorem zg15 (m : Nat) : ∀ n : Int, n.natAbs ≤ m → -9223372036854775808 ≤ n → n ≤ 9223372036854775807 → Ctr Try.prog 83 [.c (.v (.int .i64 n))] [] (.c (.v (.string (numT n)))) [] := by
  induction m using Nat.strongRecOn with
  | _ m ih =>
  intro n hm h0 h1
  rcases Int.lt_or_le n (-9) with h | h
  · obtain ⟨k, rfl⟩ : ∃ k : Nat, n = -(k : Int) := ⟨n.natAbs, by omega⟩
    have hc := ih (k / 10) (by omega) ((k / 10 : Nat) : Int) (by omega) (by omega) (by omega)
    clear ih
    have e1 : IntKind.i64.wrap (0 - IntKind.i64.wrap ((-(k : Int)).tdiv 10)) = ((k / 10 : Nat) : Int) := by
      rw [zv16, zc7 (z := -((k / 10 : Nat) : Int)) (by omega) (by omega), zc7 (by omega) (by omega)]; omega
    have hc' : Ctr Try.prog 83 [.c (.v (.int .i64 (IntKind.i64.wrap (0 - IntKind.i64.wrap ((-(k : Int)).tdiv 10)))))] [] (.c (.v (.string (numT ((k / 10 : Nat) : Int))))) [] := by rw [e1]; exact hc
    clear hc
    refine zt1 Try.func83 rfl rfl ?_
    have hz := zv8 (n := ((k / 10 : Nat) : Int)) (by omega) (by omega)
    repeat' (first | refine zl ?_ | refine zf ?_ | refine zh ?_ | refine zi ?_ | refine zb fun C => ?_ | refine ze (by kernel_rfl) (by kernel_rfl) fun C => ?_ | refine zd ?_ | (refine x_gm ?_ ?_ <;> intro hG <;> (try cases hG)) | refine zp1 ?_ | refine zp14 ?_ | refine zq14 ?_ | refine x_bs ?_ | refine x_gr ?_ | refine x_st ?_ | refine x_mv ?_ | refine x_sk ?_ | refine zz1 ?_ | refine x_ix ?_ | refine za2 ?_ | refine zb2 ?_ | refine zs1 ?_ | refine zs1 (hnu := zg _) ?_ | refine ze1 ?_ | refine ze1 (hnu := zg _) ?_ | refine x_ld ?_ | refine zo14 ?_ | refine zg16 ?_ | (refine zd2 (by rfl) ?_ ?_ <;> intro hC <;> (try cases hC)))
    all_goals first
      | (exfalso; clear hc' e1; simp at *; omega)
      | skip
    refine zu ?_
    refine ret0 rfl zb5 ⟨?_, rfl⟩
    refine congrArg (fun s => AV.c (AC.v (Value.string s))) ?_
    rw [u8of (d := k % 10) (by rw [zw16]; omega) (by omega), zd7, za21, zb12 (by omega), zx10 (k := k) (by omega)]
  · rcases Int.lt_or_le n 0 with h2 | h2
    · obtain ⟨k, rfl⟩ : ∃ k : Nat, n = -(k : Int) := ⟨n.natAbs, by omega⟩
      clear ih
      refine zt1 Try.func83 rfl rfl ?_
      repeat' (first | refine zl ?_ | refine zf ?_ | refine zh ?_ | refine zi ?_ | refine zb fun C => ?_ | refine ze (by kernel_rfl) (by kernel_rfl) fun C => ?_ | refine zd ?_ | (refine x_gm ?_ ?_ <;> intro hG <;> (try cases hG)) | refine zp1 ?_ | refine zp14 ?_ | refine zq14 ?_ | refine x_bs ?_ | refine x_gr ?_ | refine x_st ?_ | refine x_mv ?_ | refine x_sk ?_ | refine zz1 ?_ | refine x_ix ?_ | refine za2 ?_ | refine zb2 ?_ | refine zs1 ?_ | refine zs1 (hnu := zg _) ?_ | refine ze1 ?_ | refine ze1 (hnu := zg _) ?_ | refine x_ld ?_ | refine zo14 ?_ | refine zg16 ?_ | (refine zd2 (by rfl) ?_ ?_ <;> intro hC <;> (try cases hC)))
      all_goals first
        | (exfalso; simp at *; omega)
        | skip
      refine zu ?_
      refine ret0 rfl zb5 ⟨?_, rfl⟩
      refine congrArg (fun s => AV.c (AC.v (Value.string s))) ?_
      rw [u8of (d := k) (by omega) (by omega), zb12 (by omega), zo6 (k := k) (by omega)]; rfl
    · obtain ⟨k, rfl⟩ : ∃ k : Nat, n = (k : Int) := ⟨n.natAbs, by omega⟩
      rcases Nat.lt_or_ge k 10 with h3 | h3
      · clear ih
        refine zt1 Try.func83 rfl rfl ?_
        repeat' (first | refine zl ?_ | refine zf ?_ | refine zh ?_ | refine zi ?_ | refine zb fun C => ?_ | refine ze (by kernel_rfl) (by kernel_rfl) fun C => ?_ | refine zd ?_ | (refine x_gm ?_ ?_ <;> intro hG <;> (try cases hG)) | refine zp1 ?_ | refine zp14 ?_ | refine zq14 ?_ | refine x_bs ?_ | refine x_gr ?_ | refine x_st ?_ | refine x_mv ?_ | refine x_sk ?_ | refine zz1 ?_ | refine x_ix ?_ | refine za2 ?_ | refine zb2 ?_ | refine zs1 ?_ | refine zs1 (hnu := zg _) ?_ | refine ze1 ?_ | refine ze1 (hnu := zg _) ?_ | refine x_ld ?_ | refine zo14 ?_ | refine zg16 ?_ | (refine zd2 (by rfl) ?_ ?_ <;> intro hC <;> (try cases hC)))
        all_goals first
          | (exfalso; simp at *; omega)
          | skip
        refine zu ?_
        refine ret0 rfl zb5 ⟨?_, rfl⟩
        refine congrArg (fun s => AV.c (AC.v (Value.string s))) ?_
        rw [u8of (d := k) (by omega) (by omega), zd7, zo6 (k := k) (by omega)]
      · have hc := ih (k / 10) (by omega) ((k / 10 : Nat) : Int) (by omega) (by omega) (by omega)
        clear ih
        have e1 : IntKind.i64.wrap ((k : Int).tdiv 10) = ((k / 10 : Nat) : Int) := by
          rw [show ((k : Int).tdiv 10) = ((k / 10 : Nat) : Int) from rfl, zc7 (by omega) (by omega)]
        have hc' : Ctr Try.prog 83 [.c (.v (.int .i64 (IntKind.i64.wrap ((k : Int).tdiv 10))))] [] (.c (.v (.string (numT ((k / 10 : Nat) : Int))))) [] := by rw [e1]; exact hc
        clear hc
        refine zt1 Try.func83 rfl rfl ?_
        have hz := zv8 (n := ((k / 10 : Nat) : Int)) (by omega) (by omega)
        repeat' (first | refine zl ?_ | refine zf ?_ | refine zh ?_ | refine zi ?_ | refine zb fun C => ?_ | refine ze (by kernel_rfl) (by kernel_rfl) fun C => ?_ | refine zd ?_ | (refine x_gm ?_ ?_ <;> intro hG <;> (try cases hG)) | refine zp1 ?_ | refine zp14 ?_ | refine zq14 ?_ | refine x_bs ?_ | refine x_gr ?_ | refine x_st ?_ | refine x_mv ?_ | refine x_sk ?_ | refine zz1 ?_ | refine x_ix ?_ | refine za2 ?_ | refine zb2 ?_ | refine zs1 ?_ | refine zs1 (hnu := zg _) ?_ | refine ze1 ?_ | refine ze1 (hnu := zg _) ?_ | refine x_ld ?_ | refine zo14 ?_ | refine zg16 ?_ | (refine zd2 (by rfl) ?_ ?_ <;> intro hC <;> (try cases hC)))
        all_goals first
          | (exfalso; clear hc' e1; simp at *; omega)
          | skip
        refine zu ?_
        refine ret0 rfl zb5 ⟨?_, rfl⟩
        refine congrArg (fun s => AV.c (AC.v (Value.string s))) ?_
        rw [u8of (d := k % 10) (by rw [show ((k : Int).tmod 10) = ((k % 10 : Nat) : Int) from rfl]; omega) (by omega), zd7, zd7, zx10 (k := k) (by omega)]
        exact ByteArray.mk_append_mk _ _
def nmD (q : ByteArray) (a b : Int) (s : ByteArray) : E := .agg [.str q, .agg [.int .i64 a, .int .i64 b, .str s]]
def tbD (q : ByteArray) (A : Option Addr) (c : Nat) (l : List E) : E := .agg [.str q, .lst 4 82 A c l]
def envE (vs ts : List E) : E := .agg [.lst 4 34 none 0 vs, .lst 2 80 none 0 ts]
def NmOk (x : E) : Prop := ∃ (q : ByteArray) (a b : Int) (s : ByteArray), q.size ≤ 201 ∧ VOk a b s ∧ x = nmD q a b s
def TbOk (n : Nat) (x : E) : Prop := ∃ (q : ByteArray) (A : Option Addr) (c : Nat) (l : List E), q.size ≤ 201 ∧ l.length ≤ n ∧ (∀ y ∈ l, NmOk y) ∧ x = tbD q A c l
def EOk (n : Nat) (vs ts : List E) : Prop := vs.length ≤ 3 ∧ ts.length ≤ 3 ∧ (∀ x ∈ vs, NmOk x) ∧ ∀ x ∈ ts, TbOk n x
theorem NmOk.nm {l : List E} (h : ∀ x ∈ l, NmOk x) : Nms l := fun x hx => by
  obtain ⟨q, a, b, s, -, -, rfl⟩ := h x hx
  exact ⟨q, _, rfl⟩
theorem zh15 {q : ByteArray} (h : q.size ≤ 201) : (E.str q).Ty Try.prog 9 := by simp only [E.Ty]; exact ⟨Try.underlying9, by unfold maxLen; omega⟩
theorem NmOk.sz {x : E} (h : NmOk x) : x.sz ≤ 402 ∧ x.enc.length = 4 := by
  obtain ⟨q, a, b, s, h1, h2, rfl⟩ := h
  have := h2.2.2
  exact ⟨by simp only [nmD, E.sz, E.szL]; omega, rfl⟩
theorem NmOk.named {x : E} (h : NmOk x) : x.Ty Try.prog 34 := by
  obtain ⟨q, a, b, s, h1, h2, rfl⟩ := h
  exact E.Ty.mk_agg Try.underlying34 (E.TyF.mk_cons (zh15 h1) (E.TyF.mk_cons h2.ty E.TyF.mk_nil))
theorem NmOk.entry {x : E} (h : NmOk x) : x.Ty Try.prog 82 := by
  obtain ⟨q, a, b, s, h1, h2, rfl⟩ := h
  exact E.Ty.mk_agg Try.underlying82 (E.TyF.mk_cons (zh15 h1) (E.TyF.mk_cons h2.ty E.TyF.mk_nil))
theorem TbOk.ty {n : Nat} {x : E} (h : TbOk n x) : x.Ty Try.prog 80 ∧ x.enc.length = 2 ∧ x.sz ≤ 201 + n * 403 := by
  obtain ⟨q, A, c, l, h1, h2, h3, rfl⟩ := h
  refine ⟨E.Ty.mk_agg Try.underlying80 (E.TyF.mk_cons (zh15 h1) (E.TyF.mk_cons (E.Ty.mk_lst Try.underlying78 (by kernel_rfl) (fun y hy => (h3 y hy).entry) (fun y hy => (h3 y hy).sz.2)) E.TyF.mk_nil)), rfl, ?_⟩
  have := zz11 fun y hy => (h3 y hy).sz.1
  have : l.length * 402 ≤ n * 402 := Nat.mul_le_mul_right _ h2
  simp only [tbD, E.sz, E.szL]; omega
theorem EOk.ty {n : Nat} {vs ts : List E} (h : EOk n vs ts) : (envE vs ts).Ty Try.prog 27 :=
  E.Ty.mk_agg Try.underlying27 (E.TyF.mk_cons (E.Ty.mk_lst Try.underlying24 (by kernel_rfl) (fun y hy => (h.2.2.1 y hy).named) (fun y hy => (h.2.2.1 y hy).sz.2)) (E.TyF.mk_cons (E.Ty.mk_lst Try.underlying25 (by kernel_rfl) (fun y hy => (h.2.2.2 y hy).ty.1) (fun y hy => (h.2.2.2 y hy).ty.2.1)) E.TyF.mk_nil))
theorem EOk.sz {n : Nat} {vs ts : List E} (h : EOk n vs ts) (hn : n ≤ 100) : (envE vs ts).sz ≤ 1048576 := by
  have h1 := zz11 fun y hy => (h.2.2.1 y hy).sz.1
  have h2 := zz11 fun y hy => (h.2.2.2 y hy).ty.2.2
  have h3 := h.1
  have h4 := h.2.1
  have h5 : n * 403 ≤ 100 * 403 := Nat.mul_le_mul_right _ hn
  have h6 : ts.length * (201 + n * 403) ≤ 3 * (201 + 100 * 403) := Nat.mul_le_mul h4 (by omega)
  simp only [envE, E.sz, E.szL]; omega
theorem TbOk.mono {n m : Nat} {x : E} (h : TbOk n x) (hm : n ≤ m) : TbOk m x := by
  obtain ⟨q, A, c, l, h1, h2, h3, rfl⟩ := h
  exact ⟨q, A, c, l, h1, by omega, h3, rfl⟩
theorem EOk.mono {n m : Nat} {vs ts : List E} (h : EOk n vs ts) (hm : n ≤ m) : EOk m vs ts := ⟨h.1, h.2.1, h.2.2.1, fun x hx => (h.2.2.2 x hx).mono hm⟩
theorem zd19 {n : Nat} {l : List E} (h : ∀ y ∈ l, NmOk y) (hn : l.length ≤ n) {s : ByteArray} (hs : s.size ≤ 201) {a b : Int} {t : ByteArray} (hv : VOk a b t) : (∀ y ∈ putL l s (.agg [.int .i64 a, .int .i64 b, .str t]), NmOk y) ∧ (putL l s (.agg [.int .i64 a, .int .i64 b, .str t])).length ≤ n + 1 := by
  unfold putL
  split
  · rename_i i hi
    refine ⟨fun y hy => ?_, by rw [List.length_set]; omega⟩
    rcases List.mem_or_eq_of_mem_set hy with h1 | rfl
    · exact h y h1
    · obtain ⟨x, hx, -⟩ := zr7 hi
      obtain ⟨q, a0, b0, s0, g1, -, rfl⟩ := h x (List.mem_of_getElem? hx)
      simp only [hx, Option.getD_some]
      exact ⟨q, a, b, t, g1, hv, rfl⟩
  · split
    · exact ⟨h, by omega⟩
    · refine ⟨fun y hy => ?_, by simp; omega⟩
      rcases List.mem_append.1 hy with h1 | h1
      · exact h y h1
      · rw [List.mem_singleton] at h1; subst h1; exact ⟨s, a, b, t, hs, hv, rfl⟩
theorem EOk.put {n : Nat} {vs ts : List E} (h : EOk n vs ts) (nm : ByteArray) {s : ByteArray} (hs : s.size ≤ 201) {a b : Int} {t : ByteArray} (hv : VOk a b t) : ∃ ts', putE (envE vs ts) nm s (.agg [.int .i64 a, .int .i64 b, .str t]) = envE vs ts' ∧ EOk (n + 1) vs ts' ∧ ts'.length = ts.length := by
  rcases zn4 (isNm nm) ts with h0 | ⟨k, h0, hlt⟩
  · exact ⟨ts, (zv9 h0).1, h.mono (by omega), rfl⟩
  · obtain ⟨x, hx⟩ : ∃ x, ts[k]? = some x := ⟨_, List.getElem?_eq_getElem hlt⟩
    obtain ⟨q, A, c, l, h1, h2, h3, rfl⟩ := h.2.2.2 x (List.mem_of_getElem? hx)
    refine ⟨_, (zw9 h0 hx).1, ⟨h.1, by rw [List.length_set]; exact h.2.1, h.2.2.1, fun y hy => ?_⟩, by rw [List.length_set]⟩
    rcases List.mem_or_eq_of_mem_set hy with h4 | rfl
    · exact (h.2.2.2 y h4).mono (by omega)
    · obtain ⟨g1, g2⟩ := zd19 h3 h2 hs hv
      exact ⟨q, none, 0, _, h1, g2, g1, rfl⟩
theorem za10 {a b : Int} {s : ByteArray} (hv : VOk a b s) : ∃ t : ByteArray, t.size ≤ 201 ∧ Ctr Try.prog 95 [.ag [.v (.int .i64 a), .v (.int .i64 b), .v (.string s)]] [] (.c (.v (.string t))) [] := by
  have hc := zg15 _ b (Nat.le_refl _) hv.2.1.1 hv.2.1.2
  by_cases h : a = 1
  · subst h
    refine ⟨numT b, by have := zv8 hv.2.1.1 hv.2.1.2; omega, zt1 Try.func95 rfl rfl ?_⟩
    repeat' (first | ((apply f_wo); first | ((apply f_as); first | refine zl1 (v := .c _) ?_ | refine za ?_) | ((apply f_fa); first | refine n_fa ?_ | refine zj2 ?_) | ((apply f_ld); first | refine zc4 ?_ | refine zw2 ?_ | refine n_ld ?_) | ((apply f_ca); first | refine zo4 (hc) ?_ | refine zm4 (hc) ?_) | ((apply zk3); first | refine zh1 ?_ | refine za ?_) | refine n_bo ?_ | refine za ?_) | ((apply f_w); first | refine zb1 ?_ | refine zd ?_) | refine zb fun C => ?_ | refine zl ?_ | refine zf ?_ | refine zh ?_ | refine zi ?_ | refine zf1 rfl ?_ | refine zg1 rfl ?_)
    refine zu ?_; refine ret0 rfl zb5 ⟨?_, rfl⟩
    rfl
  · refine ⟨s, hv.2.2, zt1 Try.func95 rfl rfl ?_⟩
    repeat' (first | ((apply f_wo); first | ((apply f_as); first | refine zl1 (v := .c _) ?_ | refine za ?_) | ((apply f_fa); first | refine n_fa ?_ | refine zj2 ?_) | ((apply f_ld); first | refine zc4 ?_ | refine zw2 ?_ | refine n_ld ?_) | ((apply zk3); first | refine zh1 ?_ | refine za ?_) | refine n_bo ?_ | refine za ?_) | ((apply f_w); first | refine zb1 ?_ | refine zd ?_) | refine zb fun C => ?_ | refine zl ?_ | refine zf ?_ | refine zh ?_ | refine zi ?_)
    refine zc2 (by rfl) (fun hC => absurd (eq_of_beq hC) h) fun hC => ?_
    repeat' (first | ((apply f_wo); first | ((apply f_as); first | refine zl1 (v := .c _) ?_ | refine za ?_) | ((apply f_fa); first | refine n_fa ?_ | refine zj2 ?_) | ((apply f_ld); first | refine zc4 ?_ | refine zw2 ?_ | refine n_ld ?_) | ((apply zk3); first | refine zh1 ?_ | refine za ?_) | refine n_bo ?_ | refine za ?_) | ((apply f_w); first | refine zb1 ?_ | refine zd ?_) | refine zb fun C => ?_ | refine zl ?_ | refine zf ?_ | refine zh ?_ | refine zi ?_)
    refine zu ?_; refine ret0 rfl zb5 ⟨?_, rfl⟩
    rfl
end Go.Proofs.Ytghljnfbbaklnaa
-- MVP
namespace Go.Proofs.Ytghljnfbbaklnaa
open Go.RowKit
set_option maxRecDepth 100000
def StepE (cs : List AC) (vs ts : List E) (cs' : List AC) (ts' : List E) : Prop := ∃ (nm : ByteArray) (cs1 cs2 cs3 : List AC) (a b : Int) (s t : ByteArray) (a2 b2 : Int) (s2 : ByteArray), Curs cs1 ∧ Curs cs2 ∧
  Ctr Try.prog 38 [.c (.pt 0 0), .c (.ro (strL [⟨#[116]⟩, ⟨#[117]⟩]).length 1 (acL (strL [⟨#[116]⟩, ⟨#[117]⟩])))] [cs] (.c (.v (.string nm))) [cs1] ∧
  Ctr Try.prog 84 [.c (.pt 0 0)] [cs1] (.ag [.v (.int .i64 a), .v (.int .i64 b), .v (.string s)]) [cs2] ∧
  Ctr Try.prog 95 [.ag [.v (.int .i64 a), .v (.int .i64 b), .v (.string s)]] [] (.c (.v (.string t))) [] ∧
  Ctr Try.prog 84 [.c (.pt 0 0)] [cs2] (.ag [.v (.int .i64 a2), .v (.int .i64 b2), .v (.string s2)]) [cs'] ∧ cs3 = cs' ∧
  Ctr Try.prog 59 [.c (.pt 0 0), .c (.v (.string nm)), .c (.v (.string t)), .ag [.v (.int .i64 a2), .v (.int .i64 b2), .v (.string s2)]] [owE (envE vs ts)] (.c (.v (.bool (putOk (envE vs ts) nm t)))) [owE (envE vs ts')]
def RE (vs : List E) : Nat → List AC → List E → List AC → List E → Prop
  | 0, cs, ts, cs', ts' => Curs cs ∧ cs' = cs ∧ ts' = ts
  | n + 1, cs, ts, cs', ts' => Curs cs ∧ ∃ cs1 t1, StepE cs vs ts cs1 t1 ∧ RE vs n cs1 t1 cs' ts'
theorem ze19 {vs : List E} {n : Nat} {cs cs' : List AC} {l l' : List E} (h : RE vs n cs l cs' l') : Curs cs := by
  cases n <;> exact h.1
theorem ze20 (vs : List E) : ∀ (n m : Nat) (cs : List AC) (ts : List E), Curs cs → EOk m vs ts → m + n ≤ 8 → ∃ cs' ts', Curs cs' ∧ EOk 8 vs ts' ∧ ts'.length = ts.length ∧ RE vs n cs ts cs' ts'
  | 0, m, cs, ts, hc, hl, hm => ⟨cs, ts, hc, hl.mono (by omega), rfl, hc, rfl, rfl⟩
  | n + 1, m, cs, ts, hc, hl, hm => by
    obtain ⟨nm, cs1, h1, hnm, c1⟩ := zp6 hc [⟨#[116]⟩, ⟨#[117]⟩] (by decide)
    obtain ⟨a, b, s, cs2, h2, hv, c2⟩ := zn6 h1
    obtain ⟨t, ht, c3⟩ := za10 hv
    obtain ⟨a2, b2, s2, cs3, h3, hv2, c4⟩ := zn6 h2
    obtain ⟨ts1, e1, h4, el⟩ := hl.put nm ht hv2
    have c5 := za12 hl.ty hv2.ty nm t (hl.sz (by omega))
    rw [e1] at c5
    obtain ⟨cs', ts', h5, h6, el2, h7⟩ := ze20 vs n (m + 1) cs3 ts1 h3 h4 (by omega)
    exact ⟨cs', ts', h5, h6, el2.trans el, hc, cs3, ts1, ⟨nm, cs1, cs2, cs3, a, b, s, t, a2, b2, s2, h1, h2, c1, c2, c3, c4, rfl, c5⟩, h7⟩
theorem zi15 {cs : List AC} (hc : Curs cs) : ∃ (vs ts : List E) (cs' : List AC), Curs cs' ∧ EOk 8 vs ts ∧ vs.length = 2 ∧ ts.length = 2 ∧ Ctr Try.prog 81 [.c (.pt 0 0)] [cs] (.ag (owE (envE vs ts))) [cs'] := by
  have cc := zc1 hc
  obtain ⟨a, b, s, cs1, h1, hv, c1⟩ := zn6 hc
  have cc1 := zc1 h1
  obtain ⟨a2, b2, s2, cs2, h2, hv2, c2⟩ := zn6 h1
  have cc2 := zc1 h2
  obtain ⟨n, cs3, h3, hn, c3⟩ := zl4 h2 6 (by decide)
  have cc3 := zc1 h3
  have h0 : EOk 0 [nmD ⟨#[120]⟩ a b s, nmD ⟨#[121]⟩ a2 b2 s2] [tbD ⟨#[116]⟩ none 0 [], tbD ⟨#[117]⟩ none 0 []] := by
    refine ⟨by simp, by simp, fun x hx => ?_, fun x hx => ?_⟩
    · simp only [List.mem_cons, List.not_mem_nil, or_false] at hx
      rcases hx with rfl | rfl
      · exact ⟨_, _, _, _, by decide, hv, rfl⟩
      · exact ⟨_, _, _, _, by decide, hv2, rfl⟩
    · simp only [List.mem_cons, List.not_mem_nil, or_false] at hx
      rcases hx with rfl | rfl
      · exact ⟨_, none, 0, [], by decide, by decide, (fun y hy => by cases hy), rfl⟩
      · exact ⟨_, none, 0, [], by decide, by decide, (fun y hy => by cases hy), rfl⟩
  obtain ⟨cs', ts', h4, h5, el, hR⟩ := ze20 _ n 0 cs3 _ h3 h0 (by omega)
  have cc' := zc1 h4
  have hne : ts'.length = 2 := el
  refine ⟨_, ts', cs', h4, h5, rfl, hne, zt1 Try.func81 rfl rfl ?_⟩
  refine zl ?_
  refine zb fun C => ?_
  repeat' (first | ((apply f_wo); first | ((apply f_mv); first | refine zj1 (v := .c _) ?_ | refine za ?_) | ((apply f_as); first | refine zl1 (v := .c _) ?_ | refine za ?_) | ((apply f_ld); first | refine zm1 ?_ | refine zk2 ?_ | refine n_ld ?_) | ((apply f_st); first | refine n_st ?_ | refine zm2 ?_) | ((apply zt10); first | refine zc5 ?_ | refine za ?_) | ((apply f_bb); first | refine zq2 ?_ | refine zr2 ?_ | refine za ?_) | refine n_al ?_ | refine n_bs ?_ | refine za ?_) | ((apply f_w); first | refine zb1 ?_ | refine zd ?_))
  refine zl ?_
  refine zb fun C => ?_
  repeat' (first | ((apply f_wo); first | ((apply f_mv); first | refine zj1 (v := .c _) ?_ | refine za ?_) | ((apply f_as); first | refine zl1 (v := .c _) ?_ | refine za ?_) | ((apply f_ld); first | refine zm1 ?_ | refine zk2 ?_ | refine n_ld ?_) | ((apply f_ca); first | refine zj3 0 (c1) ?_ (hl := zo1 (by rfl) cc) | refine zj3 0 (c2) ?_ (hl := zo1 (by rfl) cc1)) | ((apply f_st); first | refine n_st ?_ | refine zm2 ?_) | ((apply zt10); first | refine zc5 ?_ | refine za ?_) | ((apply f_bb); first | refine zq2 ?_ | refine zr2 ?_ | refine za ?_) | refine n_al ?_ | refine n_bs ?_ | refine za ?_) | ((apply f_w); first | refine zb1 ?_ | refine zd ?_))
  refine zu2 (zo8 (i := 14) rfl (CLe.cons _ (CLe.nil 82 4 (CLe.cons _ (CLe.nil 82 4 (CLe.refl [])))))) ?_
  refine zu2 (zz5 (i := 3) (j := 11) rfl rfl rfl (pre := []) (post := [_]) rfl) ?_
  refine zu2 (zz5 (i := 3) (j := 14) rfl rfl rfl (pre := [_]) (post := []) rfl) ?_
  repeat' (first | ((apply f_wo); first | ((apply f_mv); first | refine zj1 (v := .c _) ?_ | refine za ?_) | ((apply f_as); first | refine zl1 (v := .c _) ?_ | refine za ?_) | ((apply f_ld); first | refine zm1 ?_ | refine zk2 ?_ | refine n_ld ?_) | ((apply f_ca); first | refine zj3 0 (c3) ?_ (hl := zo1 (by rfl) cc2)) | ((apply f_st); first | refine n_st ?_ | refine zm2 ?_) | ((apply zt10); first | refine zc5 ?_ | refine za ?_) | ((apply f_bb); first | refine zq2 ?_ | refine zr2 ?_ | refine za ?_) | refine n_al ?_ | refine n_bs ?_ | refine za ?_) | ((apply f_w); first | refine zb1 ?_ | refine zd ?_) | refine zb fun C => ?_ | refine zl ?_ | refine zf ?_ | refine zh ?_ | refine zi ?_)
  refine zw3 (fun d : Nat × List AC × List E => ⟨tmsF [(0, .c (.pt 0 0)), (2, .c (.pt 2 0)), (3, .c (.pt 3 0)), (4, .c (.v (.int .i64 (d.1 : Int))))], hpsF [(0, 0, ⟨0, 0, 0, true, d.2.1⟩), (2, 2, ⟨27, 0, 0, true, [.v (.slice none 0 0), .v (.slice none 0 0)]⟩), (3, 3, ⟨27, 0, 0, true, owE (envE [nmD ⟨#[120]⟩ a b s, nmD ⟨#[121]⟩ a2 b2 s2] d.2.2)⟩)], 1, [0, 2, 3], 32⟩)
    (fun N d => N = d.1 ∧ d.1 ≤ 8 ∧ RE [nmD ⟨#[120]⟩ a b s, nmD ⟨#[121]⟩ a2 b2 s2] d.1 d.2.1 d.2.2 cs' ts') n (n, cs3, [tbD ⟨#[116]⟩ none 0 [], tbD ⟨#[117]⟩ none 0 []]) ⟨rfl, by omega, hR⟩ ?_ ?_
  · (refine zv2 _ _ rfl rfl ?_ ?_ <;> (repeat' (first | exact TmOk.nil | exact RwOk.nil | refine TmOk.cons ?_ ?_ | refine RwOk.cons ?_ ?_ | rfl | exact ze2 rfl (by assumption) | (refine rnV_id' rfl ?_; (first | rfl | (simp [cloV, cloL, clo, zo, zn, zp, zm, zk]; done))) | (refine zd3 ?_; first | rfl | omega | (rw [zr1 (by omega) (by omega)]; omega)) | (refine ze2 rfl ?_; (first | rfl | (simp [cloV, cloL, clo, zo, zn, zp, zm, zk]; done))) | exact zd4 rfl rfl | (refine ze4 (by rfl) (by rfl) ?_ ?_ <;> (first | rfl | (simp [cloV, cloL, clo, zo, zn, zp, zm, zk]; done))) | (refine rw_rn' rfl rfl ?_; simp; done))))
  rintro N ⟨i, dcs, dts⟩ ⟨hN, hi8, hr⟩
  dsimp only at hN hi8 hr ⊢
  clear hR
  repeat' (first | ((apply f_wo); first | ((apply f_mv); first | refine zj1 (v := .c _) ?_ | refine za ?_) | ((apply f_as); first | refine zl1 (v := .c _) ?_ | refine za ?_) | ((apply f_ld); first | refine zm1 ?_ | refine zk2 ?_ | refine n_ld ?_) | ((apply f_st); first | refine n_st ?_ | refine zm2 ?_) | ((apply zt10); first | refine zc5 ?_ | refine za ?_) | ((apply f_bb); first | refine zq2 ?_ | refine zr2 ?_ | refine za ?_) | refine n_al ?_ | refine n_bs ?_ | refine za ?_) | ((apply f_w); first | refine zb1 ?_ | refine zd ?_) | refine zb fun C => ?_ | refine zl ?_ | refine zf ?_ | refine zh ?_ | refine zi ?_)
  refine zc2 (by rfl) (fun hC => ?_) fun hC => ?_
  · have hi0 : 0 < i := by have := of_decide_eq_true hC; omega
    obtain ⟨j, rfl⟩ : ∃ j, i = j + 1 := ⟨i - 1, by omega⟩
    obtain ⟨g1, cs5, t5, ⟨nm, k1, k2, k3, q, b0, w, t, q2, b2', w2, f1, f2, d1, d2, d3, d4, rfl, d5⟩, g5⟩ := hr
    have ccd := zc1 g1
    have ck1 := zc1 f1
    have ck2 := zc1 f2
    have ck3 := zc1 (ze19 g5)
    have hw3 : IntKind.i64.wrap (((j + 1 : Nat) : Int) - 1) = (j : Int) := by rw [IntKind.wrap_i64]; omega
    repeat' (first | ((apply f_wo); first | ((apply f_mv); first | refine zj1 (v := .c _) ?_ | refine za ?_) | ((apply f_as); first | refine zl1 (v := .c _) ?_ | refine za ?_) | ((apply f_ld); first | refine zm1 ?_ | refine zk2 ?_ | refine n_ld ?_) | ((apply f_ca); first | refine zv5 0 [23] (d1) ?_ (hl := zo1 (by rfl) ccd) | refine zj3 0 (d2) ?_ (hl := zo1 (by rfl) ck1) | refine zo4 (d3) ?_ | refine zm4 (d3) ?_ | refine zj3 0 (d4) ?_ (hl := zo1 (by rfl) ck2) | refine zj3 3 (d5) ?_) | ((apply f_st); first | refine n_st ?_ | refine zm2 ?_) | ((apply zt10); first | refine zc5 ?_ | refine za ?_) | ((apply f_bb); first | refine zq2 ?_ | refine zr2 ?_ | refine za ?_) | refine n_al ?_ | refine n_bs ?_ | refine za ?_) | ((apply f_w); first | refine zb1 ?_ | refine zd ?_) | refine zb fun C => ?_ | refine zl ?_ | refine zf ?_ | refine zh ?_ | refine zi ?_ | refine zf1 rfl ?_ | refine zg1 rfl ?_)
    refine ⟨j, (j, k3, _), by omega, ⟨rfl, by omega, g5⟩, ?_⟩
    (refine zv2 _ _ rfl rfl ?_ ?_ <;> (repeat' (first | exact TmOk.nil | exact RwOk.nil | refine TmOk.cons ?_ ?_ | refine RwOk.cons ?_ ?_ | rfl | exact ze2 rfl (by assumption) | (refine rnV_id' rfl ?_; (first | rfl | (simp [cloV, cloL, clo, zo, zn, zp, zm, zk]; done))) | (refine zd3 ?_; first | rfl | omega | (rw [zr1 (by omega) (by omega)]; omega)) | (refine ze2 rfl ?_; (first | rfl | (simp [cloV, cloL, clo, zo, zn, zp, zm, zk]; done))) | exact zd4 rfl rfl | (refine ze4 (by rfl) (by rfl) ?_ ?_ <;> (first | rfl | (simp [cloV, cloL, clo, zo, zn, zp, zm, zk]; done))) | (refine rw_rn' rfl rfl ?_; simp; done))))
  · have hi0 : i = 0 := by have := of_decide_eq_false hC; omega
    subst hi0
    obtain ⟨-, rfl, rfl⟩ := hr
    refine zu2 (za6 100 (i := 3) rfl rfl (pre := []) (post := [_]) rfl) ?_
    refine zu2 (za6 101 (i := 3) rfl rfl (pre := [_]) (post := []) rfl) ?_
    repeat' (first | ((apply f_wo); first | ((apply f_mv); first | refine zj1 (v := .c _) ?_ | refine za ?_) | ((apply f_as); first | refine zl1 (v := .c _) ?_ | refine za ?_) | ((apply f_ld); first | refine zm1 ?_ | refine zk2 ?_ | refine n_ld ?_) | ((apply f_st); first | refine n_st ?_ | refine zm2 ?_) | ((apply zt10); first | refine zc5 ?_ | refine za ?_) | ((apply f_bb); first | refine zq2 ?_ | refine zr2 ?_ | refine za ?_) | refine n_al ?_ | refine n_bs ?_ | refine za ?_) | ((apply f_w); first | refine zb1 ?_ | refine zd ?_) | refine zb fun C => ?_ | refine zl ?_ | refine zf ?_ | refine zh ?_ | refine zi ?_)
    refine zu ?_
    exact ret1 rfl (zs3 (zr3 rfl rfl rfl (zm _) (zr3 rfl rfl rfl (zm _) zt2))) rfl cc' (zh3 h4 hc) ⟨rfl, rfl⟩
end Go.Proofs.Ytghljnfbbaklnaa
