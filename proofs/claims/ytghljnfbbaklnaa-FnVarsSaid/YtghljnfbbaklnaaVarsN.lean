/- spec.l14Put, spec.PutEntry: by the abstract machine. -/
import Derived.Lib.SliceRun
import Derived.Shelf.LaysM
import Derived.Shelf.Strconv.Itoa3
import Derived.Test.YtghljnfbbaklnaaVarsM
namespace Go.Proofs.Ytghljnfbbaklnaa
open Go.RowKit
set_option maxRecDepth 100000
def putL (l : List E) (s : ByteArray) (v : E) : List E := match l.findIdx? (isNm s) with | some i => l.set i (.agg [.str (nmE (l[i]?.getD v)), v]) | none => if 20 ≤ l.length then l else l ++ [.agg [.str s, v]]
def putOkL (l : List E) (s : ByteArray) : Bool := match l.findIdx? (isNm s) with | some _ => true | none => !decide (20 ≤ l.length)
def putE (e : E) (nm s : ByteArray) (v : E) : E := .agg [.lst 4 34 none 0 (varsE e), .lst 2 80 none 0 (match (tabsE e).findIdx? (isNm nm) with
  | some k => (tabsE e).set k (.agg [.str (nmE ((tabsE e)[k]?.getD e)), .lst 4 82 none 0 (putL (tabsE ((tabsE e)[k]?.getD e)) s v)]) | none => tabsE e)]
def putOk (e : E) (nm s : ByteArray) : Bool := match (tabsE e).findIdx? (isNm nm) with | some k => putOkL (tabsE ((tabsE e)[k]?.getD e)) s | none => false
theorem zv9 {x0A x1A : Option Addr} {x0c x1c k k' : Nat} {T T' : TypeId} {l l2 : List E} {nm s : ByteArray} {v : E} (h : idxF (isNm nm) l2 = -1) : putE (.agg [.lst k T x0A x0c l, .lst k' T' x1A x1c l2]) nm s v = .agg [.lst 4 34 none 0 l, .lst 2 80 none 0 l2] ∧ putOk (.agg [.lst k T x0A x0c l, .lst k' T' x1A x1c l2]) nm s = false := by
  simp [putE, putOk, varsE, tabsE, zx5 h]
theorem zw9 {x0A x1A zA : Option Addr} {x0c x1c zc k k' kz : Nat} {T T' Tz : TypeId} {l l2 lz : List E} {nm s q : ByteArray} {v : E} {i : Nat} (h : idxF (isNm nm) l2 = (i : Int)) (hx : l2[i]? = some (.agg [.str q, .lst kz Tz zA zc lz])) :
    putE (.agg [.lst k T x0A x0c l, .lst k' T' x1A x1c l2]) nm s v = .agg [.lst 4 34 none 0 l, .lst 2 80 none 0 (l2.set i (.agg [.str q, .lst 4 82 none 0 (putL lz s v)]))] ∧ putOk (.agg [.lst k T x0A x0c l, .lst k' T' x1A x1c l2]) nm s = putOkL lz s := by
  simp [putE, putOk, varsE, tabsE, zj6 h, hx, nmE]
theorem zd15 {l2 : List E} {k c kz : Nat} {q : ByteArray} {T : TypeId} {A : Option Addr} {m : List E} (hx : l2[k]? = some (.agg [.str q, .lst kz T A c m])) : owL l2 = (owL (l2.take k) ++ [.v (.string q)]) ++ .ow T m.length kz (owL m) :: owL (l2.drop (k + 1)) := by
  rw [zl9 hx, List.append_assoc]; rfl
theorem zb19 {l2 : List E} {k c kz : Nat} {q : ByteArray} {T : TypeId} {A : Option Addr} {m : List E} (hk : k < l2.length) : owL (l2.set k (.agg [.str q, .lst kz T A c m])) = (owL (l2.take k) ++ [.v (.string q)]) ++ .ow T m.length kz (owL m) :: owL (l2.drop (k + 1)) := by
  rw [zn18 hk, List.append_assoc]; rfl
theorem ze15 {l : List E} {s : ByteArray} {v : E} (h : idxF (isNm s) l = -1) (hl : 20 ≤ l.length) : putL l s v = l ∧ putOkL l s = false := by simp [putL, putOkL, zx5 h, hl]
theorem zt16 {l : List E} {s : ByteArray} {v : E} (h : idxF (isNm s) l = -1) (hl : ¬ 20 ≤ l.length) : putL l s v = l ++ [.agg [.str s, v]] ∧ putOkL l s = true := by simp [putL, putOkL, zx5 h, hl]
theorem zu16 {l : List E} {s q : ByteArray} {v v0 : E} {i : Nat} (h : idxF (isNm s) l = (i : Int)) (hx : l[i]? = some (.agg [.str q, v0])) : putL l s v = l.set i (.agg [.str q, v]) ∧ putOkL l s = true := by simp [putL, putOkL, zj6 h, hx, nmE]
-- CASES
set_option maxHeartbeats 600000 in
theorem za20 {x0A x1A y1A : Option Addr} {x0c x1c y1c : Nat} {l l2 y1 : List E} {v0 v1 : Int} {v2 y0 nm s : ByteArray} {k : Nat} (hk2 : ∀ e ∈ l2, e.enc.length = 2) (hlen : l.length ≤ 1048576) (hlen2 : l2.length ≤ 1048576) (hy1l : y1.length ≤ 1048576) (hlt : k < l2.length) (hx : l2[k]? = some (.agg [.str y0, .lst 4 82 y1A y1c y1]))
    (ca : Ctr Try.prog 100 [.ag (acE (E.agg [.lst 4 34 x0A x0c l, .lst 2 80 x1A x1c l2])), .c (.v (.string nm))] [] (.c (.v (.int .i64 k))) []) (h20 : 20 ≤ y1.length) (cky : Ctr Try.prog 101 [.ag (acE (.agg [.str y0, .lst 4 82 y1A y1c y1])), .c (.v (.string s))] [] (.c (.v (.int .i64 (-1)))) []) :
    Ctr Try.prog 59 [.c (.pt 0 0), .c (.v (.string nm)), .c (.v (.string s)), .ag (acE (.agg [.int .i64 v0, .int .i64 v1, .str v2]))] [owE (E.agg [.lst 4 34 x0A x0c l, .lst 2 80 x1A x1c l2])] (.c (.v (.bool false))) [[.ow 34 l.length 4 (owL l), .ow 80 l2.length 2 ((owL (l2.take k) ++ [.v (.string y0)]) ++ .ow 82 y1.length 4 (owL y1) :: owL (l2.drop (k + 1)))]] := by
  have hP := zt5 (k := k) hk2 (Nat.le_of_lt hlt)
  have hs1 : subL ((owL (l2.take k) ++ [.v (.string y0)]) ++ .sl 102 y1.length :: owL (l2.drop (k + 1))) (k * 2) 2 = [.v (.string y0), .sl 102 y1.length] := zq8 hP
  have hs2 : subL ((owL (l2.take k) ++ [.v (.string y0)]) ++ .sl 102 y1.length :: owL (l2.drop (k + 1))) (k * 2 + 1) 1 = [.sl 102 y1.length] := zr8 hP
  have hle : k * 2 + 1 + 1 ≤ ((owL (l2.take k) ++ [AC.v (.string y0)]) ++ AC.sl 102 y1.length :: owL (l2.drop (k + 1))).length := by simp [hP]; omega
  refine zt1 Try.func59 rfl rfl ?_
  refine zu2 (za6 100 (i := 0) rfl rfl (pre := []) (post := [_]) rfl) ?_
  refine zu2 (za6 101 (i := 0) rfl rfl (pre := [_]) (post := []) rfl) ?_
  repeat (first | refine zl ?_ | refine zf ?_ | refine zh ?_ | refine zi ?_ | refine zb fun C => ?_ | refine ze (by kernel_rfl) (by kernel_rfl) fun C => ?_ | refine zd ?_ | refine zp1 ?_ | refine x_bs ?_ | refine x_gr ?_ | refine x_st ?_ | refine x_mv ?_ | refine x_sk ?_ | refine zz1 ?_ | refine x_ix ?_ | refine za2 ?_ | refine zb2 ?_ | refine zs1 ?_ | refine ze1 ?_ | refine x_ld ?_)
  refine za5 110 ca ?_
  repeat (first | refine zl ?_ | refine zf ?_ | refine zh ?_ | refine zi ?_ | refine zb fun C => ?_ | refine ze (by kernel_rfl) (by kernel_rfl) fun C => ?_ | refine zd ?_ | refine zp1 ?_ | refine x_bs ?_ | refine x_gr ?_ | refine x_st ?_ | refine x_mv ?_ | refine x_sk ?_ | refine zz1 ?_ | refine x_ix ?_ | refine za2 ?_ | refine zb2 ?_ | refine zs1 ?_ | refine ze1 ?_ | refine x_ld ?_)
  refine zd2 (by rfl) (fun h1 => ?_) fun h1 => ?_
  · exact absurd (of_decide_eq_true h1) (by omega)
  refine zu2 (za6 102 (i := 101) rfl rfl (pre := (owL (l2.take k) ++ [.v (.string y0)])) (post := owL (l2.drop (k + 1))) (zd15 hx)) ?_
  repeat (first | refine zl ?_ | refine zf ?_ | refine zh ?_ | refine zi ?_ | refine zb fun C => ?_ | refine ze (by kernel_rfl) (by kernel_rfl) fun C => ?_ | refine zd ?_ | refine zp1 ?_ | refine x_bs ?_ | refine x_gr ?_ | refine x_st ?_ | refine x_mv ?_ | refine x_sk ?_ | refine zz1 ?_ | refine x_ix ?_ | refine za2 ?_ | refine zb2 ?_ | refine zs1 ?_ | refine ze1 ?_ | refine x_ld ?_)
  refine za5 120 cky ?_
  repeat (first | refine zl ?_ | refine zf ?_ | refine zh ?_ | refine zi ?_ | refine zb fun C => ?_ | refine ze (by kernel_rfl) (by kernel_rfl) fun C => ?_ | refine zd ?_ | refine zp1 ?_ | refine x_bs ?_ | refine x_gr ?_ | refine x_st ?_ | refine x_mv ?_ | refine x_sk ?_ | refine zz1 ?_ | refine x_ix ?_ | refine za2 ?_ | refine zb2 ?_ | refine zs1 ?_ | refine ze1 ?_ | refine x_ld ?_)
  refine zd2 (by rfl) (fun h2 => ?_) fun h2 => ?_
  rotate_left
  · exact absurd (of_decide_eq_false h2) (by omega)
  repeat (first | refine zl ?_ | refine zf ?_ | refine zh ?_ | refine zi ?_ | refine zb fun C => ?_ | refine ze (by kernel_rfl) (by kernel_rfl) fun C => ?_ | refine zd ?_ | refine zp1 ?_ | refine x_bs ?_ | refine x_gr ?_ | refine x_st ?_ | refine x_mv ?_ | refine x_sk ?_ | refine zz1 ?_ | refine x_ix ?_ | refine za2 ?_ | refine zb2 ?_ | refine zs1 ?_ | refine ze1 ?_ | refine x_ld ?_)
  refine zu2 (zz5 (i := 101) (j := 102) rfl rfl rfl (pre := (owL (l2.take k) ++ [.v (.string y0)])) (post := owL (l2.drop (k + 1))) rfl) ?_
  refine zu2 (zz5 (i := 0) (j := 100) rfl rfl rfl (pre := []) (post := [_]) rfl) ?_
  refine zu2 (zz5 (i := 0) (j := 101) rfl rfl rfl (pre := [_]) (post := []) rfl) ?_
  refine zu ?_
  refine retL (x := .c (.v (.bool false))) rfl zb5 rfl ?_ rfl ⟨rfl, rfl⟩
  first | rfl | (simp [cloV, cloL, clo, zo, zn, zp, zm, zk]; done)
set_option maxHeartbeats 600000 in
theorem zb20 {x0A x1A y1A : Option Addr} {x0c x1c y1c : Nat} {l l2 y1 : List E} {v0 v1 : Int} {v2 y0 nm s : ByteArray} {k : Nat} (hk2 : ∀ e ∈ l2, e.enc.length = 2) (hlen : l.length ≤ 1048576) (hlen2 : l2.length ≤ 1048576) (hy1l : y1.length ≤ 1048576) (hlt : k < l2.length) (hx : l2[k]? = some (.agg [.str y0, .lst 4 82 y1A y1c y1]))
    (ca : Ctr Try.prog 100 [.ag (acE (E.agg [.lst 4 34 x0A x0c l, .lst 2 80 x1A x1c l2])), .c (.v (.string nm))] [] (.c (.v (.int .i64 k))) []) (h20 : ¬ 20 ≤ y1.length) (cky : Ctr Try.prog 101 [.ag (acE (.agg [.str y0, .lst 4 82 y1A y1c y1])), .c (.v (.string s))] [] (.c (.v (.int .i64 (-1)))) []) :
    Ctr Try.prog 59 [.c (.pt 0 0), .c (.v (.string nm)), .c (.v (.string s)), .ag (acE (.agg [.int .i64 v0, .int .i64 v1, .str v2]))] [owE (E.agg [.lst 4 34 x0A x0c l, .lst 2 80 x1A x1c l2])] (.c (.v (.bool true))) [[.ow 34 l.length 4 (owL l), .ow 80 l2.length 2 ((owL (l2.take k) ++ [.v (.string y0)]) ++ .ow 82 (y1.length + 1) 4 (owL (y1 ++ [.agg [.str s, (.agg [.int .i64 v0, .int .i64 v1, .str v2])]])) :: owL (l2.drop (k + 1)))]] := by
  have hP := zt5 (k := k) hk2 (Nat.le_of_lt hlt)
  have hs1 : subL ((owL (l2.take k) ++ [.v (.string y0)]) ++ .sl 102 y1.length :: owL (l2.drop (k + 1))) (k * 2) 2 = [.v (.string y0), .sl 102 y1.length] := zq8 hP
  have hs2 : subL ((owL (l2.take k) ++ [.v (.string y0)]) ++ .sl 102 y1.length :: owL (l2.drop (k + 1))) (k * 2 + 1) 1 = [.sl 102 y1.length] := zr8 hP
  have hle : k * 2 + 1 + 1 ≤ ((owL (l2.take k) ++ [AC.v (.string y0)]) ++ AC.sl 102 y1.length :: owL (l2.drop (k + 1))).length := by simp [hP]; omega
  refine zt1 Try.func59 rfl rfl ?_
  refine zu2 (za6 100 (i := 0) rfl rfl (pre := []) (post := [_]) rfl) ?_
  refine zu2 (za6 101 (i := 0) rfl rfl (pre := [_]) (post := []) rfl) ?_
  repeat (first | refine zl ?_ | refine zf ?_ | refine zh ?_ | refine zi ?_ | refine zb fun C => ?_ | refine ze (by kernel_rfl) (by kernel_rfl) fun C => ?_ | refine zd ?_ | refine zp1 ?_ | refine x_bs ?_ | refine x_gr ?_ | refine x_st ?_ | refine x_mv ?_ | refine x_sk ?_ | refine zz1 ?_ | refine x_ix ?_ | refine za2 ?_ | refine zb2 ?_ | refine zs1 ?_ | refine ze1 ?_ | refine x_ld ?_)
  refine za5 110 ca ?_
  repeat (first | refine zl ?_ | refine zf ?_ | refine zh ?_ | refine zi ?_ | refine zb fun C => ?_ | refine ze (by kernel_rfl) (by kernel_rfl) fun C => ?_ | refine zd ?_ | refine zp1 ?_ | refine x_bs ?_ | refine x_gr ?_ | refine x_st ?_ | refine x_mv ?_ | refine x_sk ?_ | refine zz1 ?_ | refine x_ix ?_ | refine za2 ?_ | refine zb2 ?_ | refine zs1 ?_ | refine ze1 ?_ | refine x_ld ?_)
  refine zd2 (by rfl) (fun h1 => ?_) fun h1 => ?_
  · exact absurd (of_decide_eq_true h1) (by omega)
  refine zu2 (za6 102 (i := 101) rfl rfl (pre := (owL (l2.take k) ++ [.v (.string y0)])) (post := owL (l2.drop (k + 1))) (zd15 hx)) ?_
  repeat (first | refine zl ?_ | refine zf ?_ | refine zh ?_ | refine zi ?_ | refine zb fun C => ?_ | refine ze (by kernel_rfl) (by kernel_rfl) fun C => ?_ | refine zd ?_ | refine zp1 ?_ | refine x_bs ?_ | refine x_gr ?_ | refine x_st ?_ | refine x_mv ?_ | refine x_sk ?_ | refine zz1 ?_ | refine x_ix ?_ | refine za2 ?_ | refine zb2 ?_ | refine zs1 ?_ | refine ze1 ?_ | refine x_ld ?_)
  refine za5 120 cky ?_
  repeat (first | refine zl ?_ | refine zf ?_ | refine zh ?_ | refine zi ?_ | refine zb fun C => ?_ | refine ze (by kernel_rfl) (by kernel_rfl) fun C => ?_ | refine zd ?_ | refine zp1 ?_ | refine x_bs ?_ | refine x_gr ?_ | refine x_st ?_ | refine x_mv ?_ | refine x_sk ?_ | refine zz1 ?_ | refine x_ix ?_ | refine za2 ?_ | refine zb2 ?_ | refine zs1 ?_ | refine ze1 ?_ | refine x_ld ?_)
  refine zd2 (by rfl) (fun h2 => ?_) fun h2 => ?_
  · exact absurd (of_decide_eq_true h2) (by omega)
  repeat (first | refine zl ?_ | refine zf ?_ | refine zh ?_ | refine zi ?_ | refine zb fun C => ?_ | refine ze (by kernel_rfl) (by kernel_rfl) fun C => ?_ | refine zd ?_ | refine zp1 ?_ | refine x_bs ?_ | refine x_gr ?_ | refine x_st ?_ | refine x_mv ?_ | refine x_sk ?_ | refine zz1 ?_ | refine x_ix ?_ | refine za2 ?_ | refine zb2 ?_ | refine zs1 ?_ | refine ze1 ?_ | refine x_ld ?_)
  refine zd2 (by rfl) (fun h3 => ?_) fun h3 => ?_
  rotate_left
  · simp at h3
  repeat (first | refine zl ?_ | refine zf ?_ | refine zh ?_ | refine zi ?_ | refine zb fun C => ?_ | refine ze (by kernel_rfl) (by kernel_rfl) fun C => ?_ | refine zd ?_ | refine zp1 ?_ | refine x_bs ?_ | refine x_gr ?_ | refine x_st ?_ | refine x_mv ?_ | refine x_sk ?_ | refine zz1 ?_ | refine x_ix ?_ | refine za2 ?_ | refine zb2 ?_ | refine zs1 ?_ | refine ze1 ?_ | refine x_ld ?_)
  refine zu2 (zz5 (i := 101) (j := 51) rfl rfl rfl (pre := (owL (l2.take k) ++ [.v (.string y0)])) (post := owL (l2.drop (k + 1))) (zo18 hP)) ?_
  refine zu2 (zz5 (i := 0) (j := 100) rfl rfl rfl (pre := []) (post := [_]) rfl) ?_
  refine zu2 (zz5 (i := 0) (j := 101) rfl rfl rfl (pre := [_]) (post := []) rfl) ?_
  refine zu ?_
  refine retL (x := .c (.v (.bool true))) (cs := [.ow 34 l.length 4 (owL l), .ow 80 l2.length 2 ((owL (l2.take k) ++ [.v (.string y0)]) ++ .ow 82 (y1.length + 1) 4 (owL y1 ++ [.v (.string s), .v (.int .i64 v0), .v (.int .i64 v1), .v (.string v2)]) :: owL (l2.drop (k + 1)))]) rfl zb5 rfl ?_ rfl ⟨rfl, ?_⟩
  · first | rfl | (simp [cloV, cloL, clo, zo, zn, zp, zm, zk]; done)
  · rw [zc6]; rfl
set_option maxHeartbeats 600000 in
theorem zc20 {x0A x1A y1A : Option Addr} {x0c x1c y1c : Nat} {l l2 y1 : List E} {v0 v1 : Int} {v2 y0 nm s : ByteArray} {k : Nat} (hk2 : ∀ e ∈ l2, e.enc.length = 2) (hlen : l.length ≤ 1048576) (hlen2 : l2.length ≤ 1048576) (hy1l : y1.length ≤ 1048576) (hlt : k < l2.length) (hx : l2[k]? = some (.agg [.str y0, .lst 4 82 y1A y1c y1]))
    (ca : Ctr Try.prog 100 [.ag (acE (E.agg [.lst 4 34 x0A x0c l, .lst 2 80 x1A x1c l2])), .c (.v (.string nm))] [] (.c (.v (.int .i64 k))) []) {i : Nat} {q w2 : ByteArray} {w0 w1 : Int} (hk1 : ∀ e ∈ y1, e.enc.length = 4) (hit : i < y1.length) (hz : y1[i]? = some (.agg [.str q, .agg [.int .i64 w0, .int .i64 w1, .str w2]])) (cky : Ctr Try.prog 101 [.ag (acE (.agg [.str y0, .lst 4 82 y1A y1c y1])), .c (.v (.string s))] [] (.c (.v (.int .i64 (i)))) []) :
    Ctr Try.prog 59 [.c (.pt 0 0), .c (.v (.string nm)), .c (.v (.string s)), .ag (acE (.agg [.int .i64 v0, .int .i64 v1, .str v2]))] [owE (E.agg [.lst 4 34 x0A x0c l, .lst 2 80 x1A x1c l2])] (.c (.v (.bool true))) [[.ow 34 l.length 4 (owL l), .ow 80 l2.length 2 ((owL (l2.take k) ++ [.v (.string y0)]) ++ .ow 82 y1.length 4 (owL (y1.set i (.agg [.str q, (.agg [.int .i64 v0, .int .i64 v1, .str v2])]))) :: owL (l2.drop (k + 1)))]] := by
  have hle2 : i * 4 + 1 + 3 ≤ (owL y1).length := zr10 hk1 hit (by omega)
  have hP := zt5 (k := k) hk2 (Nat.le_of_lt hlt)
  have hs1 : subL ((owL (l2.take k) ++ [.v (.string y0)]) ++ .sl 102 y1.length :: owL (l2.drop (k + 1))) (k * 2) 2 = [.v (.string y0), .sl 102 y1.length] := zq8 hP
  have hs2 : subL ((owL (l2.take k) ++ [.v (.string y0)]) ++ .sl 102 y1.length :: owL (l2.drop (k + 1))) (k * 2 + 1) 1 = [.sl 102 y1.length] := zr8 hP
  have hle : k * 2 + 1 + 1 ≤ ((owL (l2.take k) ++ [AC.v (.string y0)]) ++ AC.sl 102 y1.length :: owL (l2.drop (k + 1))).length := by simp [hP]; omega
  refine zt1 Try.func59 rfl rfl ?_
  refine zu2 (za6 100 (i := 0) rfl rfl (pre := []) (post := [_]) rfl) ?_
  refine zu2 (za6 101 (i := 0) rfl rfl (pre := [_]) (post := []) rfl) ?_
  repeat (first | refine zl ?_ | refine zf ?_ | refine zh ?_ | refine zi ?_ | refine zb fun C => ?_ | refine ze (by kernel_rfl) (by kernel_rfl) fun C => ?_ | refine zd ?_ | refine zp1 ?_ | refine x_bs ?_ | refine x_gr ?_ | refine x_st ?_ | refine x_mv ?_ | refine x_sk ?_ | refine zz1 ?_ | refine x_ix ?_ | refine za2 ?_ | refine zb2 ?_ | refine zs1 ?_ | refine ze1 ?_ | refine x_ld ?_)
  refine za5 110 ca ?_
  repeat (first | refine zl ?_ | refine zf ?_ | refine zh ?_ | refine zi ?_ | refine zb fun C => ?_ | refine ze (by kernel_rfl) (by kernel_rfl) fun C => ?_ | refine zd ?_ | refine zp1 ?_ | refine x_bs ?_ | refine x_gr ?_ | refine x_st ?_ | refine x_mv ?_ | refine x_sk ?_ | refine zz1 ?_ | refine x_ix ?_ | refine za2 ?_ | refine zb2 ?_ | refine zs1 ?_ | refine ze1 ?_ | refine x_ld ?_)
  refine zd2 (by rfl) (fun h1 => ?_) fun h1 => ?_
  · exact absurd (of_decide_eq_true h1) (by omega)
  refine zu2 (za6 102 (i := 101) rfl rfl (pre := (owL (l2.take k) ++ [.v (.string y0)])) (post := owL (l2.drop (k + 1))) (zd15 hx)) ?_
  repeat (first | refine zl ?_ | refine zf ?_ | refine zh ?_ | refine zi ?_ | refine zb fun C => ?_ | refine ze (by kernel_rfl) (by kernel_rfl) fun C => ?_ | refine zd ?_ | refine zp1 ?_ | refine x_bs ?_ | refine x_gr ?_ | refine x_st ?_ | refine x_mv ?_ | refine x_sk ?_ | refine zz1 ?_ | refine x_ix ?_ | refine za2 ?_ | refine zb2 ?_ | refine zs1 ?_ | refine ze1 ?_ | refine x_ld ?_)
  refine za5 120 cky ?_
  repeat (first | refine zl ?_ | refine zf ?_ | refine zh ?_ | refine zi ?_ | refine zb fun C => ?_ | refine ze (by kernel_rfl) (by kernel_rfl) fun C => ?_ | refine zd ?_ | refine zp1 ?_ | refine x_bs ?_ | refine x_gr ?_ | refine x_st ?_ | refine x_mv ?_ | refine x_sk ?_ | refine zz1 ?_ | refine x_ix ?_ | refine za2 ?_ | refine zb2 ?_ | refine zs1 ?_ | refine ze1 ?_ | refine x_ld ?_)
  refine zd2 (by rfl) (fun h2 => ?_) fun h2 => ?_
  · simp at h2
  repeat (first | refine zl ?_ | refine zf ?_ | refine zh ?_ | refine zi ?_ | refine zb fun C => ?_ | refine ze (by kernel_rfl) (by kernel_rfl) fun C => ?_ | refine zd ?_ | refine zp1 ?_ | refine x_bs ?_ | refine x_gr ?_ | refine x_st ?_ | refine x_mv ?_ | refine x_sk ?_ | refine zz1 ?_ | refine x_ix ?_ | refine za2 ?_ | refine zb2 ?_ | refine zs1 ?_ | refine ze1 ?_ | refine x_ld ?_)
  refine zd2 (by rfl) (fun h3 => ?_) fun h3 => ?_
  · exact absurd (of_decide_eq_true h3) (by omega)
  repeat (first | refine zl ?_ | refine zf ?_ | refine zh ?_ | refine zi ?_ | refine zb fun C => ?_ | refine ze (by kernel_rfl) (by kernel_rfl) fun C => ?_ | refine zd ?_ | refine zp1 ?_ | refine x_bs ?_ | refine x_gr ?_ | refine x_st ?_ | refine x_mv ?_ | refine x_sk ?_ | refine zz1 ?_ | refine x_ix ?_ | refine za2 ?_ | refine zb2 ?_ | refine zs1 ?_ | refine ze1 ?_ | refine x_ld ?_)
  refine zu2 (zz5 (i := 101) (j := 102) rfl rfl rfl (pre := (owL (l2.take k) ++ [.v (.string y0)])) (post := owL (l2.drop (k + 1))) rfl) ?_
  refine zu2 (zz5 (i := 0) (j := 100) rfl rfl rfl (pre := []) (post := [_]) rfl) ?_
  refine zu2 (zz5 (i := 0) (j := 101) rfl rfl rfl (pre := [_]) (post := []) rfl) ?_
  refine zu ?_
  have e1 : spl (owL y1) (i * 4 + 1) [.v (.int .i64 v0), .v (.int .i64 v1), .v (.string v2)] = owL (y1.set i (.agg [.str q, .agg [.int .i64 v0, .int .i64 v1, .str v2]])) := zq10 hk1 hz (by simp) rfl
  refine retL (x := .c (.v (.bool true))) (cs := [.ow 34 l.length 4 (owL l), .ow 80 l2.length 2 ((owL (l2.take k) ++ [.v (.string y0)]) ++ .ow 82 y1.length 4 (spl (owL y1) (i * 4 + 1) [.v (.int .i64 v0), .v (.int .i64 v1), .v (.string v2)]) :: owL (l2.drop (k + 1)))]) rfl zb5 rfl ?_ rfl ⟨rfl, ?_⟩
  · rw [e1]; first | rfl | (simp [cloV, cloL, clo, zo, zn, zp, zm, zk]; done)
  · rw [e1]
set_option maxHeartbeats 600000 in
theorem zd20 {x0A x1A : Option Addr} {x0c x1c : Nat} {l l2 : List E} {v0 v1 : Int} {v2 nm s : ByteArray} (hlen : l.length ≤ 1048576) (hlen2 : l2.length ≤ 1048576) (ca : Ctr Try.prog 100 [.ag (acE (E.agg [.lst 4 34 x0A x0c l, .lst 2 80 x1A x1c l2])), .c (.v (.string nm))] [] (.c (.v (.int .i64 (-1)))) []) :
    Ctr Try.prog 59 [.c (.pt 0 0), .c (.v (.string nm)), .c (.v (.string s)), .ag (acE (.agg [.int .i64 v0, .int .i64 v1, .str v2]))] [owE (E.agg [.lst 4 34 x0A x0c l, .lst 2 80 x1A x1c l2])] (.c (.v (.bool false))) [owE (E.agg [.lst 4 34 x0A x0c l, .lst 2 80 x1A x1c l2])] := by
  refine zt1 Try.func59 rfl rfl ?_
  refine zu2 (za6 100 (i := 0) rfl rfl (pre := []) (post := [_]) rfl) ?_
  refine zu2 (za6 101 (i := 0) rfl rfl (pre := [_]) (post := []) rfl) ?_
  repeat (first | refine zl ?_ | refine zf ?_ | refine zh ?_ | refine zi ?_ | refine zb fun C => ?_ | refine ze (by kernel_rfl) (by kernel_rfl) fun C => ?_ | refine zd ?_ | refine zp1 ?_ | refine x_bs ?_ | refine x_gr ?_ | refine x_st ?_ | refine x_mv ?_ | refine x_sk ?_ | refine zz1 ?_ | refine x_ix ?_ | refine za2 ?_ | refine zb2 ?_ | refine zs1 ?_ | refine ze1 ?_ | refine x_ld ?_)
  refine za5 110 ca ?_
  repeat (first | refine zl ?_ | refine zf ?_ | refine zh ?_ | refine zi ?_ | refine zb fun C => ?_ | refine ze (by kernel_rfl) (by kernel_rfl) fun C => ?_ | refine zd ?_ | refine zp1 ?_ | refine x_bs ?_ | refine x_gr ?_ | refine x_st ?_ | refine x_mv ?_ | refine x_sk ?_ | refine zz1 ?_ | refine x_ix ?_ | refine za2 ?_ | refine zb2 ?_ | refine zs1 ?_ | refine ze1 ?_ | refine x_ld ?_)
  refine zd2 (by rfl) (fun h1 => ?_) fun h1 => ?_
  rotate_left
  · simp at h1
  repeat (first | refine zl ?_ | refine zf ?_ | refine zh ?_ | refine zi ?_ | refine zb fun C => ?_ | refine ze (by kernel_rfl) (by kernel_rfl) fun C => ?_ | refine zd ?_ | refine zp1 ?_ | refine x_bs ?_ | refine x_gr ?_ | refine x_st ?_ | refine x_mv ?_ | refine x_sk ?_ | refine zz1 ?_ | refine x_ix ?_ | refine za2 ?_ | refine zb2 ?_ | refine zs1 ?_ | refine ze1 ?_ | refine x_ld ?_)
  refine zu2 (zz5 (i := 0) (j := 100) rfl rfl rfl (pre := []) (post := [_]) rfl) ?_
  refine zu2 (zz5 (i := 0) (j := 101) rfl rfl rfl (pre := [_]) (post := []) rfl) ?_
  refine zu ?_
  refine retL (x := .c (.v (.bool false))) rfl zb5 rfl ?_ rfl ⟨rfl, rfl⟩
  first | rfl | (simp [cloV, cloL, clo, zo, zn, zp, zm, zk]; done)
theorem za12 {e v : E} (he : e.Ty Try.prog 27) (hv : v.Ty Try.prog 29) (nm s : ByteArray) (hsz : e.sz ≤ 1048576) : Ctr Try.prog 59 [.c (.pt 0 0), .c (.v (.string nm)), .c (.v (.string s)), .ag (acE v)] [owE e] (.c (.v (.bool (putOk e nm s)))) [owE (putE e nm s v)] := by
  have ca := za19 he nm hsz
  obtain ⟨x0A, x0c, l, x1A, x1c, l2, rfl, ⟨hl, hk⟩, ⟨hl2, hk2⟩, -⟩ := zi3 he
  have hlen : l.length ≤ 1048576 := by simp only [E.sz, E.szL] at hsz; omega
  have hlen2 : l2.length ≤ 1048576 := by simp only [E.sz, E.szL] at hsz; omega
  obtain ⟨v0, v1, v2, rfl, -⟩ := za4 hv
  rcases zn4 (isNm nm) l2 with h0 | ⟨k, h0, hlt⟩
  · rw [show tabsE _ = l2 from rfl, h0] at ca
    obtain ⟨p1, p2⟩ := zv9 (x0A := x0A) (x1A := x1A) (x0c := x0c) (x1c := x1c) (k := 4) (k' := 2) (T := 34) (T' := 80) (l := l) (s := s) (v := .agg [.int .i64 v0, .int .i64 v1, .str v2]) h0
    rw [p1, p2]
    exact zd20 hlen hlen2 ca
  · rw [show tabsE _ = l2 from rfl, h0] at ca
    obtain ⟨x, hx⟩ : ∃ x, l2[k]? = some x := ⟨_, List.getElem?_eq_getElem hlt⟩
    have hxt := hl2 x (List.mem_of_getElem? hx)
    have hxs : x.sz ≤ 1048576 := by
      have := E.szL_mem (List.mem_of_getElem? hx)
      simp only [E.sz, E.szL] at hsz; omega
    have cky := zs16 hxt s hxs
    obtain ⟨y0, y1A, y1c, y1, rfl, hy0, ⟨hy1, hy1k⟩, -⟩ := zz3 hxt
    have hy1l : y1.length ≤ 1048576 := by simp only [E.sz, E.szL] at hxs; omega
    obtain ⟨p1, p2⟩ := zw9 (x0A := x0A) (x1A := x1A) (x0c := x0c) (x1c := x1c) (k := 4) (k' := 2) (T := 34) (T' := 80) (l := l) (s := s) (v := .agg [.int .i64 v0, .int .i64 v1, .str v2]) h0 hx
    rw [p1, p2]
    have hr : ∀ m : List E, [owE (.agg [.lst 4 34 none 0 l, .lst 2 80 none 0 (l2.set k (.agg [.str y0, .lst 4 82 none 0 m]))])] = [[.ow 34 l.length 4 (owL l), .ow 80 l2.length 2 ((owL (l2.take k) ++ [.v (.string y0)]) ++ .ow 82 m.length 4 (owL m) :: owL (l2.drop (k + 1)))]] := by
      intro m
      simp only [owE, owL, List.length_set, List.append_nil]
      rw [zb19 hlt]; rfl
    rcases zn4 (isNm s) y1 with j0 | ⟨i, j0, hit⟩
    · rw [show tabsE _ = y1 from rfl, j0] at cky
      by_cases h20 : 20 ≤ y1.length
      · obtain ⟨q1, q2⟩ := ze15 (v := .agg [.int .i64 v0, .int .i64 v1, .str v2]) j0 h20
        rw [q1, q2, hr]
        exact za20 hk2 hlen hlen2 hy1l hlt hx ca h20 cky
      · obtain ⟨q1, q2⟩ := zt16 (v := .agg [.int .i64 v0, .int .i64 v1, .str v2]) j0 h20
        rw [q1, q2, hr, List.length_append]
        exact zb20 hk2 hlen hlen2 hy1l hlt hx ca h20 cky
    · rw [show tabsE _ = y1 from rfl, j0] at cky
      obtain ⟨z, hz⟩ : ∃ z, y1[i]? = some z := ⟨_, List.getElem?_eq_getElem hit⟩
      obtain ⟨z0, z1, z2, z3, rfl, hz0⟩ := zy4 (hy1 z (List.mem_of_getElem? hz))
      obtain ⟨q1, q2⟩ := zu16 (v := .agg [.int .i64 v0, .int .i64 v1, .str v2]) j0 hz
      rw [q1, q2, hr, List.length_set]
      exact zc20 hk2 hlen hlen2 hy1l hlt hx ca hy1k hit hz cky
set_option maxRecDepth 100000
set_option maxRecDepth 100000
def zV : E := .agg [.int .i64 0, .int .i64 0, .str ByteArray.empty]
theorem ze6 {p : E → Bool} {x : E} : ∀ {l : List E} {k : Nat}, (∀ y, l[k]? = some y → p x = p y) → (l.set k x).findIdx? p = l.findIdx? p
  | [], _, _ => rfl
  | a :: r, 0, h => by simp [List.findIdx?_cons, h a rfl]
  | a :: r, k + 1, h => by
    have ih := ze6 (p := p) (x := x) (l := r) (k := k) fun y hy => h y (by simpa using hy)
    simp [List.findIdx?_cons, ih]
theorem zr7 {p : E → Bool} : ∀ {l : List E} {k : Nat}, l.findIdx? p = some k → ∃ x, l[k]? = some x ∧ p x = true := fun {l k} h => by
  obtain ⟨x, h1, h2⟩ := zh14 (p := p) (l := l) (k := k) (by simp [idxF, h])
  exact ⟨x, h1, h2⟩
def Nms (l : List E) : Prop := ∀ x ∈ l, ∃ (q : ByteArray) (v : E), x = .agg [.str q, v]
def vlL (l : List E) (s : ByteArray) : E := match l.findIdx? (isNm s) with | some k => vlE (l[k]?.getD zV) | none => zV
def hasL (l : List E) (s : ByteArray) : Bool := (l.findIdx? (isNm s)).isSome
theorem zx9 {l : List E} {s q : ByteArray} {v : E} {k : Nat} (h : idxF (isNm s) l = (k : Int)) (hx : l[k]? = some (.agg [.str q, v])) : vlL l s = v ∧ hasL l s = true := by
  simp [vlL, hasL, zj6 h, hx, vlE]
theorem zy9 {l : List E} {s : ByteArray} (h : idxF (isNm s) l = -1) : vlL l s = zV ∧ hasL l s = false := by
  simp [vlL, hasL, zx5 h]
theorem zz20 {s t q : ByteArray} {v w : E} (h : (s.toList == t.toList) = false) (h1 : isNm s (.agg [.str q, v]) = true) (h2 : isNm t (.agg [.str q, w]) = true) : False := by
  simp only [isNm, nmE, beq_iff_eq] at h1 h2
  rw [← h1, ← h2] at h
  simp at h
theorem zz9 {l : List E} (hl : Nms l) {s t : ByteArray} (v : E) (h : (s.toList == t.toList) = false) : vlL (setVarL l t v) s = vlL l s := by
  unfold setVarL
  cases hk : l.findIdx? (isNm t) with
  | none => rfl
  | some k =>
    obtain ⟨x, hx, hp⟩ := zr7 hk
    obtain ⟨q, v0, rfl⟩ := hl x (List.mem_of_getElem? hx)
    simp only [hx, Option.getD_some, nmE]
    unfold vlL
    rw [ze6 (p := isNm s) (x := .agg [.str q, v]) (l := l) (k := k) fun y hy => by rw [hx] at hy; injection hy with hy; subst hy; rfl]
    cases hj : l.findIdx? (isNm s) with
    | none => rfl
    | some j =>
      obtain ⟨y, hy, hpy⟩ := zr7 hj
      have hne : k ≠ j := by
        rintro rfl
        rw [hx] at hy
        injection hy with hy
        subst hy
        exact zz20 h hpy hp
      simp only [List.getElem?_set_ne hne]
theorem zw10 {l : List E} (hl : Nms l) {t : ByteArray} (v : E) (h : hasL l t = true) : vlL (setVarL l t v) t = v := by
  unfold hasL at h
  unfold setVarL
  cases hk : l.findIdx? (isNm t) with
  | none => rw [hk] at h; cases h
  | some k =>
    obtain ⟨x, hx, hp⟩ := zr7 hk
    obtain ⟨q, v0, rfl⟩ := hl x (List.mem_of_getElem? hx)
    have hlt : k < l.length := (List.getElem?_eq_some_iff.1 hx).1
    simp only [hx, Option.getD_some, nmE]
    unfold vlL
    rw [ze6 (p := isNm t) (x := .agg [.str q, v]) (l := l) (k := k) fun y hy => by rw [hx] at hy; injection hy with hy; subst hy; rfl, hk]
    simp [List.getElem?_set_self hlt, vlE]
theorem zf15 {l : List E} {t : ByteArray} (v : E) (h : hasL l t = false) : setVarL l t v = l := by
  unfold hasL at h
  unfold setVarL
  cases hk : l.findIdx? (isNm t) with
  | none => rfl
  | some k => rw [hk] at h; cases h
theorem zc19 {l : List E} {t : ByteArray} : hasL l t = l.any (isNm t) := by
  unfold hasL
  rw [List.findIdx?_isSome]
end Go.Proofs.Ytghljnfbbaklnaa
namespace Go.Proofs.Ytghljnfbbaklnaa
open Go.RowKit Go.Shelf
set_option maxRecDepth 100000
def numT (n : Int) : ByteArray := ⟨(Lib.itoa n).toArray⟩
end Go.Proofs.Ytghljnfbbaklnaa
