/- TextAt of both sides: what lies in a cell, as a text. -/
import Derived.Test.YtfemkmnkofgaaaaDoorTextAtT
namespace Go.Proofs.YtfemkmnkofgaaaaDoor
open Go.RowKit
set_option maxRecDepth 100000
def vzE : E := .agg [.int .i64 0, .int .i64 0, .str ByteArray.empty]
def vcE (e : E) : E := match e with | .agg [_, v] => v | _ => vzE
def vAtE (l : List E) (k : Int) : E := if 0 ≤ k ∧ k < l.length then vcE (l[k.toNat]?.getD vzE) else vzE
def txtE (v : E) : ByteArray := match v with | .agg [.int _ k, .int _ n, .str s] => if k = 1 then numT n else s | _ => ByteArray.empty
theorem zy6 {l : List E} {i : Nat} {r v : E} (hx : l[i]? = some (.agg [r, v])) : vAtE l (i : Int) = v := by
  have := (List.getElem?_eq_some_iff.1 hx).1
  unfold vAtE
  rw [if_pos ⟨by omega, by omega⟩, Int.toNat_natCast, hx]
  rfl
theorem zw9 {l : List E} {k : Int} (h : ¬ (0 ≤ k ∧ k < l.length)) : vAtE l k = vzE := if_neg h
theorem zi16 {x a b : Int} : inR x a b = true ↔ a ≤ x ∧ x ≤ b := by simp [inR]
theorem zg8 {l : List E} (hl : ∀ e ∈ l, e.Ty Tryd.prog 173) (hk : ∀ e ∈ l, e.enc.length = 4) (hlen : l.length ≤ 1048576) (k : Int) : Ctr Tryd.prog 120 [.ag [.ro l.length 4 (acL l)], .c (.v (.int .i64 k))] [] (.ag (acE (vAtE l k))) [] := by
  by_cases h : 0 ≤ k ∧ k < l.length
  · obtain ⟨i, rfl⟩ : ∃ i : Nat, k = (i : Int) := ⟨k.toNat, by omega⟩
    obtain ⟨x, hx⟩ : ∃ x, l[i]? = some x := ⟨_, List.getElem?_eq_getElem (by omega)⟩
    obtain ⟨r, y1, y2, y3, rfl, hy⟩ := zi1 (hl x (List.mem_of_getElem? hx))
    rw [zy6 hx]
    refine zm2 Tryd.func120 rfl rfl ?_
    repeat' (first | ((apply f_wo); first | ((apply f_gs); first | refine n_sk ?_) | ((apply f_mv); first | (refine zv17 ?_ ?_ <;> intro hG <;> (try cases hG)) | refine zo6 (v := .c _) ?_ | refine zw ?_) | ((apply f_fa); first | refine n_fa ?_ | refine zs3 ?_) | ((apply f_ld); first | refine zy3 ?_ | refine zn6 ?_ | refine n_ld ?_) | ((apply f_bi); first | refine zq10 ?_ | refine zp10 ?_ | refine zr10 ?_ | refine zw ?_) | ((apply f_st); first | refine n_st ?_ | refine zn15 ?_) | ((apply f_ia); first | refine n_ix ?_ | refine zo15 ?_ | refine zw ?_) | ((apply zx17); first | refine zr7 ?_ | refine zw ?_) | ((apply zy17); first | refine zs7 ?_ | refine zw ?_) | ((apply f_pk); first | refine zu17 (v := .c _) ?_ | refine zw ?_) | refine n_al ?_ | refine n_bo ?_ | refine zw ?_) | ((apply f_w); first | refine zh3 ?_ | refine zy ?_) | refine zn fun C => ?_ | refine zm1 ?_ | refine zr ?_ | refine zf1 ?_ | refine zg1 ?_ | (refine zw3 (by rfl) ?_ ?_ <;> intro hC <;> (try cases hC)))
    all_goals first
      | (exfalso; simp only [decide_eq_true_iff, decide_eq_false_iff_not, ge_iff_le] at *; omega)
      | (refine zq1 ?_; refine ret0 rfl (zf10 (zo4 rfl (zo4 rfl (zo4 rfl zi6)))) ⟨?_, rfl⟩; rfl)
  · rw [zw9 h]
    refine zm2 Tryd.func120 rfl rfl ?_
    repeat' (first | ((apply f_wo); first | ((apply f_gs); first | refine n_sk ?_) | ((apply f_mv); first | (refine zv17 ?_ ?_ <;> intro hG <;> (try cases hG)) | refine zo6 (v := .c _) ?_ | refine zw ?_) | ((apply f_fa); first | refine n_fa ?_ | refine zs3 ?_) | ((apply f_ld); first | refine zy3 ?_ | refine zn6 ?_ | refine n_ld ?_) | ((apply f_bi); first | refine zq10 ?_ | refine zp10 ?_ | refine zr10 ?_ | refine zw ?_) | ((apply f_st); first | refine n_st ?_ | refine zn15 ?_) | ((apply f_ia); first | refine n_ix ?_ | refine zo15 ?_ | refine zw ?_) | ((apply zx17); first | refine zr7 ?_ | refine zw ?_) | ((apply zy17); first | refine zs7 ?_ | refine zw ?_) | ((apply f_pk); first | refine zu17 (v := .c _) ?_ | refine zw ?_) | refine n_al ?_ | refine n_bo ?_ | refine zw ?_) | ((apply f_w); first | refine zh3 ?_ | refine zy ?_) | refine zn fun C => ?_ | refine zm1 ?_ | refine zr ?_ | refine zf1 ?_ | refine zg1 ?_ | (refine zw3 (by rfl) ?_ ?_ <;> intro hC <;> (try cases hC)))
    all_goals first
      | (refine zq1 ?_; refine ret0 rfl (zf10 (zo4 rfl (zo4 rfl (zo4 rfl zi6)))) ⟨?_, rfl⟩; rfl)
      | (exfalso; simp only [decide_eq_true_iff, decide_eq_false_iff_not, ge_iff_le] at *; omega)
theorem zh8 {l : List E} (hl : ∀ e ∈ l, e.Ty Tryd.prog 173) (hk : ∀ e ∈ l, e.enc.length = 4) (hlen : l.length ≤ 1048576) (k : Int) : Ctr Tryd.prog 79 [.ag [.ro l.length 4 (acL l)], .c (.v (.int .i64 k))] [] (.ag (acE (vAtE l k))) [] := by
  have hw := zk15 k 0 ((l.length : Int) - 1)
  by_cases h : 0 ≤ k ∧ k < l.length
  · rw [zi16.2 ⟨h.1, by omega⟩] at hw
    obtain ⟨i, rfl⟩ : ∃ i : Nat, k = (i : Int) := ⟨k.toNat, by omega⟩
    obtain ⟨x, hx⟩ : ∃ x, l[i]? = some x := ⟨_, List.getElem?_eq_getElem (by omega)⟩
    obtain ⟨r, y1, y2, y3, rfl, hy⟩ := zi1 (hl x (List.mem_of_getElem? hx))
    rw [zy6 hx]
    refine zm2 Tryd.func79 rfl rfl ?_
    repeat' (first | ((apply f_wo); first | ((apply f_mv); first | refine zo6 (v := .c _) ?_ | refine zw ?_) | ((apply f_fa); first | refine n_fa ?_ | refine zs3 ?_) | ((apply f_ld); first | refine zy3 ?_ | refine zn6 ?_ | refine n_ld ?_) | ((apply f_ca); first | refine zo3 (hw) ?_ | refine zl3 (hw) ?_) | ((apply f_bi); first | refine zq10 ?_ | refine zp10 ?_ | refine zr10 ?_ | refine zw ?_) | ((apply f_st); first | refine n_st ?_ | refine zn15 ?_) | ((apply f_ia); first | refine n_ix ?_ | refine zo15 ?_ | refine zw ?_) | ((apply f_no); first | refine zw17 ?_ | refine zw ?_) | ((apply f_bb); first | refine zp7 ?_ | refine zq7 ?_ | refine zw ?_) | refine n_al ?_ | refine n_bo ?_ | refine zw ?_) | ((apply f_w); first | refine zh3 ?_ | refine zy ?_) | refine zn fun C => ?_ | refine zm1 ?_ | refine zr ?_ | refine zf1 ?_ | refine zg1 ?_ | refine zj1 rfl ?_ | refine zk1 rfl ?_)
    all_goals (refine zq1 ?_; refine ret0 rfl (zf10 (zo4 rfl (zo4 rfl (zo4 rfl zi6)))) ⟨?_, rfl⟩; rfl)
  · rw [zw9 h]
    have e0 : inR k 0 ((l.length : Int) - 1) = false := by
      cases hb : inR k 0 ((l.length : Int) - 1) with
      | false => rfl
      | true => exact absurd (zi16.1 hb) (by omega)
    rw [e0] at hw
    refine zm2 Tryd.func79 rfl rfl ?_
    repeat' (first | ((apply f_wo); first | ((apply f_mv); first | refine zo6 (v := .c _) ?_ | refine zw ?_) | ((apply f_fa); first | refine n_fa ?_ | refine zs3 ?_) | ((apply f_ld); first | refine zy3 ?_ | refine zn6 ?_ | refine n_ld ?_) | ((apply f_ca); first | refine zo3 (hw) ?_ | refine zl3 (hw) ?_) | ((apply f_bi); first | refine zq10 ?_ | refine zp10 ?_ | refine zr10 ?_ | refine zw ?_) | ((apply f_st); first | refine n_st ?_ | refine zn15 ?_) | ((apply f_ia); first | refine n_ix ?_ | refine zo15 ?_ | refine zw ?_) | ((apply f_no); first | refine zw17 ?_ | refine zw ?_) | ((apply f_bb); first | refine zp7 ?_ | refine zq7 ?_ | refine zw ?_) | refine n_al ?_ | refine n_bo ?_ | refine zw ?_) | ((apply f_w); first | refine zh3 ?_ | refine zy ?_) | refine zn fun C => ?_ | refine zm1 ?_ | refine zr ?_ | refine zf1 ?_ | refine zg1 ?_ | refine zj1 rfl ?_ | refine zk1 rfl ?_)
    all_goals (refine zq1 ?_; refine ret0 rfl (zf10 (zo4 rfl (zo4 rfl (zo4 rfl zi6)))) ⟨?_, rfl⟩; rfl)
theorem zi8 {k n : Int} {s : ByteArray} (h0 : -9223372036854775808 ≤ n) (h1 : n ≤ 9223372036854775807) : Ctr Tryd.prog 119 [.ag [.v (.int .i64 k), .v (.int .i64 n), .v (.string s)]] [] (.c (.v (.string (if k = 1 then numT n else s)))) [] := by
  have c1 := zb17 n.natAbs n (by omega) h0 h1
  by_cases h : k = 1
  · subst h
    rw [if_pos rfl]
    refine zm2 Tryd.func119 rfl rfl ?_
    repeat' (first | ((apply f_wo); first | ((apply f_as); first | refine zl5 (v := .c _) ?_ | refine zw ?_) | ((apply f_fa); first | refine n_fa ?_ | refine zs3 ?_) | ((apply f_ld); first | refine zk5 ?_ | refine zm3 ?_ | refine n_ld ?_) | ((apply f_ca); first | refine zo3 (c1) ?_ | refine zl3 (c1) ?_) | ((apply zf11); first | refine zd3 ?_ | refine zw ?_) | refine n_bo ?_ | refine zw ?_) | ((apply f_w); first | refine zh3 ?_ | refine zy ?_) | refine zn fun C => ?_ | refine zm1 ?_ | refine zr ?_ | refine zf1 ?_ | refine zg1 ?_ | refine zj1 rfl ?_ | refine zk1 rfl ?_)
    refine zq1 ?_; refine ret0 rfl zr3 ⟨?_, rfl⟩; rfl
  · rw [if_neg h]
    refine zm2 Tryd.func119 rfl rfl ?_
    repeat' (first | ((apply f_wo); first | ((apply f_as); first | refine zl5 (v := .c _) ?_ | refine zw ?_) | ((apply f_fa); first | refine n_fa ?_ | refine zs3 ?_) | ((apply f_ld); first | refine zk5 ?_ | refine zm3 ?_ | refine n_ld ?_) | ((apply f_ca); first | refine zo3 (c1) ?_ | refine zl3 (c1) ?_) | ((apply zf11); first | refine zd3 ?_ | refine zw ?_) | refine n_bo ?_ | refine zw ?_) | ((apply f_w); first | refine zh3 ?_ | refine zy ?_) | refine zn fun C => ?_ | refine zm1 ?_ | refine zr ?_ | refine zf1 ?_ | refine zg1 ?_ | refine zj1 rfl ?_ | refine zk1 rfl ?_)
    refine zw3 (by rfl) (fun hC => absurd (eq_of_beq hC) h) fun hC => ?_
    repeat' (first | ((apply f_wo); first | ((apply f_as); first | refine zl5 (v := .c _) ?_ | refine zw ?_) | ((apply f_fa); first | refine n_fa ?_ | refine zs3 ?_) | ((apply f_ld); first | refine zk5 ?_ | refine zm3 ?_ | refine n_ld ?_) | ((apply f_ca); first | refine zo3 (c1) ?_ | refine zl3 (c1) ?_) | ((apply zf11); first | refine zd3 ?_ | refine zw ?_) | refine n_bo ?_ | refine zw ?_) | ((apply f_w); first | refine zh3 ?_ | refine zy ?_) | refine zn fun C => ?_ | refine zm1 ?_ | refine zr ?_ | refine zf1 ?_ | refine zg1 ?_ | refine zj1 rfl ?_ | refine zk1 rfl ?_)
    refine zq1 ?_; refine ret0 rfl zr3 ⟨?_, rfl⟩; rfl
theorem zj8 {k n : Int} {s : ByteArray} (h0 : -9223372036854775808 ≤ n) (h1 : n ≤ 9223372036854775807) : Ctr Tryd.prog 78 [.ag [.v (.int .i64 k), .v (.int .i64 n), .v (.string s)]] [] (.c (.v (.string (if k = 1 then numT n else s)))) [] := by
  have c1 := za15 h0 h1
  by_cases h : k = 1
  · subst h
    rw [if_pos rfl]
    refine zm2 Tryd.func78 rfl rfl ?_
    repeat' (first | ((apply f_wo); first | ((apply f_as); first | refine zl5 (v := .c _) ?_ | refine zw ?_) | ((apply f_fa); first | refine n_fa ?_ | refine zs3 ?_) | ((apply f_ld); first | refine zk5 ?_ | refine zm3 ?_ | refine n_ld ?_) | ((apply f_ca); first | refine zo3 (c1) ?_ | refine zl3 (c1) ?_) | ((apply zf11); first | refine zd3 ?_ | refine zw ?_) | refine n_bo ?_ | refine zw ?_) | ((apply f_w); first | refine zh3 ?_ | refine zy ?_) | refine zn fun C => ?_ | refine zm1 ?_ | refine zr ?_ | refine zf1 ?_ | refine zg1 ?_ | refine zj1 rfl ?_ | refine zk1 rfl ?_)
    refine zq1 ?_; refine ret0 rfl zr3 ⟨?_, rfl⟩; rfl
  · rw [if_neg h]
    refine zm2 Tryd.func78 rfl rfl ?_
    repeat' (first | ((apply f_wo); first | ((apply f_as); first | refine zl5 (v := .c _) ?_ | refine zw ?_) | ((apply f_fa); first | refine n_fa ?_ | refine zs3 ?_) | ((apply f_ld); first | refine zk5 ?_ | refine zm3 ?_ | refine n_ld ?_) | ((apply f_ca); first | refine zo3 (c1) ?_ | refine zl3 (c1) ?_) | ((apply zf11); first | refine zd3 ?_ | refine zw ?_) | refine n_bo ?_ | refine zw ?_) | ((apply f_w); first | refine zh3 ?_ | refine zy ?_) | refine zn fun C => ?_ | refine zm1 ?_ | refine zr ?_ | refine zf1 ?_ | refine zg1 ?_ | refine zj1 rfl ?_ | refine zk1 rfl ?_)
    refine zw3 (by rfl) (fun hC => absurd (eq_of_beq hC) h) fun hC => ?_
    repeat' (first | ((apply f_wo); first | ((apply f_as); first | refine zl5 (v := .c _) ?_ | refine zw ?_) | ((apply f_fa); first | refine n_fa ?_ | refine zs3 ?_) | ((apply f_ld); first | refine zk5 ?_ | refine zm3 ?_ | refine n_ld ?_) | ((apply f_ca); first | refine zo3 (c1) ?_ | refine zl3 (c1) ?_) | ((apply zf11); first | refine zd3 ?_ | refine zw ?_) | refine n_bo ?_ | refine zw ?_) | ((apply f_w); first | refine zh3 ?_ | refine zy ?_) | refine zn fun C => ?_ | refine zm1 ?_ | refine zr ?_ | refine zf1 ?_ | refine zg1 ?_ | refine zj1 rfl ?_ | refine zk1 rfl ?_)
    refine zq1 ?_; refine ret0 rfl zr3 ⟨?_, rfl⟩; rfl
def textAtE (x v : E) : ByteArray :=
  match x, v with
  | .agg (.agg [.lst _ _ _ _ l] :: _), .agg [.bool b, .int _ n] => if b then ByteArray.empty else txtE (vAtE l n)
  | _, _ => ByteArray.empty
theorem zf14 {l : List E} (hl : ∀ e ∈ l, e.Ty Tryd.prog 173) (k : Int) : ∃ (a b : Int) (s : ByteArray), vAtE l k = .agg [.int .i64 a, .int .i64 b, .str s] ∧ -9223372036854775808 ≤ b ∧ b ≤ 9223372036854775807 := by
  by_cases h : 0 ≤ k ∧ k < l.length
  · obtain ⟨i, rfl⟩ : ∃ i : Nat, k = (i : Int) := ⟨k.toNat, by omega⟩
    obtain ⟨x, hx⟩ : ∃ x, l[i]? = some x := ⟨_, List.getElem?_eq_getElem (by omega)⟩
    obtain ⟨r, y1, y2, y3, rfl, g0, g1, g2, -⟩ := zi1 (hl x (List.mem_of_getElem? hx))
    rw [zy6 hx]
    exact ⟨y1, y2, y3, rfl, zt10 g2⟩
  · rw [zw9 h]
    exact ⟨0, 0, ByteArray.empty, rfl, by omega, by omega⟩
theorem zk8 {e v : E} (he : e.Ty Tryd.prog 70) (hv : v.Ty Tryd.prog 72) (hsz : e.sz ≤ 1048576) (_ : v.sz ≤ 1048576) : Ctr Tryd.prog 29 [.ag (acE e), .ag (acE v)] [] (.c (.v (.string (textAtE e v)))) [] := by
  obtain ⟨x0A, x0c, x0l, x1A, x1c, x1l, x2A, x2c, x2l, x3A, x3c, x3l, x4, x5A, x5c, x5l, x6, x7A, x7c, x7l, x8, x9, x10, x11, x12, rfl, ⟨h0, k0⟩, -⟩ := zl1 he
  obtain ⟨z0, z1, rfl, -⟩ := zc1 hv
  simp only [E.sz, E.szL] at hsz
  have c1 := zg8 h0 k0 (by omega) z1
  obtain ⟨a, b, s, hva, b0, b1⟩ := zf14 h0 z1
  have c2 := zi8 (k := a) (s := s) b0 b1
  have ct : Ctr Tryd.prog 71 [.c (.pt 0 0), .ag [.v (.bool z0), .v (.int .i64 z1)]] [[.ro x0l.length 4 (acL x0l), .ro x1l.length 1 (acL x1l), .ro x2l.length 1 (acL x2l), .ro x3l.length 6 (acL x3l), .v (.string x4), .ro x5l.length 1 (acL x5l), .v (.int .i64 x6), .ro x7l.length 1 (acL x7l), .v (.int .i64 x8), .v (.int .i64 x9), .v (.int .i64 x10), .v (.int .i64 x11), .v (.bool x12)]] (.c (.v (.string (textAtE (.agg [.agg [.lst 4 173 x0A x0c x0l]]) (.agg [.bool z0, .int .i64 z1]))))) [[.ro x0l.length 4 (acL x0l), .ro x1l.length 1 (acL x1l), .ro x2l.length 1 (acL x2l), .ro x3l.length 6 (acL x3l), .v (.string x4), .ro x5l.length 1 (acL x5l), .v (.int .i64 x6), .ro x7l.length 1 (acL x7l), .v (.int .i64 x8), .v (.int .i64 x9), .v (.int .i64 x10), .v (.int .i64 x11), .v (.bool x12)]] := by
    refine zm2 Tryd.func71 rfl rfl ?_
    rw [hva] at c1
    cases z0 with
    | true =>
      repeat' (first | ((apply f_wo); first | ((apply f_mv); first | refine zo6 (v := .c _) ?_ | refine zw ?_) | ((apply f_as); first | refine zl5 (v := .c _) ?_ | refine zw ?_) | ((apply f_fa); first | refine n_fa ?_ | refine zs3 ?_) | ((apply f_ld); first | refine zk5 ?_ | refine zm3 ?_ | refine zy3 ?_ | refine zn6 ?_ | refine n_ld ?_) | ((apply f_ca); first | refine zo3 (c1) ?_ | refine zl3 (c1) ?_ | refine zo3 (c2) ?_ | refine zl3 (c2) ?_) | refine n_bo ?_ | refine zw ?_) | ((apply f_w); first | refine zh3 ?_ | refine zy ?_) | ((apply d_wo); first | ((apply d_mv); refine zb4 ?_) | ((apply d_as); refine zb4 ?_) | ((apply d_fa); first | refine o_fa ?_ | refine zh15 ?_) | ((apply d_ld); first | refine zi15 ?_ | refine zm10 ?_ | refine zn10 ?_ | refine zj15 ?_ | refine zb4 ?_ | refine o_ld ?_) | ((apply d_ca); first | refine zm13 (c1) ?_ | refine zm13 (c2) ?_) | refine o_bo ?_ | refine zb4 ?_) | ((apply d_w); first | refine zh3 ?_ | refine zy ?_) | refine zn fun C => ?_ | refine zr1 (by kernel_rfl) (by kernel_rfl) fun C => ?_ | refine zm1 ?_ | refine zr ?_ | refine zf1 ?_ | refine zg1 ?_ | refine zj1 rfl ?_ | refine zk1 rfl ?_)
      refine zq1 ?_; refine ret1 rfl zr3 rfl (by first | rfl | (simp [cloL, clo, zu, zt, zb1, za1, zo]; done)) rfl ⟨?_, ?_⟩
      all_goals rfl
    | false =>
      rw [show textAtE (.agg [.agg [.lst 4 173 x0A x0c x0l]]) (.agg [.bool false, .int .i64 z1]) = txtE (vAtE x0l z1) from rfl, hva]
      repeat' (first | ((apply f_wo); first | ((apply f_mv); first | refine zo6 (v := .c _) ?_ | refine zw ?_) | ((apply f_as); first | refine zl5 (v := .c _) ?_ | refine zw ?_) | ((apply f_fa); first | refine n_fa ?_ | refine zs3 ?_) | ((apply f_ld); first | refine zk5 ?_ | refine zm3 ?_ | refine zy3 ?_ | refine zn6 ?_ | refine n_ld ?_) | ((apply f_ca); first | refine zo3 (c1) ?_ | refine zl3 (c1) ?_ | refine zo3 (c2) ?_ | refine zl3 (c2) ?_) | refine n_bo ?_ | refine zw ?_) | ((apply f_w); first | refine zh3 ?_ | refine zy ?_) | ((apply d_wo); first | ((apply d_mv); refine zb4 ?_) | ((apply d_as); refine zb4 ?_) | ((apply d_fa); first | refine o_fa ?_ | refine zh15 ?_) | ((apply d_ld); first | refine zi15 ?_ | refine zm10 ?_ | refine zn10 ?_ | refine zj15 ?_ | refine zb4 ?_ | refine o_ld ?_) | ((apply d_ca); first | refine zm13 (c1) ?_ | refine zm13 (c2) ?_) | refine o_bo ?_ | refine zb4 ?_) | ((apply d_w); first | refine zh3 ?_ | refine zy ?_) | refine zn fun C => ?_ | refine zr1 (by kernel_rfl) (by kernel_rfl) fun C => ?_ | refine zm1 ?_ | refine zr ?_ | refine zf1 ?_ | refine zg1 ?_ | refine zj1 rfl ?_ | refine zk1 rfl ?_)
      refine zq1 ?_; refine ret1 rfl zr3 rfl (by first | rfl | (simp [cloL, clo, zu, zt, zb1, za1, zo]; done)) rfl ⟨?_, ?_⟩
      all_goals rfl
  refine zm2 Tryd.func29 rfl rfl ?_
  repeat' (first | ((apply f_wo); first | ((apply f_mv); first | refine zo6 (v := .c _) ?_ | refine zw ?_) | ((apply f_as); first | refine zl5 (v := .c _) ?_ | refine zw ?_) | ((apply f_fa); first | refine n_fa ?_ | refine zs3 ?_) | ((apply f_ld); first | refine zk5 ?_ | refine zm3 ?_ | refine zy3 ?_ | refine zn6 ?_ | refine n_ld ?_) | ((apply f_ca); first | refine zj18 2 (ct) ?_) | refine n_bo ?_ | refine zw ?_) | ((apply f_w); first | refine zh3 ?_ | refine zy ?_) | ((apply d_wo); first | ((apply d_mv); refine zb4 ?_) | ((apply d_as); refine zb4 ?_) | ((apply d_fa); first | refine o_fa ?_ | refine zh15 ?_) | ((apply d_ld); first | refine zi15 ?_ | refine zm10 ?_ | refine zn10 ?_ | refine zj15 ?_ | refine zb4 ?_ | refine o_ld ?_) | ((apply d_ca); first | refine zq17 2 (ct) ?_) | refine o_bo ?_ | refine zb4 ?_) | ((apply d_w); first | refine zh3 ?_ | refine zy ?_) | refine zn fun C => ?_ | refine zr1 (by kernel_rfl) (by kernel_rfl) fun C => ?_ | refine zm1 ?_ | refine zr ?_ | refine zf1 ?_ | refine zg1 ?_ | refine zj1 rfl ?_ | refine zk1 rfl ?_)
  refine zq1 ?_; refine ret0 rfl zr3 ⟨?_, rfl⟩; rfl
theorem zl8 {e v : E} (he : e.Ty Tryd.prog 70) (hv : v.Ty Tryd.prog 72) (hsz : e.sz ≤ 1048576) (_ : v.sz ≤ 1048576) : Ctr Tryd.prog 32 [.ag (acE e), .ag (acE v)] [] (.c (.v (.string (textAtE e v)))) [] := by
  obtain ⟨x0A, x0c, x0l, x1A, x1c, x1l, x2A, x2c, x2l, x3A, x3c, x3l, x4, x5A, x5c, x5l, x6, x7A, x7c, x7l, x8, x9, x10, x11, x12, rfl, ⟨h0, k0⟩, -⟩ := zl1 he
  obtain ⟨z0, z1, rfl, -⟩ := zc1 hv
  simp only [E.sz, E.szL] at hsz
  have c1 := zh8 h0 k0 (by omega) z1
  obtain ⟨a, b, s, hva, b0, b1⟩ := zf14 h0 z1
  have c2 := zj8 (k := a) (s := s) b0 b1
  refine zm2 Tryd.func32 rfl rfl ?_
  rw [hva] at c1
  cases z0 with
  | true =>
    repeat' (first | ((apply f_wo); first | ((apply f_as); first | refine zl5 (v := .c _) ?_ | refine zw ?_) | ((apply f_fa); first | refine n_fa ?_ | refine zs3 ?_) | ((apply f_ld); first | refine zk5 ?_ | refine zm3 ?_ | refine zy3 ?_ | refine zn6 ?_ | refine n_ld ?_) | ((apply f_ca); first | refine zo3 (c1) ?_ | refine zl3 (c1) ?_ | refine zo3 (c2) ?_ | refine zl3 (c2) ?_) | refine n_bo ?_ | refine zw ?_) | ((apply f_w); first | refine zh3 ?_ | refine zy ?_) | refine zn fun C => ?_ | refine zm1 ?_ | refine zr ?_ | refine zf1 ?_ | refine zg1 ?_ | refine zj1 rfl ?_ | refine zk1 rfl ?_)
    refine zq1 ?_; refine ret0 rfl zr3 ⟨?_, rfl⟩; rfl
  | false =>
    rw [show textAtE (.agg [.agg [.lst 4 173 x0A x0c x0l], .lst 1 3 x1A x1c x1l, .lst 1 163 x2A x2c x2l, .lst 6 169 x3A x3c x3l, .agg [.str x4, .lst 1 9 x5A x5c x5l], .int .i64 x6, .lst 1 5 x7A x7c x7l, .int .i64 x8, .int .i64 x9, .int .i64 x10, .int .i64 x11, .bool x12]) (.agg [.bool false, .int .i64 z1]) = txtE (vAtE x0l z1) from rfl, hva]
    repeat' (first | ((apply f_wo); first | ((apply f_as); first | refine zl5 (v := .c _) ?_ | refine zw ?_) | ((apply f_fa); first | refine n_fa ?_ | refine zs3 ?_) | ((apply f_ld); first | refine zk5 ?_ | refine zm3 ?_ | refine zy3 ?_ | refine zn6 ?_ | refine n_ld ?_) | ((apply f_ca); first | refine zo3 (c1) ?_ | refine zl3 (c1) ?_ | refine zo3 (c2) ?_ | refine zl3 (c2) ?_) | refine n_bo ?_ | refine zw ?_) | ((apply f_w); first | refine zh3 ?_ | refine zy ?_) | refine zn fun C => ?_ | refine zm1 ?_ | refine zr ?_ | refine zf1 ?_ | refine zg1 ?_ | refine zj1 rfl ?_ | refine zk1 rfl ?_)
    refine zq1 ?_; refine ret0 rfl zr3 ⟨?_, rfl⟩; rfl
noncomputable def txatP (x : E) (v : E) : ByteArray := liftS (fun q : E × E => (q.1.Ty Tryd.prog 70 ∧ q.1.d = x) ∧ (q.2.Ty Tryd.prog 72 ∧ q.2.d = v)) (fun q => (textAtE q.1 q.2)) ByteArray.empty
noncomputable def txatD (x : E) (v : E) : ByteArray := (txatP x v)
theorem zs10 {f : FuncId} (hf : ∀ {x v : E} (_ : x.Ty Tryd.prog 70) (_ : v.Ty Tryd.prog 72) (_ : x.sz ≤ 1048576) (_ : v.sz ≤ 1048576), Ctr Tryd.prog f [avI x, avI v] [] (.c (.v (.string (textAtE x v)))) []) {x v : E} (hx : x.Ty Tryd.prog 70) (hv : v.Ty Tryd.prog 72) (w : World) (ix : x.In w) (iv : v.In w) (zx : x.sz ≤ 1048576) (zv : v.sz ≤ 1048576) (gw : Gl w := by (first | assumption | exact gl_any _ | exact Gl.below_ gl0 (by exact (by repeat (first | (with_reducible refine Below.setCell ?_ (by first | omega | (· simp) | (· (simp; omega))) _) | (with_reducible refine Below.alloc ?_ (by first | omega | (· simp) | (· (simp; omega))) _) | (with_reducible refine Below.drew ?_) | (with_reducible refine zk ?_ _) | (with_reducible exact Below.refl _ _) | (with_reducible assumption) | (with_reducible refine Below.trans ?_ (Below.mono (by assumption) (by first | omega | (· simp) | (· (simp; omega))))) | (with_reducible refine Below.trans ?_ (Kp.below (by assumption) (by first | omega | (· simp) | (· (simp; omega))) (by first | omega | (· simp) | (· (simp; omega)))))))))) :
    Calls Tryd.prog f #[x.val, v.val] w fun r w' => r = .returned (.string (txatD x.d v.d)) ∧ Below w.heap.size w w' := by
  obtain ⟨q, hq, hl⟩ := zy14 (R := fun q : E × E => (q.1.Ty Tryd.prog 70 ∧ q.1.d = x.d) ∧ (q.2.Ty Tryd.prog 72 ∧ q.2.d = v.d)) (f := fun q => (textAtE q.1 q.2)) (z := ByteArray.empty) (a := ⟨x, v⟩) ⟨⟨hx, rfl⟩, ⟨hv, rfl⟩⟩
  obtain ⟨x', v'⟩ := q
  obtain ⟨⟨tx, dx⟩, ⟨tv, dv⟩⟩ := hq
  try dsimp only at hl tx dx tv dv
  have hc := hf tx tv (by rw [← E.sz_d, dx, E.sz_d]; exact zx) (by rw [← E.sz_d, dv, E.sz_d]; exact zv)
  rw [zh10 tx hx dx, zh10 tv hv dv] at hc
  have hP : txatP x.d v.d = (textAtE x' v') := hl
  have hr0 : txatD x.d v.d = (textAtE x' v') := by unfold txatD; rw [hP]
  rw [hr0]
  exact zw16 hc (us := [x.val, v.val]) (VRL_cons (zd16 hx ix) (VRL_cons (zd16 hv iv) VRL_nil))
theorem zm8 {x v : E} (hx : x.Ty Tryd.prog 70) (hv : v.Ty Tryd.prog 72) (w : World) (ix : x.In w) (iv : v.In w) (zx : x.sz ≤ 1048576) (zv : v.sz ≤ 1048576) (gw : Gl w := by (first | assumption | exact gl_any _ | exact Gl.below_ gl0 (by exact (by repeat (first | (with_reducible refine Below.setCell ?_ (by first | omega | (· simp) | (· (simp; omega))) _) | (with_reducible refine Below.alloc ?_ (by first | omega | (· simp) | (· (simp; omega))) _) | (with_reducible refine Below.drew ?_) | (with_reducible refine zk ?_ _) | (with_reducible exact Below.refl _ _) | (with_reducible assumption) | (with_reducible refine Below.trans ?_ (Below.mono (by assumption) (by first | omega | (· simp) | (· (simp; omega))))) | (with_reducible refine Below.trans ?_ (Kp.below (by assumption) (by first | omega | (· simp) | (· (simp; omega))) (by first | omega | (· simp) | (· (simp; omega)))))))))) :
    Calls Tryd.prog 29 #[x.val, v.val] w fun r w' => r = .returned (.string (txatD x.d v.d)) ∧ Below w.heap.size w w' :=
  (zs10 (f := 29) (fun hx hv zx zv => by have hcc := zk8 hx hv zx zv; obtain ⟨xF, rfl, -⟩ := hx.agg_ Tryd.underlying70; obtain ⟨vF, rfl, -⟩ := hv.agg_ Tryd.underlying72; exact hcc) hx hv w ix iv zx zv gw).mono fun _ _ h => h
theorem zn8 {x v : E} (hx : x.Ty Tryd.prog 70) (hv : v.Ty Tryd.prog 72) (w : World) (ix : x.In w) (iv : v.In w) (zx : x.sz ≤ 1048576) (zv : v.sz ≤ 1048576) (gw : Gl w := by (first | assumption | exact gl_any _ | exact Gl.below_ gl0 (by exact (by repeat (first | (with_reducible refine Below.setCell ?_ (by first | omega | (· simp) | (· (simp; omega))) _) | (with_reducible refine Below.alloc ?_ (by first | omega | (· simp) | (· (simp; omega))) _) | (with_reducible refine Below.drew ?_) | (with_reducible refine zk ?_ _) | (with_reducible exact Below.refl _ _) | (with_reducible assumption) | (with_reducible refine Below.trans ?_ (Below.mono (by assumption) (by first | omega | (· simp) | (· (simp; omega))))) | (with_reducible refine Below.trans ?_ (Kp.below (by assumption) (by first | omega | (· simp) | (· (simp; omega))) (by first | omega | (· simp) | (· (simp; omega)))))))))) :
    Calls Tryd.prog 32 #[x.val, v.val] w fun r w' => r = .returned (.string (txatD x.d v.d)) ∧ Below w.heap.size w w' :=
  (zs10 (f := 32) (fun hx hv zx zv => by have hcc := zl8 hx hv zx zv; obtain ⟨xF, rfl, -⟩ := hx.agg_ Tryd.underlying70; obtain ⟨vF, rfl, -⟩ := hv.agg_ Tryd.underlying72; exact hcc) hx hv w ix iv zx zv gw).mono fun _ _ h => h
end Go.Proofs.YtfemkmnkofgaaaaDoor
