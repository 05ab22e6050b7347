/- spec.l2Num: by the abstract machine. -/
import Derived.Test.YtfemkmnkofgaaaaDoorInsS
namespace Go.Proofs.YtfemkmnkofgaaaaDoor
open Go.RowKit
set_option maxRecDepth 100000
theorem zg18 (k : Nat) : (-(k : Int)).tdiv 10 = -((k / 10 : Nat) : Int) := by rw [Int.neg_tdiv]; rfl
theorem zh18 (k : Nat) : (-(k : Int)).tmod 10 = -((k % 10 : Nat) : Int) := by rw [Int.neg_tmod]; rfl
theorem zf13 {k : Nat} (h : 0 < k) : numT (-(k : Int)) = ⟨(45 :: Lib.decDigits k).toArray⟩ := by
  unfold numT Lib.itoa
  rw [if_pos (by omega)]
  simp
theorem zl7 (k : Nat) : numT (k : Int) = ⟨(Lib.decDigits k).toArray⟩ := by
  unfold numT Lib.itoa
  rw [if_neg (by omega)]
  simp
theorem zb12 {k : Nat} (h : ¬ k < 10) : Lib.decDigits k = Lib.decDigits (k / 10) ++ [UInt8.ofNat (48 + k % 10)] := by
  rw [Lib.decDigits, dif_neg h]
theorem zn6 {k : Nat} (h : k < 10) : Lib.decDigits k = [UInt8.ofNat (48 + k)] := by
  rw [Lib.decDigits, dif_pos h]
theorem zg10 {n : Int} (h0 : -9223372036854775808 ≤ n) (h1 : n ≤ 9223372036854775807) : (numT n).size ≤ 20 := by
  have key : ∀ (f k : Nat), k < 10 ^ (f + 1) → (Lib.decDigits k).length ≤ f + 1 := by
    intro f
    induction f with
    | zero => intro k hk; rw [zn6 (by simpa using hk)]; simp
    | succ f ih =>
      intro k hk
      by_cases h : k < 10
      · rw [zn6 h]; simp
      · rw [zb12 h, List.length_append]
        have := ih (k / 10) (by rw [Nat.pow_succ] at hk; omega)
        simp only [List.length_cons, List.length_nil]; omega
  unfold numT Lib.itoa
  show (List.toArray _).size ≤ 20
  rw [List.size_toArray]
  split
  · have := key 18 n.natAbs (by omega)
    rw [List.length_cons]; omega
  · have := key 18 n.toNat (by omega)
    omega
theorem u8of {z : Int} {d : Nat} (e : z = ((48 + d : Nat) : Int)) (h : d < 10) : UInt8.ofNat (IntKind.u8.wrap (IntKind.i64.wrap z)).toNat = UInt8.ofNat (48 + d) := by
  subst e
  rw [zo5 (by omega) (by omega), IntKind.wrap_u8]
  have : (((48 + d : Nat) : Int) % 256).toNat = 48 + d := by omega
  rw [this]
theorem ze22 (x : List UInt8) (b : UInt8) : (ByteArray.mk #[45]) ++ ⟨x.toArray⟩ ++ ⟨[b].toArray⟩ = ⟨(45 :: (x ++ [b])).toArray⟩ := by
  rw [show (ByteArray.mk #[45]) = ⟨[45].toArray⟩ from rfl, ByteArray.mk_append_mk, ByteArray.mk_append_mk]; rfl
theorem zh20 (m : Nat) : ∀ n : Int, n.natAbs ≤ m → -9223372036854775808 ≤ n → n ≤ 9223372036854775807 → Ctr Tryd.prog 51 [.c (.v (.int .i64 n))] [] (.c (.v (.string (numT n)))) [] := by
  induction m using Nat.strongRecOn with
  | _ m ih =>
  intro n hm h0 h1
  rcases Int.lt_or_le n (-9) with h | h
  · obtain ⟨k, rfl⟩ : ∃ k : Nat, n = -(k : Int) := ⟨n.natAbs, by omega⟩
    have hc := ih (k / 10) (by omega) ((k / 10 : Nat) : Int) (by omega) (by omega) (by omega)
    clear ih
    have e1 : IntKind.i64.wrap (0 - IntKind.i64.wrap ((-(k : Int)).tdiv 10)) = ((k / 10 : Nat) : Int) := by
      rw [zg18, zo5 (z := -((k / 10 : Nat) : Int)) (by omega) (by omega), zo5 (by omega) (by omega)]; omega
    have hc' : Ctr Tryd.prog 51 [.c (.v (.int .i64 (IntKind.i64.wrap (0 - IntKind.i64.wrap ((-(k : Int)).tdiv 10)))))] [] (.c (.v (.string (numT ((k / 10 : Nat) : Int))))) [] := by rw [e1]; exact hc
    clear hc
    refine zh1 Tryd.func51 rfl rfl ?_
    have hz := zg10 (n := ((k / 10 : Nat) : Int)) (by omega) (by omega)
    repeat' (first | refine zh ?_ | refine zd ?_ | refine zf ?_ | refine zg ?_ | refine zb fun C => ?_ | refine zj (by kernel_rfl) (by kernel_rfl) fun C => ?_ | refine zc ?_ | (refine x_gm ?_ ?_ <;> intro hG <;> (try cases hG)) | refine zr3 ?_ | refine zx9 ?_ | refine zy9 ?_ | refine x_bs ?_ | refine x_gr ?_ | refine x_st ?_ | refine x_mv ?_ | refine x_sk ?_ | refine zd5 ?_ | refine x_ix ?_ | refine ze5 ?_ | refine zf5 ?_ | refine zb4 ?_ | refine zb4 (hnu := ze _) ?_ | refine zo2 ?_ | refine zo2 (hnu := ze _) ?_ | refine x_ld ?_ | refine zw9 ?_ | refine zr6 ?_ | (refine zr1 (by rfl) ?_ ?_ <;> intro hC <;> (try cases hC)))
    all_goals first
      | (exfalso; clear hc' e1; simp at *; omega)
      | skip
    refine zv ?_
    refine ret0 rfl zs3 ⟨?_, rfl⟩
    refine congrArg (fun s => AV.c (AC.v (Value.string s))) ?_
    rw [u8of (d := k % 10) (by rw [zh18]; omega) (by omega), zl7, ze22, zf13 (by omega), zb12 (k := k) (by omega)]
  · rcases Int.lt_or_le n 0 with h2 | h2
    · obtain ⟨k, rfl⟩ : ∃ k : Nat, n = -(k : Int) := ⟨n.natAbs, by omega⟩
      clear ih
      refine zh1 Tryd.func51 rfl rfl ?_
      repeat' (first | refine zh ?_ | refine zd ?_ | refine zf ?_ | refine zg ?_ | refine zb fun C => ?_ | refine zj (by kernel_rfl) (by kernel_rfl) fun C => ?_ | refine zc ?_ | (refine x_gm ?_ ?_ <;> intro hG <;> (try cases hG)) | refine zr3 ?_ | refine zx9 ?_ | refine zy9 ?_ | refine x_bs ?_ | refine x_gr ?_ | refine x_st ?_ | refine x_mv ?_ | refine x_sk ?_ | refine zd5 ?_ | refine x_ix ?_ | refine ze5 ?_ | refine zf5 ?_ | refine zb4 ?_ | refine zb4 (hnu := ze _) ?_ | refine zo2 ?_ | refine zo2 (hnu := ze _) ?_ | refine x_ld ?_ | refine zw9 ?_ | refine zr6 ?_ | (refine zr1 (by rfl) ?_ ?_ <;> intro hC <;> (try cases hC)))
      all_goals first
        | (exfalso; simp at *; omega)
        | skip
      refine zv ?_
      refine ret0 rfl zs3 ⟨?_, rfl⟩
      refine congrArg (fun s => AV.c (AC.v (Value.string s))) ?_
      rw [u8of (d := k) (by omega) (by omega), zf13 (by omega), zn6 (k := k) (by omega)]; rfl
    · obtain ⟨k, rfl⟩ : ∃ k : Nat, n = (k : Int) := ⟨n.natAbs, by omega⟩
      rcases Nat.lt_or_ge k 10 with h3 | h3
      · clear ih
        refine zh1 Tryd.func51 rfl rfl ?_
        repeat' (first | refine zh ?_ | refine zd ?_ | refine zf ?_ | refine zg ?_ | refine zb fun C => ?_ | refine zj (by kernel_rfl) (by kernel_rfl) fun C => ?_ | refine zc ?_ | (refine x_gm ?_ ?_ <;> intro hG <;> (try cases hG)) | refine zr3 ?_ | refine zx9 ?_ | refine zy9 ?_ | refine x_bs ?_ | refine x_gr ?_ | refine x_st ?_ | refine x_mv ?_ | refine x_sk ?_ | refine zd5 ?_ | refine x_ix ?_ | refine ze5 ?_ | refine zf5 ?_ | refine zb4 ?_ | refine zb4 (hnu := ze _) ?_ | refine zo2 ?_ | refine zo2 (hnu := ze _) ?_ | refine x_ld ?_ | refine zw9 ?_ | refine zr6 ?_ | (refine zr1 (by rfl) ?_ ?_ <;> intro hC <;> (try cases hC)))
        all_goals first
          | (exfalso; simp at *; omega)
          | skip
        refine zv ?_
        refine ret0 rfl zs3 ⟨?_, rfl⟩
        refine congrArg (fun s => AV.c (AC.v (Value.string s))) ?_
        rw [u8of (d := k) (by omega) (by omega), zl7, zn6 (k := k) (by omega)]
      · have hc := ih (k / 10) (by omega) ((k / 10 : Nat) : Int) (by omega) (by omega) (by omega)
        clear ih
        have e1 : IntKind.i64.wrap ((k : Int).tdiv 10) = ((k / 10 : Nat) : Int) := by
          rw [show ((k : Int).tdiv 10) = ((k / 10 : Nat) : Int) from rfl, zo5 (by omega) (by omega)]
        have hc' : Ctr Tryd.prog 51 [.c (.v (.int .i64 (IntKind.i64.wrap ((k : Int).tdiv 10))))] [] (.c (.v (.string (numT ((k / 10 : Nat) : Int))))) [] := by rw [e1]; exact hc
        clear hc
        refine zh1 Tryd.func51 rfl rfl ?_
        have hz := zg10 (n := ((k / 10 : Nat) : Int)) (by omega) (by omega)
        repeat' (first | refine zh ?_ | refine zd ?_ | refine zf ?_ | refine zg ?_ | refine zb fun C => ?_ | refine zj (by kernel_rfl) (by kernel_rfl) fun C => ?_ | refine zc ?_ | (refine x_gm ?_ ?_ <;> intro hG <;> (try cases hG)) | refine zr3 ?_ | refine zx9 ?_ | refine zy9 ?_ | refine x_bs ?_ | refine x_gr ?_ | refine x_st ?_ | refine x_mv ?_ | refine x_sk ?_ | refine zd5 ?_ | refine x_ix ?_ | refine ze5 ?_ | refine zf5 ?_ | refine zb4 ?_ | refine zb4 (hnu := ze _) ?_ | refine zo2 ?_ | refine zo2 (hnu := ze _) ?_ | refine x_ld ?_ | refine zw9 ?_ | refine zr6 ?_ | (refine zr1 (by rfl) ?_ ?_ <;> intro hC <;> (try cases hC)))
        all_goals first
          | (exfalso; clear hc' e1; simp at *; omega)
          | skip
        refine zv ?_
        refine ret0 rfl zs3 ⟨?_, rfl⟩
        refine congrArg (fun s => AV.c (AC.v (Value.string s))) ?_
        rw [u8of (d := k % 10) (by rw [show ((k : Int).tmod 10) = ((k % 10 : Nat) : Int) from rfl]; omega) (by omega), zl7, zl7, zb12 (k := k) (by omega)]
        exact ByteArray.mk_append_mk _ _
def nmAt (j : Nat) : ByteArray := insNms[j]?.getD ByteArray.empty
def insTx (x n : Int) : ByteArray := if insOkS x n then (if hasNum x then nmAt (x - 1).toNat ++ ⟨#[32]⟩ ++ numT n else nmAt (x - 1).toNat) else ByteArray.empty
theorem zc19 {j : Nat} (h : j < 41) : subL insNmC (j * 1) 1 = [.v (.string (nmAt j))] := by
  have hx : insNms[j]? = some (nmAt j) := by
    unfold nmAt
    rw [List.getElem?_eq_getElem (show j < insNms.length from h)]
    rfl
  unfold subL insNmC
  rw [Nat.mul_one]
  have h2 : (insNms.map fun s => AC.v (.string s))[j]? = some (.v (.string (nmAt j))) := by rw [List.getElem?_map, hx]; rfl
  obtain ⟨hj, e⟩ := List.getElem?_eq_some_iff.1 h2
  rw [List.drop_eq_getElem_cons hj, e]
  rfl
theorem zq16 {j : Nat} (h : j < 41) : (nmAt j).size ≤ 6 := by
  have key : ∀ i : Fin 41, (nmAt i.val).size ≤ 6 := by decide
  exact key ⟨j, h⟩
theorem zo6 {x n : Int} (h : insOkS x n = true) : ∃ j : Nat, x = (j : Int) + 1 ∧ j < 41 ∧ 0 ≤ n ∧ n ≤ 10000 := by
  unfold insOkS inR at h
  split at h
  · rename_i h1
    simp at h1
    exact ⟨(x - 1).toNat, by omega, by omega, h1.2⟩
  · cases h
theorem zh10 {x n : Int} (h : insOkS x n = false) : insTx x n = ByteArray.empty := by unfold insTx; rw [if_neg (by simp [h])]
theorem zm8 {j : Nat} {n : Int} (h : insOkS ((j : Int) + 1) n = true) (h1 : hasNum ((j : Int) + 1) = true) : insTx ((j : Int) + 1) n = nmAt j ++ ⟨#[32]⟩ ++ numT n := by
  unfold insTx
  rw [if_pos h, if_pos h1, show ((j : Int) + 1 - 1).toNat = j by omega]
theorem zi10 {j : Nat} {n : Int} (h : insOkS ((j : Int) + 1) n = true) (h1 : hasNum ((j : Int) + 1) = false) : insTx ((j : Int) + 1) n = nmAt j := by
  unfold insTx
  rw [if_pos h, if_neg (by simp [h1]), show ((j : Int) + 1 - 1).toNat = j by omega]
set_option maxHeartbeats 1000000 in
theorem zj10 (x n : Int) : Ctr Tryd.prog 17 [.ag [.v (.int .i64 x), .v (.int .i64 n)]] [] (.c (.v (.string (insTx x n)))) [] := by
  have c1 := zh8 x n
  cases hok : insOkS x n
  · rw [hok] at c1
    refine zh1 Tryd.func17 rfl rfl ?_
    repeat' (first | refine zh ?_ | refine zd ?_ | refine zf ?_ | refine zg ?_ | refine zb fun C => ?_ | refine zj (by kernel_rfl) (by kernel_rfl) fun C => ?_ | refine zc ?_ | (refine x_gm ?_ ?_ <;> intro hG <;> (try cases hG)) | refine zr3 ?_ | refine zx9 ?_ | refine zy9 ?_ | refine x_bs ?_ | refine x_gr ?_ | refine x_st ?_ | refine x_mv ?_ | refine x_sk ?_ | refine zd5 ?_ | refine x_ix ?_ | refine ze5 ?_ | refine zf5 ?_ | refine zb4 ?_ | refine zb4 (hnu := ze _) ?_ | refine zo2 ?_ | refine zo2 (hnu := ze _) ?_ | refine x_ld ?_ | refine zw9 ?_ | refine zr6 ?_ | (refine zr1 (by rfl) ?_ ?_ <;> intro hC <;> (try cases hC)))
    refine zv ?_
    refine ret0 rfl zs3 ⟨?_, rfl⟩
    rw [zh10 hok]; rfl
  · rw [hok] at c1
    obtain ⟨j, rfl, hj, h0, h1⟩ := zo6 hok
    have hz : IntKind.i64.wrap ((j : Int) + 1 - 1) = (j : Int) := by rw [zo5 (by omega) (by omega)]; omega
    have hs := zc19 hj
    have hs1 := zq16 hj
    have hs2 := zg10 (n := n) (by omega) (by omega)
    have c2 := zv13
    have c3 := zc10 ((j : Int) + 1)
    have c4 := zh20 n.natAbs n (by omega) (by omega) (by omega)
    refine zh1 Tryd.func17 rfl rfl ?_
    repeat' (first | refine zh ?_ | refine zd ?_ | refine zf ?_ | refine zg ?_ | refine zb fun C => ?_ | refine zj (by kernel_rfl) (by kernel_rfl) fun C => ?_ | refine zc ?_ | (refine x_gm ?_ ?_ <;> intro hG <;> (try cases hG)) | refine zr3 ?_ | refine zx9 ?_ | refine zy9 ?_ | refine x_bs ?_ | refine x_gr ?_ | refine x_st ?_ | refine x_mv ?_ | refine x_sk ?_ | refine zd5 ?_ | refine x_ix ?_ | refine ze5 ?_ | refine zf5 ?_ | refine zb4 ?_ | refine zb4 (hnu := ze _) ?_ | refine zo2 ?_ | refine zo2 (hnu := ze _) ?_ | refine x_ld ?_ | refine zw9 ?_ | refine zs6 c1 ?_ | refine zs6 c2 ?_ | refine zs6 c3 ?_ | refine zs6 c4 ?_ | (refine zr1 (by rfl) ?_ ?_ <;> intro hC <;> (try cases hC)))
    all_goals
      refine zv ?_
      refine ret0 rfl zs3 ⟨?_, rfl⟩
    · rw [zm8 hok hC]
    · rw [zi10 hok hC]
set_option maxHeartbeats 1000000 in
theorem zk10 (x n : Int) : Ctr Tryd.prog 14 [.ag [.v (.int .i64 x), .v (.int .i64 n)]] [] (.c (.v (.string (insTx x n)))) [] := by
  have c1 := zg8 x n
  cases hok : insOkS x n
  · rw [hok] at c1
    refine zh1 Tryd.func14 rfl rfl ?_
    repeat' (first | refine zh ?_ | refine zd ?_ | refine zf ?_ | refine zg ?_ | refine zb fun C => ?_ | refine zj (by kernel_rfl) (by kernel_rfl) fun C => ?_ | refine zc ?_ | (refine x_gm ?_ ?_ <;> intro hG <;> (try cases hG)) | refine zr3 ?_ | refine zx9 ?_ | refine zy9 ?_ | refine x_bs ?_ | refine x_gr ?_ | refine x_st ?_ | refine x_mv ?_ | refine x_sk ?_ | refine zd5 ?_ | refine x_ix ?_ | refine ze5 ?_ | refine zf5 ?_ | refine zb4 ?_ | refine zb4 (hnu := ze _) ?_ | refine zo2 ?_ | refine zo2 (hnu := ze _) ?_ | refine x_ld ?_ | refine zw9 ?_ | refine zr6 ?_ | (refine zr1 (by rfl) ?_ ?_ <;> intro hC <;> (try cases hC)))
    refine zv ?_
    refine ret0 rfl zs3 ⟨?_, rfl⟩
    rw [zh10 hok]; rfl
  · rw [hok] at c1
    obtain ⟨j, rfl, hj, h0, h1⟩ := zo6 hok
    have hz : IntKind.i64.wrap ((j : Int) + 1 - 1) = (j : Int) := by rw [zo5 (by omega) (by omega)]; omega
    have hs := zc19 hj
    have hs1 := zq16 hj
    have hs2 := zg10 (n := n) (by omega) (by omega)
    have c2 := zu13
    have c3 := zf8 ((j : Int) + 1)
    have c4 := zf18 (n := n) (by omega) (by omega)
    refine zh1 Tryd.func14 rfl rfl ?_
    repeat' (first | refine zh ?_ | refine zd ?_ | refine zf ?_ | refine zg ?_ | refine zb fun C => ?_ | refine zj (by kernel_rfl) (by kernel_rfl) fun C => ?_ | refine zc ?_ | (refine x_gm ?_ ?_ <;> intro hG <;> (try cases hG)) | refine zr3 ?_ | refine zx9 ?_ | refine zy9 ?_ | refine x_bs ?_ | refine x_gr ?_ | refine x_st ?_ | refine x_mv ?_ | refine x_sk ?_ | refine zd5 ?_ | refine x_ix ?_ | refine ze5 ?_ | refine zf5 ?_ | refine zb4 ?_ | refine zb4 (hnu := ze _) ?_ | refine zo2 ?_ | refine zo2 (hnu := ze _) ?_ | refine x_ld ?_ | refine zw9 ?_ | refine zs6 c1 ?_ | refine zs6 c2 ?_ | refine zs6 c3 ?_ | refine zs6 c4 ?_ | (refine zr1 (by rfl) ?_ ?_ <;> intro hC <;> (try cases hC)))
    all_goals
      refine zv ?_
      refine ret0 rfl zs3 ⟨?_, rfl⟩
    · rw [zm8 hok hC]; rw [ByteArray.append_assoc]
    · rw [zi10 hok hC]
theorem zn8 (x : Int) : hasNum x = hasN x := by
  unfold hasNum hasN
  simp only [List.any_cons, List.any_nil, Bool.or_false, Bool.or_assoc]
theorem zi20 (o n : Int) : insOk o n = insOkS o n := by
  apply Bool.eq_iff_iff.2
  unfold insOk insOkS inR
  rw [zn8]
  by_cases h7 : o = 7
  · subst h7; simp [inB, and_assoc]
  by_cases h13 : o = 13
  · subst h13; simp [inB, and_assoc]
  by_cases h34 : o = 34
  · subst h34; simp [inB, and_assoc]
  simp [inB, and_assoc, h7, h13, h34]
theorem zg13 {α : Type} {l : List α} {p q : Nat} {x : α} {r : List α} (hl : l[p]? = some x) (hq : p + 1 ≤ q) (h : (l.drop (p + 1)).take (q - (p + 1)) = r) : (l.drop p).take (q - p) = x :: r := by
  obtain ⟨h1, h2⟩ := List.getElem?_eq_some_iff.1 hl
  rw [List.drop_eq_getElem_cons h1, h2, show q - p = (q - (p + 1)) + 1 by omega, List.take_succ_cons, h]
theorem goRd {bs : List UInt8} {p : Nat} : ∀ (f k n m q : Nat), getGo bs p (f + 1) k n = (m, q, true) → ∃ x : Nat, m = n + x * 128 ^ k ∧ p + k < q ∧ q ≤ bs.length ∧ (0 < k → x ≠ 0) ∧ (bs.drop (p + k)).take (q - (p + k)) = put7 f x
  | f, k, n, m, q, h => by
    by_cases hlt : p + k < bs.length
    · have hx : bs[p + k]? = some bs[p + k] := List.getElem?_eq_getElem hlt
      have hb := bs[p + k].toNat_lt
      by_cases h1 : 127 < bs[p + k].toNat
      · rw [zy1 hlt rfl h1] at h
        cases f with
        | zero => simp [getGo] at h
        | succ f =>
          obtain ⟨x, e1, e2, e3, e4, e5⟩ := goRd f (k + 1) _ m q h
          have hx0 := e4 (by omega)
          refine ⟨bs[p + k].toNat % 128 + 128 * x, by rw [e1, Nat.pow_succ, Nat.add_mul, Nat.mul_comm (128 ^ k) 128, ← Nat.mul_assoc, Nat.mul_comm x 128]; omega, by omega, e3, fun _ => by omega, ?_⟩
          have e6 : (bs[p + k].toNat % 128 + 128 * x) % 128 = bs[p + k].toNat % 128 := by omega
          have e7 : (bs[p + k].toNat % 128 + 128 * x) / 128 = x := by omega
          have e8 : UInt8.ofNat (bs[p + k].toNat % 128 + 128) = bs[p + k] := by
            rw [show bs[p + k].toNat % 128 + 128 = bs[p + k].toNat by omega]; exact UInt8.ofNat_toNat
          rw [put7, if_pos (by omega), e6, e7, e8]
          exact zg13 hx (by omega) e5
      · by_cases h2 : (0 < k ∧ bs[p + k].toNat = 0) ∨ 2147483647 < n + bs[p + k].toNat % 128 * 128 ^ k
        · rw [zk1 hlt rfl h1 h2] at h; simp at h
        · rw [zz1 hlt rfl h1 h2] at h
          simp only [Prod.mk.injEq, and_true] at h
          obtain ⟨rfl, rfl⟩ := h
          have e0 : bs[p + k].toNat % 128 = bs[p + k].toNat := by omega
          refine ⟨bs[p + k].toNat, by rw [e0], by omega, by omega, fun hk h0 => h2 (.inl ⟨hk, h0⟩), ?_⟩
          have e9 : put7 f bs[p + k].toNat = [bs[p + k]] := by
            have e8 : UInt8.ofNat bs[p + k].toNat = bs[p + k] := UInt8.ofNat_toNat
            cases f with
            | zero => rw [put7, e8]
            | succ f => rw [put7, if_neg h1, e8]
          rw [e9]
          exact zg13 hx (by omega) (by rw [Nat.sub_self, List.take_zero])
    · rw [getGo, if_neg hlt] at h; simp at h
theorem put5 {m : Nat} (h : m ≤ 2147483647) : put7 4 m = putU (m : Int) := by
  have e : clampU (m : Int) = m := by unfold clampU; rw [if_neg (by omega), if_neg (by omega)]; omega
  unfold putU
  rw [e]
  exact zd11 4 5 m (by omega) (by omega)
theorem zh13 {bs : List UInt8} {a : Int} (h : (getU bs a).2.2 = true) : 0 ≤ a ∧ a.toNat < (getU bs a).2.1 ∧ (getU bs a).2.1 ≤ bs.length ∧ (bs.drop a.toNat).take ((getU bs a).2.1 - a.toNat) = putU ((getU bs a).1 : Int) := by
  have hle : (getU bs a).1 ≤ 2147483647 := by
    unfold getU
    split
    · exact (zd10 (bs := bs) (p := a.toNat) 5 0 0).2
    · simp
  unfold getU at h hle ⊢
  split at h
  · rename_i ha
    rw [if_pos ha] at hle ⊢
    generalize hg : getGo bs a.toNat 5 0 0 = g at h hle ⊢
    obtain ⟨m, q, ok⟩ := g
    obtain rfl : ok = true := h
    obtain ⟨x, e1, e2, e3, -, e5⟩ := goRd 4 0 0 m q hg
    obtain rfl : m = x := by rw [e1]; simp
    exact ⟨ha.1, e2, e3, by rw [← put5 hle]; exact e5⟩
  · simp at h
theorem goWr {bs : List UInt8} {p : Nat} : ∀ (f k n x : Nat) (t : List UInt8), bs.drop (p + k) = put7 f x ++ t → x < 128 ^ (f + 1) → n + x * 128 ^ k ≤ 2147483647 → (0 < k → x ≠ 0) → getGo bs p (f + 1) k n = (n + x * 128 ^ k, p + k + (put7 f x).length, true)
  | f, k, n, x, t, h, hx, hn, h0 => by
    have hat : ∀ (c : UInt8) (r : List UInt8), bs.drop (p + k) = c :: r → ∃ hlt : p + k < bs.length, bs[p + k] = c ∧ bs.drop (p + (k + 1)) = r := fun c r hd => by
      have hlt : p + k < bs.length := by
        have := congrArg List.length hd
        rw [List.length_drop, List.length_cons] at this; omega
      rw [List.drop_eq_getElem_cons hlt] at hd
      injection hd with h1 h2
      exact ⟨hlt, h1, h2⟩
    have hlow : ∀ (g : Nat), put7 g x = [UInt8.ofNat x] → x ≤ 127 → f = g → getGo bs p (f + 1) k n = (n + x * 128 ^ k, p + k + (put7 f x).length, true) := fun g hg hx2 e => by
      subst e
      rw [hg] at h ⊢
      obtain ⟨hlt, e1, -⟩ := hat _ _ h
      have e2 : bs[p + k].toNat = x := by rw [e1, UInt8.toNat_ofNat']; omega
      rw [zz1 hlt e2 (by omega) (fun hh => hh.elim (fun q => h0 q.1 q.2) fun q => by rw [show x % 128 = x by omega] at q; omega), show x % 128 = x by omega]
      rfl
    cases f with
    | zero => exact hlow 0 rfl (by simp at hx; omega) rfl
    | succ f =>
      by_cases h1 : 127 < x
      · have e : put7 (f + 1) x = UInt8.ofNat (x % 128 + 128) :: put7 f (x / 128) := by rw [put7, if_pos h1]
        rw [e] at h ⊢
        rw [List.cons_append] at h
        obtain ⟨hlt, e1, e2⟩ := hat _ _ h
        have e3 : bs[p + k].toNat = x % 128 + 128 := by rw [e1, UInt8.toNat_ofNat']; omega
        have e4 : (x % 128 + 128) % 128 = x % 128 := by omega
        have e5 : n + x % 128 * 128 ^ k + x / 128 * 128 ^ (k + 1) = n + x * 128 ^ k := by
          have : x = x % 128 + x / 128 * 128 := by omega
          conv => rhs; rw [this]
          rw [Nat.add_mul, Nat.mul_assoc, Nat.pow_succ, Nat.mul_comm 128 (128 ^ k)]
          omega
        rw [zy1 hlt e3 (by omega), e4, goWr f (k + 1) (n + x % 128 * 128 ^ k) (x / 128) t e2 (by rw [Nat.pow_succ] at hx; omega) (by omega) (fun _ => by omega), e5, List.length_cons]
        congr 2
        omega
      · exact hlow (f + 1) (by rw [put7, if_neg h1]) (by omega) rfl
theorem zl10 {bs t : List UInt8} {a n : Nat} (hn : n ≤ 2147483647) (h : bs.drop a = putU (n : Int) ++ t) : getU bs (a : Int) = (n, a + (putU (n : Int)).length, true) := by
  have hp := ze13 5 (clampU (n : Int))
  have hlt : a < bs.length := by
    have := congrArg List.length h
    rw [List.length_drop, List.length_append] at this
    have h2 : (putU (n : Int)).length = (put7 5 (clampU (n : Int))).length := rfl
    omega
  unfold getU
  rw [if_pos ⟨by omega, by omega⟩, Int.toNat_natCast]
  rw [← put5 hn] at h ⊢
  have := goWr (bs := bs) (p := a) 4 0 0 n t h (by omega) (by simpa using hn) (fun h => absurd h (Nat.lt_irrefl 0))
  simpa using this
theorem zy13 {bs : List UInt8} {a : Int} (h : (getIns bs a).ok = true) : 0 ≤ a ∧ a.toNat ≤ (getIns bs a).p ∧ (getIns bs a).p ≤ bs.length ∧ cut8 bs a.toNat ((getIns bs a).p - a.toNat) = putIns (getIns bs a).o (getIns bs a).n := by
  unfold getIns at h ⊢
  split at h
  · rename_i h1
    rw [if_pos h1]
    obtain ⟨g1, g2, g3, g4⟩ := zh13 h1
    split at h
    · rename_i h2
      rw [if_pos h2]
      split at h
      · rename_i h3
        rw [if_pos h3]
        split at h
        · rename_i h4
          rw [if_pos h4]
          obtain ⟨k1, k2, k3, k4⟩ := zh13 h3
          rw [Int.toNat_natCast] at k2 k4
          have kk : a.toNat ≤ (getU bs ((getU bs a).2.1 : Int)).2.1 := by omega
          refine ⟨g1, kk, k3, ?_⟩
          show (bs.drop a.toNat).take ((getU bs ((getU bs a).2.1 : Int)).2.1 - a.toNat) = putIns _ _
          unfold putIns
          rw [if_pos h2, ← g4, ← k4]
          rw [show (getU bs ((getU bs a).2.1 : Int)).2.1 - a.toNat = ((getU bs a).2.1 - a.toNat) + ((getU bs ((getU bs a).2.1 : Int)).2.1 - (getU bs a).2.1) by omega, List.take_add, List.drop_drop, show a.toNat + ((getU bs a).2.1 - a.toNat) = (getU bs a).2.1 by omega]
        · cases h
      · cases h
    · rename_i h2
      rw [if_neg h2]
      split at h
      · rename_i h4
        rw [if_pos h4]
        have kk : a.toNat ≤ (getU bs a).2.1 := by omega
        refine ⟨g1, kk, g3, ?_⟩
        show (bs.drop a.toNat).take ((getU bs a).2.1 - a.toNat) = putIns _ _
        unfold putIns
        rw [if_neg h2, List.append_nil]
        exact g4
      · cases h
  · cases h
theorem zz13 {b : List UInt8} {o n : Nat} (h : insOk (o : Int) (n : Int) = true) (ho : o ≤ 2147483647) (hn : n ≤ 2147483647) (h0 : hasN (o : Int) = false → n = 0) : getIns (b ++ putIns o n) (b.length : Int) = ⟨o, n, (b ++ putIns o n).length, true⟩ := by
  cases hh : hasN (o : Int) with
  | true =>
    have e : putIns (o : Int) (n : Int) = putU o ++ putU n := by unfold putIns; rw [hh]; rfl
    rw [e]
    have e1 := zl10 (bs := b ++ (putU o ++ putU n)) (a := b.length) (t := putU n) ho (by simp)
    have e2 := zl10 (bs := b ++ (putU o ++ putU n)) (a := b.length + (putU (o : Int)).length) (t := []) hn (by rw [← List.append_assoc, ← List.length_append]; simp)
    unfold getIns
    rw [e1]
    simp only [if_true]
    rw [hh, if_pos rfl, e2]
    simp only [if_true]
    rw [if_pos h]
    simp [Nat.add_assoc]
  | false =>
    obtain rfl := h0 hh
    have e : putIns (o : Int) ((0 : Nat) : Int) = putU o := by unfold putIns; rw [hh]; simp
    rw [e]
    have e1 := zl10 (bs := b ++ putU o) (a := b.length) (t := []) ho (by simp)
    unfold getIns
    rw [e1]
    simp only [if_true]
    have h' : insOk (o : Int) 0 = true := h
    rw [hh, if_neg (by simp), if_pos h']
    simp
theorem zr16 {x n : Int} (h : insOkS x n = true) : 0 < (insTx x n).size := by
  obtain ⟨j, rfl, hj, -⟩ := zo6 h
  have key : ∀ i : Fin 41, 0 < (nmAt i.val).size := by decide
  have hk : 0 < (nmAt j).size := key ⟨j, hj⟩
  cases hb : hasNum ((j : Int) + 1) with
  | true => rw [zm8 h hb, ByteArray.size_append, ByteArray.size_append]; show 0 < (nmAt j).size + _ + _; omega
  | false => rw [zi10 h hb]; exact hk
end Go.Proofs.YtfemkmnkofgaaaaDoor
-- MVP
namespace Go.Proofs.YtfemkmnkofgaaaaDoor
open Go.RowKit
set_option maxRecDepth 100000
theorem zf22 {n : Nat} {l : List AC} (hn : n ≤ 9223372036854775807) : Ctr Tryd.prog 7 [.c (.ro n 1 l)] [] (.c (.v (.bool (decide (1048576 < (n : Int)))))) [] := by
  refine zh1 Tryd.func7 rfl rfl ?_
  repeat' (first | ((apply f_wo); first | ((apply f_mv); first | refine zx (v := .c _) ?_ | refine za ?_) | ((apply f_as); first | refine zg1 (v := .c _) ?_ | refine za ?_) | ((apply f_bi); first | refine za3 ?_ | refine zz2 ?_ | refine zb3 ?_ | refine za ?_) | ((apply zt13); first | refine zy4 ?_ | refine za ?_) | refine za ?_) | ((apply f_w); first | refine zw ?_ | refine zc ?_) | refine zb fun C => ?_ | refine zh ?_ | refine zd ?_ | refine zf ?_ | refine zg ?_ | (refine zy (by rfl) ?_ ?_ <;> intro hC <;> (try cases hC)))
  refine zv ?_; refine ret0 rfl zs3 ⟨?_, rfl⟩
  rfl
end Go.Proofs.YtfemkmnkofgaaaaDoor
