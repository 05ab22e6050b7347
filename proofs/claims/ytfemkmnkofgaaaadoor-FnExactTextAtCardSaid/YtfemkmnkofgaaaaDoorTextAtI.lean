/- spec.l2Num: by the abstract machine. -/
import Derived.Test.YtfemkmnkofgaaaaDoorTextAtH
namespace Go.Proofs.YtfemkmnkofgaaaaDoor
open Go.RowKit
set_option maxRecDepth 100000
theorem zl15 (k : Nat) : (-(k : Int)).tdiv 10 = -((k / 10 : Nat) : Int) := by rw [Int.neg_tdiv]; rfl
theorem zm15 (k : Nat) : (-(k : Int)).tmod 10 = -((k % 10 : Nat) : Int) := by rw [Int.neg_tmod]; rfl
theorem zo10 {k : Nat} (h : 0 < k) : numT (-(k : Int)) = ⟨(45 :: Lib.decDigits k).toArray⟩ := by
  unfold numT Lib.itoa
  rw [if_pos (by omega)]
  simp
theorem zt4 (k : Nat) : numT (k : Int) = ⟨(Lib.decDigits k).toArray⟩ := by
  unfold numT Lib.itoa
  rw [if_neg (by omega)]
  simp
theorem zc9 {k : Nat} (h : ¬ k < 10) : Lib.decDigits k = Lib.decDigits (k / 10) ++ [UInt8.ofNat (48 + k % 10)] := by
  rw [Lib.decDigits, dif_neg h]
theorem zx3 {k : Nat} (h : k < 10) : Lib.decDigits k = [UInt8.ofNat (48 + k)] := by
  rw [Lib.decDigits, dif_pos h]
theorem zr13 {n : Int} (h0 : -9223372036854775808 ≤ n) (h1 : n ≤ 9223372036854775807) : (numT n).size ≤ 20 := by
  have key : ∀ (f k : Nat), k < 10 ^ (f + 1) → (Lib.decDigits k).length ≤ f + 1 := by
    intro f
    induction f with
    | zero => intro k hk; rw [zx3 (by simpa using hk)]; simp
    | succ f ih =>
      intro k hk
      by_cases h : k < 10
      · rw [zx3 h]; simp
      · rw [zc9 h, List.length_append]
        have := ih (k / 10) (by rw [Nat.pow_succ] at hk; omega)
        simp only [List.length_cons, List.length_nil]; omega
  unfold numT Lib.itoa
  show (List.toArray _).size ≤ 20
  rw [List.size_toArray]
  split
  · have := key 18 n.natAbs (by omega)
    rw [List.length_cons]; omega
  · have := key 18 n.toNat (by omega)
    omega
theorem u8of {z : Int} {d : Nat} (e : z = ((48 + d : Nat) : Int)) (h : d < 10) : UInt8.ofNat (IntKind.u8.wrap (IntKind.i64.wrap z)).toNat = UInt8.ofNat (48 + d) := by
  subst e
  rw [zs4 (by omega) (by omega), IntKind.wrap_u8]
  have : (((48 + d : Nat) : Int) % 256).toNat = 48 + d := by omega
  rw [this]
theorem zi18 (x : List UInt8) (b : UInt8) : (ByteArray.mk #[45]) ++ ⟨x.toArray⟩ ++ ⟨[b].toArray⟩ = ⟨(45 :: (x ++ [b])).toArray⟩ := by
  rw [show (ByteArray.mk #[45]) = ⟨[45].toArray⟩ from rfl, ByteArray.mk_append_mk, ByteArray.mk_append_mk]; rfl
theorem zb17 (m : Nat) : ∀ n : Int, n.natAbs ≤ m → -9223372036854775808 ≤ n → n ≤ 9223372036854775807 → Ctr Tryd.prog 51 [.c (.v (.int .i64 n))] [] (.c (.v (.string (numT n)))) [] := by
  induction m using Nat.strongRecOn with
  | _ m ih =>
  intro n hm h0 h1
  rcases Int.lt_or_le n (-9) with h | h
  · obtain ⟨k, rfl⟩ : ∃ k : Nat, n = -(k : Int) := ⟨n.natAbs, by omega⟩
    have hc := ih (k / 10) (by omega) ((k / 10 : Nat) : Int) (by omega) (by omega) (by omega)
    clear ih
    have e1 : IntKind.i64.wrap (0 - IntKind.i64.wrap ((-(k : Int)).tdiv 10)) = ((k / 10 : Nat) : Int) := by
      rw [zl15, zs4 (z := -((k / 10 : Nat) : Int)) (by omega) (by omega), zs4 (by omega) (by omega)]; omega
    have hc' : Ctr Tryd.prog 51 [.c (.v (.int .i64 (IntKind.i64.wrap (0 - IntKind.i64.wrap ((-(k : Int)).tdiv 10)))))] [] (.c (.v (.string (numT ((k / 10 : Nat) : Int))))) [] := by rw [e1]; exact hc
    clear hc
    refine zm2 Tryd.func51 rfl rfl ?_
    have hz := zr13 (n := ((k / 10 : Nat) : Int)) (by omega) (by omega)
    repeat' (first | refine zm1 ?_ | refine zr ?_ | refine zf1 ?_ | refine zg1 ?_ | refine zn fun C => ?_ | refine zr1 (by kernel_rfl) (by kernel_rfl) fun C => ?_ | refine zy ?_ | (refine x_gm ?_ ?_ <;> intro hG <;> (try cases hG)) | refine zg3 ?_ | refine zd15 ?_ | refine zf15 ?_ | refine x_bs ?_ | refine x_gr ?_ | refine x_st ?_ | refine x_mv ?_ | refine x_sk ?_ | refine zb11 ?_ | refine x_ix ?_ | refine za9 ?_ | refine zb9 ?_ | refine zs5 ?_ | refine zs5 (hnu := zn2 _) ?_ | refine zp3 ?_ | refine zp3 (hnu := zn2 _) ?_ | refine x_ld ?_ | refine zb15 ?_ | refine zc11 ?_ | (refine zp2 (by rfl) ?_ ?_ <;> intro hC <;> (try cases hC)))
    all_goals first
      | (exfalso; clear hc' e1; simp at *; omega)
      | skip
    refine zq1 ?_
    refine ret0 rfl zr3 ⟨?_, rfl⟩
    refine congrArg (fun s => AV.c (AC.v (Value.string s))) ?_
    rw [u8of (d := k % 10) (by rw [zm15]; omega) (by omega), zt4, zi18, zo10 (by omega), zc9 (k := k) (by omega)]
  · rcases Int.lt_or_le n 0 with h2 | h2
    · obtain ⟨k, rfl⟩ : ∃ k : Nat, n = -(k : Int) := ⟨n.natAbs, by omega⟩
      clear ih
      refine zm2 Tryd.func51 rfl rfl ?_
      repeat' (first | refine zm1 ?_ | refine zr ?_ | refine zf1 ?_ | refine zg1 ?_ | refine zn fun C => ?_ | refine zr1 (by kernel_rfl) (by kernel_rfl) fun C => ?_ | refine zy ?_ | (refine x_gm ?_ ?_ <;> intro hG <;> (try cases hG)) | refine zg3 ?_ | refine zd15 ?_ | refine zf15 ?_ | refine x_bs ?_ | refine x_gr ?_ | refine x_st ?_ | refine x_mv ?_ | refine x_sk ?_ | refine zb11 ?_ | refine x_ix ?_ | refine za9 ?_ | refine zb9 ?_ | refine zs5 ?_ | refine zs5 (hnu := zn2 _) ?_ | refine zp3 ?_ | refine zp3 (hnu := zn2 _) ?_ | refine x_ld ?_ | refine zb15 ?_ | refine zc11 ?_ | (refine zp2 (by rfl) ?_ ?_ <;> intro hC <;> (try cases hC)))
      all_goals first
        | (exfalso; simp at *; omega)
        | skip
      refine zq1 ?_
      refine ret0 rfl zr3 ⟨?_, rfl⟩
      refine congrArg (fun s => AV.c (AC.v (Value.string s))) ?_
      rw [u8of (d := k) (by omega) (by omega), zo10 (by omega), zx3 (k := k) (by omega)]; rfl
    · obtain ⟨k, rfl⟩ : ∃ k : Nat, n = (k : Int) := ⟨n.natAbs, by omega⟩
      rcases Nat.lt_or_ge k 10 with h3 | h3
      · clear ih
        refine zm2 Tryd.func51 rfl rfl ?_
        repeat' (first | refine zm1 ?_ | refine zr ?_ | refine zf1 ?_ | refine zg1 ?_ | refine zn fun C => ?_ | refine zr1 (by kernel_rfl) (by kernel_rfl) fun C => ?_ | refine zy ?_ | (refine x_gm ?_ ?_ <;> intro hG <;> (try cases hG)) | refine zg3 ?_ | refine zd15 ?_ | refine zf15 ?_ | refine x_bs ?_ | refine x_gr ?_ | refine x_st ?_ | refine x_mv ?_ | refine x_sk ?_ | refine zb11 ?_ | refine x_ix ?_ | refine za9 ?_ | refine zb9 ?_ | refine zs5 ?_ | refine zs5 (hnu := zn2 _) ?_ | refine zp3 ?_ | refine zp3 (hnu := zn2 _) ?_ | refine x_ld ?_ | refine zb15 ?_ | refine zc11 ?_ | (refine zp2 (by rfl) ?_ ?_ <;> intro hC <;> (try cases hC)))
        all_goals first
          | (exfalso; simp at *; omega)
          | skip
        refine zq1 ?_
        refine ret0 rfl zr3 ⟨?_, rfl⟩
        refine congrArg (fun s => AV.c (AC.v (Value.string s))) ?_
        rw [u8of (d := k) (by omega) (by omega), zt4, zx3 (k := k) (by omega)]
      · have hc := ih (k / 10) (by omega) ((k / 10 : Nat) : Int) (by omega) (by omega) (by omega)
        clear ih
        have e1 : IntKind.i64.wrap ((k : Int).tdiv 10) = ((k / 10 : Nat) : Int) := by
          rw [show ((k : Int).tdiv 10) = ((k / 10 : Nat) : Int) from rfl, zs4 (by omega) (by omega)]
        have hc' : Ctr Tryd.prog 51 [.c (.v (.int .i64 (IntKind.i64.wrap ((k : Int).tdiv 10))))] [] (.c (.v (.string (numT ((k / 10 : Nat) : Int))))) [] := by rw [e1]; exact hc
        clear hc
        refine zm2 Tryd.func51 rfl rfl ?_
        have hz := zr13 (n := ((k / 10 : Nat) : Int)) (by omega) (by omega)
        repeat' (first | refine zm1 ?_ | refine zr ?_ | refine zf1 ?_ | refine zg1 ?_ | refine zn fun C => ?_ | refine zr1 (by kernel_rfl) (by kernel_rfl) fun C => ?_ | refine zy ?_ | (refine x_gm ?_ ?_ <;> intro hG <;> (try cases hG)) | refine zg3 ?_ | refine zd15 ?_ | refine zf15 ?_ | refine x_bs ?_ | refine x_gr ?_ | refine x_st ?_ | refine x_mv ?_ | refine x_sk ?_ | refine zb11 ?_ | refine x_ix ?_ | refine za9 ?_ | refine zb9 ?_ | refine zs5 ?_ | refine zs5 (hnu := zn2 _) ?_ | refine zp3 ?_ | refine zp3 (hnu := zn2 _) ?_ | refine x_ld ?_ | refine zb15 ?_ | refine zc11 ?_ | (refine zp2 (by rfl) ?_ ?_ <;> intro hC <;> (try cases hC)))
        all_goals first
          | (exfalso; clear hc' e1; simp at *; omega)
          | skip
        refine zq1 ?_
        refine ret0 rfl zr3 ⟨?_, rfl⟩
        refine congrArg (fun s => AV.c (AC.v (Value.string s))) ?_
        rw [u8of (d := k % 10) (by rw [show ((k : Int).tmod 10) = ((k % 10 : Nat) : Int) from rfl]; omega) (by omega), zt4, zt4, zc9 (k := k) (by omega)]
        exact ByteArray.mk_append_mk _ _
end Go.Proofs.YtfemkmnkofgaaaaDoor
