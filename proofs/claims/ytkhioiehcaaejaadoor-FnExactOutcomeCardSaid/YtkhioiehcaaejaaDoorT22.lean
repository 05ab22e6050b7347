/- spec.l2Num: by the abstract machine. -/
import Derived.Test.YtkhioiehcaaejaaDoorItoa
import Derived.Test.YtkhioiehcaaejaaDoorAI
namespace Go.Proofs.YtkhioiehcaaejaaDoor
open Go.RowKit
set_option maxRecDepth 100000
theorem wrap_int {z : Int} (h0 : -9223372036854775808 ≤ z) (h : z ≤ 9223372036854775807) : IntKind.i64.wrap z = z := by
  rw [IntKind.wrap_i64]; omega
theorem tdiv_neg (k : Nat) : (-(k : Int)).tdiv 10 = -((k / 10 : Nat) : Int) := by rw [Int.neg_tdiv]; rfl
theorem tmod_neg (k : Nat) : (-(k : Int)).tmod 10 = -((k % 10 : Nat) : Int) := by rw [Int.neg_tmod]; rfl
theorem numT_neg {k : Nat} (h : 0 < k) : numT (-(k : Int)) = ⟨(45 :: Lib.decDigits k).toArray⟩ := by
  unfold numT Lib.itoa
  rw [if_pos (by omega)]
  simp
theorem numT_nat (k : Nat) : numT (k : Int) = ⟨(Lib.decDigits k).toArray⟩ := by
  unfold numT Lib.itoa
  rw [if_neg (by omega)]
  simp
theorem dec_big {k : Nat} (h : ¬ k < 10) : Lib.decDigits k = Lib.decDigits (k / 10) ++ [UInt8.ofNat (48 + k % 10)] := by
  rw [Lib.decDigits, dif_neg h]
theorem dec_small {k : Nat} (h : k < 10) : Lib.decDigits k = [UInt8.ofNat (48 + k)] := by
  rw [Lib.decDigits, dif_pos h]
theorem numT_sz {n : Int} (h0 : -9223372036854775808 ≤ n) (h1 : n ≤ 9223372036854775807) : (numT n).size ≤ 20 := by
  have key : ∀ (f k : Nat), k < 10 ^ (f + 1) → (Lib.decDigits k).length ≤ f + 1 := by
    intro f
    induction f with
    | zero => intro k hk; rw [dec_small (by simpa using hk)]; simp
    | succ f ih =>
      intro k hk
      by_cases h : k < 10
      · rw [dec_small h]; simp
      · rw [dec_big h, List.length_append]
        have := ih (k / 10) (by rw [Nat.pow_succ] at hk; omega)
        simp only [List.length_cons, List.length_nil]; omega
  unfold numT Lib.itoa
  show (List.toArray _).size ≤ 20
  rw [List.size_toArray]
  split
  · have := key 18 n.natAbs (by omega)
    rw [List.length_cons]; omega
  · have := key 18 n.toNat (by omega)
    omega
theorem u8of {z : Int} {d : Nat} (e : z = ((48 + d : Nat) : Int)) (h : d < 10) : UInt8.ofNat (IntKind.u8.wrap (IntKind.i64.wrap z)).toNat = UInt8.ofNat (48 + d) := by
  subst e
  rw [wrap_int (by omega) (by omega), IntKind.wrap_u8]
  have : (((48 + d : Nat) : Int) % 256).toNat = 48 + d := by omega
  rw [this]
theorem cat45 (x : List UInt8) (b : UInt8) : (ByteArray.mk #[45]) ++ ⟨x.toArray⟩ ++ ⟨[b].toArray⟩ = ⟨(45 :: (x ++ [b])).toArray⟩ := by
  rw [show (ByteArray.mk #[45]) = ⟨[45].toArray⟩ from rfl, ByteArray.mk_append_mk, ByteArray.mk_append_mk]; rfl
theorem l2Num_n (m : Nat) : ∀ n : Int, n.natAbs ≤ m → -9223372036854775808 ≤ n → n ≤ 9223372036854775807 → Ctr Tryd.prog 41 [.c (.v (.int .i64 n))] [] (.c (.v (.string (numT n)))) [] := by
  induction m using Nat.strongRecOn with
  | _ m ih =>
  intro n hm h0 h1
  rcases Int.lt_or_le n (-9) with h | h
  · obtain ⟨k, rfl⟩ : ∃ k : Nat, n = -(k : Int) := ⟨n.natAbs, by omega⟩
    have hc := ih (k / 10) (by omega) ((k / 10 : Nat) : Int) (by omega) (by omega) (by omega)
    clear ih
    have e1 : IntKind.i64.wrap (0 - IntKind.i64.wrap ((-(k : Int)).tdiv 10)) = ((k / 10 : Nat) : Int) := by
      rw [tdiv_neg, wrap_int (z := -((k / 10 : Nat) : Int)) (by omega) (by omega), wrap_int (by omega) (by omega)]; omega
    have hc' : Ctr Tryd.prog 41 [.c (.v (.int .i64 (IntKind.i64.wrap (0 - IntKind.i64.wrap ((-(k : Int)).tdiv 10)))))] [] (.c (.v (.string (numT ((k / 10 : Nat) : Int))))) [] := by rw [e1]; exact hc
    clear hc
    refine ctr_of Tryd.func41 rfl rfl ?_
    have hz := numT_sz (n := ((k / 10 : Nat) : Int)) (by omega) (by omega)
    repeat' (first | refine awp_seq ?_ | refine awp_block ?_ | refine awp_skip ?_ | refine awp_exit ?_ | refine awp_region0 fun C => ?_ | refine awp_region1 (by kernel_rfl) (by kernel_rfl) fun C => ?_ | refine walk_end ?_ | (refine x_gm ?_ ?_ <;> intro hG <;> (try cases hG)) | refine x_nop ?_ | refine x_cvs ?_ | refine x_cvr ?_ | refine x_bs ?_ | refine x_gr ?_ | refine x_st ?_ | refine x_mv ?_ | refine x_sk ?_ | refine x_sk0 ?_ | refine x_ix ?_ | refine x_ixs ?_ | refine x_sto ?_ | refine x_app ?_ | refine x_app (hnu := bytC_noUn _) ?_ | refine x_app0 ?_ | refine x_app0 (hnu := bytC_noUn _) ?_ | refine x_ld ?_ | refine x_cat ?_ | refine x_cal ?_ | (refine awp_cond (by rfl) ?_ ?_ <;> intro hC <;> (try cases hC)))
    all_goals first
      | (exfalso; clear hc' e1; simp at *; omega)
      | skip
    refine awp_ret ?_
    refine ret0 rfl clV_v ⟨?_, rfl⟩
    refine congrArg (fun s => AV.c (AC.v (Value.string s))) ?_
    rw [u8of (d := k % 10) (by rw [tmod_neg]; omega) (by omega), numT_nat, cat45, numT_neg (by omega), dec_big (k := k) (by omega)]
  · rcases Int.lt_or_le n 0 with h2 | h2
    · obtain ⟨k, rfl⟩ : ∃ k : Nat, n = -(k : Int) := ⟨n.natAbs, by omega⟩
      clear ih
      refine ctr_of Tryd.func41 rfl rfl ?_
      repeat' (first | refine awp_seq ?_ | refine awp_block ?_ | refine awp_skip ?_ | refine awp_exit ?_ | refine awp_region0 fun C => ?_ | refine awp_region1 (by kernel_rfl) (by kernel_rfl) fun C => ?_ | refine walk_end ?_ | (refine x_gm ?_ ?_ <;> intro hG <;> (try cases hG)) | refine x_nop ?_ | refine x_cvs ?_ | refine x_cvr ?_ | refine x_bs ?_ | refine x_gr ?_ | refine x_st ?_ | refine x_mv ?_ | refine x_sk ?_ | refine x_sk0 ?_ | refine x_ix ?_ | refine x_ixs ?_ | refine x_sto ?_ | refine x_app ?_ | refine x_app (hnu := bytC_noUn _) ?_ | refine x_app0 ?_ | refine x_app0 (hnu := bytC_noUn _) ?_ | refine x_ld ?_ | refine x_cat ?_ | refine x_cal ?_ | (refine awp_cond (by rfl) ?_ ?_ <;> intro hC <;> (try cases hC)))
      all_goals first
        | (exfalso; simp at *; omega)
        | skip
      refine awp_ret ?_
      refine ret0 rfl clV_v ⟨?_, rfl⟩
      refine congrArg (fun s => AV.c (AC.v (Value.string s))) ?_
      rw [u8of (d := k) (by omega) (by omega), numT_neg (by omega), dec_small (k := k) (by omega)]; rfl
    · obtain ⟨k, rfl⟩ : ∃ k : Nat, n = (k : Int) := ⟨n.natAbs, by omega⟩
      rcases Nat.lt_or_ge k 10 with h3 | h3
      · clear ih
        refine ctr_of Tryd.func41 rfl rfl ?_
        repeat' (first | refine awp_seq ?_ | refine awp_block ?_ | refine awp_skip ?_ | refine awp_exit ?_ | refine awp_region0 fun C => ?_ | refine awp_region1 (by kernel_rfl) (by kernel_rfl) fun C => ?_ | refine walk_end ?_ | (refine x_gm ?_ ?_ <;> intro hG <;> (try cases hG)) | refine x_nop ?_ | refine x_cvs ?_ | refine x_cvr ?_ | refine x_bs ?_ | refine x_gr ?_ | refine x_st ?_ | refine x_mv ?_ | refine x_sk ?_ | refine x_sk0 ?_ | refine x_ix ?_ | refine x_ixs ?_ | refine x_sto ?_ | refine x_app ?_ | refine x_app (hnu := bytC_noUn _) ?_ | refine x_app0 ?_ | refine x_app0 (hnu := bytC_noUn _) ?_ | refine x_ld ?_ | refine x_cat ?_ | refine x_cal ?_ | (refine awp_cond (by rfl) ?_ ?_ <;> intro hC <;> (try cases hC)))
        all_goals first
          | (exfalso; simp at *; omega)
          | skip
        refine awp_ret ?_
        refine ret0 rfl clV_v ⟨?_, rfl⟩
        refine congrArg (fun s => AV.c (AC.v (Value.string s))) ?_
        rw [u8of (d := k) (by omega) (by omega), numT_nat, dec_small (k := k) (by omega)]
      · have hc := ih (k / 10) (by omega) ((k / 10 : Nat) : Int) (by omega) (by omega) (by omega)
        clear ih
        have e1 : IntKind.i64.wrap ((k : Int).tdiv 10) = ((k / 10 : Nat) : Int) := by
          rw [show ((k : Int).tdiv 10) = ((k / 10 : Nat) : Int) from rfl, wrap_int (by omega) (by omega)]
        have hc' : Ctr Tryd.prog 41 [.c (.v (.int .i64 (IntKind.i64.wrap ((k : Int).tdiv 10))))] [] (.c (.v (.string (numT ((k / 10 : Nat) : Int))))) [] := by rw [e1]; exact hc
        clear hc
        refine ctr_of Tryd.func41 rfl rfl ?_
        have hz := numT_sz (n := ((k / 10 : Nat) : Int)) (by omega) (by omega)
        repeat' (first | refine awp_seq ?_ | refine awp_block ?_ | refine awp_skip ?_ | refine awp_exit ?_ | refine awp_region0 fun C => ?_ | refine awp_region1 (by kernel_rfl) (by kernel_rfl) fun C => ?_ | refine walk_end ?_ | (refine x_gm ?_ ?_ <;> intro hG <;> (try cases hG)) | refine x_nop ?_ | refine x_cvs ?_ | refine x_cvr ?_ | refine x_bs ?_ | refine x_gr ?_ | refine x_st ?_ | refine x_mv ?_ | refine x_sk ?_ | refine x_sk0 ?_ | refine x_ix ?_ | refine x_ixs ?_ | refine x_sto ?_ | refine x_app ?_ | refine x_app (hnu := bytC_noUn _) ?_ | refine x_app0 ?_ | refine x_app0 (hnu := bytC_noUn _) ?_ | refine x_ld ?_ | refine x_cat ?_ | refine x_cal ?_ | (refine awp_cond (by rfl) ?_ ?_ <;> intro hC <;> (try cases hC)))
        all_goals first
          | (exfalso; clear hc' e1; simp at *; omega)
          | skip
        refine awp_ret ?_
        refine ret0 rfl clV_v ⟨?_, rfl⟩
        refine congrArg (fun s => AV.c (AC.v (Value.string s))) ?_
        rw [u8of (d := k % 10) (by rw [show ((k : Int).tmod 10) = ((k % 10 : Nat) : Int) from rfl]; omega) (by omega), numT_nat, numT_nat, dec_big (k := k) (by omega)]
        exact ByteArray.mk_append_mk _ _
end Go.Proofs.YtkhioiehcaaejaaDoor
