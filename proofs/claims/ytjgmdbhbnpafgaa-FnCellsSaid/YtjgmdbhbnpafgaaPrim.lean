/- to and eq of slices of one-cell elements. -/
import Derived.Test.YtjgmdbhbnpafgaaMark
namespace Go.Proofs.Ytjgmdbhbnpafgaa
open Go.RowKit

theorem enc1B (d : UInt8) : (encB d).length = 1 := rfl
theorem enc1S (d : ByteArray) : (encS d).length = 1 := rfl
theorem enc1I (d : Int) : (encI d).length = 1 := rfl

theorem info1Byte : (Try.prog.info? 5).map (fun i => (i.zero, i.size, i.bytes)) = some (some (.int .u8 0), 1, 1) := by kernel_rfl
set_option maxHeartbeats 400000 in
theorem toByteS_any (A : Option Addr) (ln c : Nat) (ds : List UInt8) (w : World) (hs : Rd w 1 encB (.slice A ln c) ds) (hn : ds.length ≤ 1073741824) :
    Calls Try.prog 26 #[.slice A ln c] w fun e w' => ∃ v, e = .returned v ∧ Own w' w.heap.size w'.heap.size 5 1 encB v ds ∧ Below w.heap.size w w' := by
  obtain rfl := hs.len_eq
  have hmk := mk_eq Try.underlying39 info1Byte ds.length (by omega) (by omega)
  have hF := Fill.new w 5 #[.int .u8 0] ds.length (ds.flatMap encB)
  have hxs := flat_len enc1B ds
  rw [Nat.mul_one] at hxs
  have HX := Lib.hid hxs
  clear hxs
  go_enter Try.func26, Try.ntmps26
  go_wp2
  go_loopw [4] (fun i wr => ∃ (k : Nat), k ≤ ds.length ∧ i = .int .i64 k ∧ Fill wr w.heap.size 5 ds.length k (ds.flatMap encB) ∧ Below w.heap.size w wr) (fun i _ => ds.length - (intOf i).toNat)
  case atStart => exact ⟨0, Nat.zero_le _, rfl, hF, (by repeat (first | (with_reducible refine Below.setCell ?_ (by first | omega | (· simp) | (· (simp; omega))) _) | (with_reducible refine Below.alloc ?_ (by first | omega | (· simp) | (· (simp; omega))) _) | (with_reducible refine Below.drew ?_) | (with_reducible refine bdrewN ?_ _) | (with_reducible exact Below.refl _ _) | (with_reducible assumption) | (with_reducible refine Below.trans ?_ (Below.mono (by assumption) (by first | omega | (· simp) | (· (simp; omega))))) | (with_reducible refine Below.trans ?_ (Kp.below (by assumption) (by first | omega | (· simp) | (· (simp; omega))) (by first | omega | (· simp) | (· (simp; omega)))))))⟩
  case round =>
    obtain ⟨k, hk, rfl, hf, hb⟩ := hrel
    by_cases hlt : k < ds.length
    · have hs' := hs.below hb (Nat.le_refl _)
      obtain ⟨b, o, rfl, _, hcell⟩ := hs'.at1 hlt
      have hcell := hcell _ rfl
      obtain ⟨u, hc2⟩ := hf.cell hlt
      have hf2 := hf.frozen k
      have hx := flat_at enc1B ds k hlt 0 (by omega)
      rw [Nat.mul_one, Nat.add_zero] at hx
      have R := (hf.set hlt hx)
      clear hx hf
      go_wp2
      go_roundw
      case rel => exact ⟨k + 1, by omega, by go_num, R, hb.setCell (Nat.le_refl _) _⟩
      case measure => simp [intOf]; omega
    · have hk' : k = ds.length := by omega
      subst hk'
      go_wp2
      go_ret
      exact ⟨_, rfl, Own.of_owns (hf.owns (Nat.le_refl _) (Nat.mul_one _).symm HX.out (by unfold maxLen; omega)) (Nat.le_refl _), hb⟩
set_option maxHeartbeats 400000 in
theorem eqByteS_same (A B : Option Addr) (ln ln' c c' : Nat) (ds : List UInt8) (w : World) (hs : Rd w 1 encB (.slice A ln c) ds) (ht : Rd w 1 encB (.slice B ln' c') ds) :
    Calls Try.prog 28 #[.slice A ln c, .slice B ln' c'] w fun e w' => e = .returned (.bool true) ∧ ∃ n, w' = w.drewN n := by
  obtain rfl := hs.len_eq
  obtain rfl := ht.len_eq
  have hlen := hs.len_le
  go_enter Try.func28, Try.ntmps28
  go_wp2
  go_loopw [5] (fun i wr => ∃ (k n : Nat), k ≤ ds.length ∧ i = .int .i64 k ∧ wr = w.drewN n) (fun i _ => ds.length - (intOf i).toNat)
  case atStart => exact ⟨0, 0, Nat.zero_le _, rfl, rfl⟩
  case round =>
    obtain ⟨k, n, hk, rfl, rfl⟩ := hrel
    by_cases hlt : k < ds.length
    · obtain ⟨b, o, rfl, _, hcell⟩ := hs.at1 hlt
      have hcell := hcell _ rfl
      obtain ⟨b', o', rfl, _, hcell'⟩ := ht.at1 hlt
      have hcell' := hcell' _ rfl
      go_wp2
      go_quiet (fail)
      go_wp2
      go_roundw
      case rel => exact ⟨k + 1, _, by omega, by go_num, (by first | rfl | exact World.drewN_drewN _ _ _)⟩
      case measure => simp [intOf]; omega
    · go_wp2
      go_ret
      exact ⟨rfl, n, rfl⟩
set_option maxHeartbeats 400000 in
theorem eqStringS_same (A B : Option Addr) (ln ln' c c' : Nat) (ds : List ByteArray) (w : World) (hs : Rd w 1 encS (.slice A ln c) ds) (ht : Rd w 1 encS (.slice B ln' c') ds) :
    Calls Try.prog 63 #[.slice A ln c, .slice B ln' c'] w fun e w' => e = .returned (.bool true) ∧ ∃ n, w' = w.drewN n := by
  obtain rfl := hs.len_eq
  obtain rfl := ht.len_eq
  have hlen := hs.len_le
  go_enter Try.func63, Try.ntmps63
  go_wp2
  go_loopw [5] (fun i wr => ∃ (k n : Nat), k ≤ ds.length ∧ i = .int .i64 k ∧ wr = w.drewN n) (fun i _ => ds.length - (intOf i).toNat)
  case atStart => exact ⟨0, 0, Nat.zero_le _, rfl, rfl⟩
  case round =>
    obtain ⟨k, n, hk, rfl, rfl⟩ := hrel
    by_cases hlt : k < ds.length
    · obtain ⟨b, o, rfl, _, hcell⟩ := hs.at1 hlt
      have hcell := hcell _ rfl
      obtain ⟨b', o', rfl, _, hcell'⟩ := ht.at1 hlt
      have hcell' := hcell' _ rfl
      go_wp2
      go_quiet (fail)
      go_wp2
      go_roundw
      case rel => exact ⟨k + 1, _, by omega, by go_num, (by first | rfl | exact World.drewN_drewN _ _ _)⟩
      case measure => simp [intOf]; omega
    · go_wp2
      go_ret
      exact ⟨rfl, n, rfl⟩
end Go.Proofs.Ytjgmdbhbnpafgaa
