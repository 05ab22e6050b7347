/- The cursor's other functions. -/
import Derived.Test.YtjgmdbhbnpafgaaDraw
namespace Go.Proofs.Ytjgmdbhbnpafgaa
open Go.RowKit

set_option maxRecDepth 100000 in
set_option maxHeartbeats 1000000 in
theorem l1Below_any (b : Nat) (n : Int) (w : World) (hc : Cur w b) (hn : 0 < n) (hn1 : n ≤ 9223372036854775807) :
    Calls Try.prog 98 #[.pointer (some ⟨b, 0, none⟩), .int .i64 n] w fun e w' => ∃ x : Nat, e = .returned (.int .i64 x) ∧ (x : Int) < n ∧ Cur w' b ∧ Kp b (b + 1) w w' := by
  by_cases hs : n ≤ 256
  · go_enter Try.func98, Try.ntmps98
    go_wp2_with (go_at_call 110; refine (l1Byte_any b _ hc).mono ?_; rintro e w1 ⟨x, rfl, hx0, hx1, hc1, hk1⟩)
    go_ret
    refine ⟨(x % n).toNat, ri ?_, ?_, hc1, hk1⟩
    · have := Int.emod_nonneg x (show n ≠ 0 by omega); omega
    · have := Int.emod_lt_of_pos x hn; have := Int.emod_nonneg x (show n ≠ 0 by omega); omega
  · go_enter Try.func98, Try.ntmps98
    go_wp2_with fail
    go_at_call 110
    refine (l1Byte_any b _ hc).mono ?_; rintro e w1 ⟨x, rfl, hx0, hx1, hc1, hk1⟩
    go_wp2_with fail
    go_at_call 110
    refine (l1Byte_any b _ hc1).mono ?_; rintro e w2 ⟨y, rfl, hy0, hy1, hc2, hk2⟩
    go_wp2_with fail
    go_at_call 110
    refine (l1Byte_any b _ hc2).mono ?_; rintro e w3 ⟨z, rfl, hz0, hz1, hc3, hk3⟩
    go_wp2
    go_ret
    refine ⟨((x * 65536 + y * 256 + z) % n).toNat, ri ?_, ?_, hc3, (hk1.trans hk2).trans hk3⟩
    · have := Int.emod_nonneg (x * 65536 + y * 256 + z) (show n ≠ 0 by omega); omega
    · have := Int.emod_lt_of_pos (x * 65536 + y * 256 + z) hn; have := Int.emod_nonneg (x * 65536 + y * 256 + z) (show n ≠ 0 by omega); omega
set_option maxRecDepth 100000 in
set_option maxHeartbeats 1000000 in
theorem l1Int_any (b : Nat) (A : Option Addr) (ln c : Nat) (ds : List Int) (w : World) (hc : Cur w b) (hs : Sl w (b + 1) w.heap.size 1 encI (.slice A ln c) ds) (hd : 0 < ds.length) :
    Calls Try.prog 101 #[.pointer (some ⟨b, 0, none⟩), .slice A ln c] w fun e w' => ∃ x ∈ ds, e = .returned (.int .i64 x) ∧ Cur w' b ∧ Kp b (b + 1) w w' := by
  obtain rfl := hs.len_eq
  have hlen := hs.len_le
  go_enter Try.func101, Try.ntmps101
  go_wp2_with (go_at_call 98; refine (l1Below_any b _ _ hc (by omega) (by omega)).mono ?_; rintro e w1 ⟨x, rfl, hx1, hc1, hk1⟩; have hs1 := hs.kp hk1 (by omega); have hxl : x < ds.length := (by omega); obtain ⟨g, o, rfl, _, _, hcell⟩ := hs1.at1 hxl; have c0 := hcell _ rfl; clear hcell)
  go_ret
  exact ⟨ds[x], List.getElem_mem _, rfl, hc1, hk1⟩
set_option maxRecDepth 100000 in
set_option maxHeartbeats 1000000 in
theorem l1Str_any (b : Nat) (A : Option Addr) (ln c : Nat) (ds : List ByteArray) (w : World) (hc : Cur w b) (hs : Sl w (b + 1) w.heap.size 1 encS (.slice A ln c) ds) (hd : 0 < ds.length) :
    Calls Try.prog 103 #[.pointer (some ⟨b, 0, none⟩), .slice A ln c] w fun e w' => ∃ x ∈ ds, e = .returned (.string x) ∧ Cur w' b ∧ Kp b (b + 1) w w' := by
  obtain rfl := hs.len_eq
  have hlen := hs.len_le
  go_enter Try.func103, Try.ntmps103
  go_wp2_with (go_at_call 98; refine (l1Below_any b _ _ hc (by omega) (by omega)).mono ?_; rintro e w1 ⟨x, rfl, hx1, hc1, hk1⟩; have hs1 := hs.kp hk1 (by omega); have hxl : x < ds.length := (by omega); obtain ⟨g, o, rfl, _, _, hcell⟩ := hs1.at1 hxl; have c0 := hcell _ rfl; clear hcell)
  go_ret
  exact ⟨ds[x], List.getElem_mem _, rfl, hc1, hk1⟩
set_option maxRecDepth 100000 in
set_option maxHeartbeats 1000000 in
theorem l1New_any (A : Option Addr) (c : Nat) (bs : List UInt8) (w : World) (hs : Rd w 1 encB (.slice A bs.length c) bs) :
    Calls Try.prog 77 #[.slice A bs.length c] w fun e w' => ∃ b, e = .returned (.pointer (some ⟨b, 0, none⟩)) ∧ w.heap.size ≤ b ∧ Cur w' b ∧ Below w.heap.size w w' := by
  have hlen := hs.len_le
  go_enter Try.func77, Try.ntmps77
  go_wp2
  go_loopw [3, 4] (fun h i wr => ∃ (k : Nat) (x : Int), k ≤ bs.length ∧ i = .int .i64 k ∧ h = .int .i64 x ∧ wr = w) (fun _ i _ => bs.length - (intOf i).toNat)
  case atStart => exact ⟨0, _, Nat.zero_le _, rfl, rfl, rfl⟩
  case round =>
    obtain ⟨k, x, hk, rfl, rfl, rfl⟩ := hrel
    by_cases hlt : k < bs.length ∧ k < 4000
    · obtain ⟨hlt, h4⟩ := hlt
      obtain ⟨g, o, rfl, _, _, hcell⟩ := Sl.at1 hs hlt
      have c0 := hcell _ rfl
      clear hcell
      go_wp2
      go_roundw
      case rel => exact ⟨k + 1, _, by omega, by go_num, rfl, trivial⟩
      case measure => simp [intOf]; omega
    · by_cases hlt2 : k < bs.length
      · have h4 : ¬ k < 4000 := fun h => hlt ⟨hlt2, h⟩
        clear hlt
        go_wp2
        go_ret
        exact ⟨wr.heap.size, rfl, Nat.le_refl _, ⟨by simp, A, c, bs, 0, x, Nat.zero_le _, Sl.alloc hs (Nat.le_refl _) _, heap_alloc_new _ _⟩, (Below.refl _ wr).alloc (Nat.le_refl _) _⟩
      · clear hlt
        go_wp2
        go_ret
        exact ⟨wr.heap.size, rfl, Nat.le_refl _, ⟨by simp, A, c, bs, 0, x, Nat.zero_le _, Sl.alloc hs (Nat.le_refl _) _, heap_alloc_new _ _⟩, (Below.refl _ wr).alloc (Nat.le_refl _) _⟩
end Go.Proofs.Ytjgmdbhbnpafgaa
