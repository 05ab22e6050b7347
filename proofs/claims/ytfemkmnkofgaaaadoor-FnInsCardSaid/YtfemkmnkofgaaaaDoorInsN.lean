/- GetU and GetIns of both sides. -/
import Derived.Test.YtfemkmnkofgaaaaDoorInsM
namespace Go.Proofs.YtfemkmnkofgaaaaDoor
open Go.RowKit
def getGo (bs : List UInt8) (at_ : Nat) : Nat → Nat → Nat → Nat × Nat × Bool
  | 0, _, _ => (0, 0, false)
  | f + 1, k, n =>
    if at_ + k < bs.length then
      if 127 < (bs.getD (at_ + k) 0).toNat then getGo bs at_ f (k + 1) (n + (bs.getD (at_ + k) 0).toNat % 128 * 128 ^ k)
      else if (0 < k ∧ (bs.getD (at_ + k) 0).toNat = 0) ∨ 2147483647 < n + (bs.getD (at_ + k) 0).toNat % 128 * 128 ^ k then (0, 0, false)
      else (n + (bs.getD (at_ + k) 0).toNat % 128 * 128 ^ k, at_ + k + 1, true)
    else (0, 0, false)
def getU (bs : List UInt8) (at_ : Int) : Nat × Nat × Bool := if 0 ≤ at_ ∧ at_ < bs.length then getGo bs at_.toNat 5 0 0 else (0, 0, false)
theorem zf11 (i : Nat) (n x : Int) (hn0 : 0 ≤ n) (hn : n < 2 ^ i) (hn1 : n < 2 ^ 63) (hx0 : 0 ≤ x) (hx : x % 2 ^ i = 0) (hx1 : x < 2 ^ 63) : bits .or .i64 n x = n + x := by
  obtain ⟨a, rfl⟩ := Int.eq_ofNat_of_zero_le hn0
  obtain ⟨b, rfl⟩ := Int.eq_ofNat_of_zero_le hx0
  have h1 := (bits_nat .i64 63 (by decide) zk5 a b (by exact_mod_cast hn1) (by exact_mod_cast hx1)).2
  have h2 := (bits_nat .i64 63 (by decide) zk5 b a (by exact_mod_cast hx1) (by exact_mod_cast hn1)).2
  have h3 := bits_join .i64 63 (by decide) zk5 i b a hx0 hx hx1 hn0 hn hn1
  rw [h1, Nat.or_comm, ← h2, h3]
  omega
theorem r3 {a b a' b' : Int} {c : Bool} (h1 : a = a') (h2 : b = b') : Ending.returned (.tuple #[.int .i64 a, .int .i64 b, .bool c]) = .returned (.tuple #[.int .i64 a', .int .i64 b', .bool c]) := by rw [h1, h2]
theorem zy1 {bs : List UInt8} {p k f n x : Nat} (hlt : p + k < bs.length) (hx : bs[p + k].toNat = x) (h : 127 < x) : getGo bs p (f + 1) k n = getGo bs p f (k + 1) (n + x % 128 * 128 ^ k) := by
  rw [getGo, if_pos hlt, List.getD, List.getElem?_eq_getElem hlt, Option.getD_some, hx, if_pos h]
theorem zk1 {bs : List UInt8} {p k f n x : Nat} (hlt : p + k < bs.length) (hx : bs[p + k].toNat = x) (h : ¬ 127 < x) (h2 : (0 < k ∧ x = 0) ∨ 2147483647 < n + x % 128 * 128 ^ k) : getGo bs p (f + 1) k n = (0, 0, false) := by
  rw [getGo, if_pos hlt, List.getD, List.getElem?_eq_getElem hlt, Option.getD_some, hx, if_neg h, if_pos h2]
theorem zz1 {bs : List UInt8} {p k f n x : Nat} (hlt : p + k < bs.length) (hx : bs[p + k].toNat = x) (h : ¬ 127 < x) (h2 : ¬ ((0 < k ∧ x = 0) ∨ 2147483647 < n + x % 128 * 128 ^ k)) : getGo bs p (f + 1) k n = (n + x % 128 * 128 ^ k, p + k + 1, true) := by
  rw [getGo, if_pos hlt, List.getD, List.getElem?_eq_getElem hlt, Option.getD_some, hx, if_neg h, if_neg h2]
set_option maxRecDepth 100000 in
set_option maxHeartbeats 2000000 in
theorem zq1 (A : Option Addr) (ln c : Nat) (bs : List UInt8) (at_ : Int) (w : World) (hs : Rd w 1 encB (.slice A ln c) bs) (hat : -9223372036854775808 ≤ at_ ∧ at_ ≤ 9223372036854775807) (hln : bs.length ≤ 1073741824) :
    Calls Tryd.prog 43 #[.slice A ln c, .int .i64 at_] w fun e w' => e = .returned (.tuple #[.int .i64 (getU bs at_).1, .int .i64 (getU bs at_).2.1, .bool (getU bs at_).2.2]) ∧ w = w' := by
  obtain rfl := hs.len_eq
  by_cases h1 : 0 ≤ at_ ∧ at_ < bs.length
  · obtain ⟨p, rfl⟩ : ∃ p : Nat, at_ = (p : Int) := ⟨at_.toNat, by omega⟩
    have hp : p < bs.length := by omega
    have e : getU bs (p : Int) = getGo bs p 5 0 0 := by unfold getU; rw [if_pos h1, Int.toNat_natCast]
    rw [e]
    obtain ⟨R, hR⟩ : ∃ R, getGo bs p 5 0 0 = R := ⟨_, rfl⟩
    rw [hR]
    have HR := Lib.hid hR
    clear h1 e hR
    go_enter Tryd.func43, Tryd.ntmps43
    go_wp2
    go_loop [7, 8] (fun n i => ∃ (k f m : Nat), i = .int .i64 k ∧ k + f = 5 ∧ n = .int .i64 m ∧ m < 128 ^ k ∧ getGo bs p f k m = R) (fun _ i => 6 - (intOf i).toNat)
    case atStart => exact ⟨0, 5, 0, rfl, rfl, rfl, by simp, HR.out⟩
    case round =>
      obtain ⟨k, f, m, rfl, hkf, rfl, hm, hget⟩ := hrel
      have HG := Lib.hid hget
      clear hget
      by_cases hk5 : k = 5
      · subst hk5
        clear hm
        obtain rfl : f = 0 := by omega
        have e : R = (0, 0, false) := HG.out.symm
        subst e
        go_wp2
        go_ret3
        exact ⟨rfl, rfl⟩
      · have hk : k < 5 := by omega
        clear hk5
        obtain ⟨f, rfl⟩ : ∃ f', f = f' + 1 := ⟨f - 1, by omega⟩
        by_cases hlt : p + k < bs.length
        · obtain ⟨b, o, rfl, _, hcell⟩ := hs.at1 hlt
          have hcell := hcell _ rfl
          have hxb : bs[p + k].toNat < 256 := UInt8.toNat_lt _
          obtain ⟨x, hx⟩ : ∃ x, bs[p + k].toNat = x := ⟨_, rfl⟩
          rw [hx] at hcell hxb
          have HX := Lib.hid hx
          clear hx
          have e1 : bits .and .i64 (x : Int) 127 = (x : Int) % 128 := za19 _ (by omega) (by omega)
          obtain rfl | rfl | rfl | rfl | rfl : k = 0 ∨ k = 1 ∨ k = 2 ∨ k = 3 ∨ k = 4 := by omega
          · obtain ⟨N, hN⟩ : ∃ N, m + x % 128 * 128 ^ 0 = N := ⟨_, rfl⟩
            have hN' : m + x % 128 * 1 = N := hN
            have hmb : m < 1 := hm
            have hNb : N < 128 := by omega
            have e2 : bits .or .i64 (m : Int) ((x : Int) % 128) = (N : Int) := by
              rw [zf11 0 _ _ (by omega) (by omega) (by omega) (by omega) (by omega) (by omega)]; omega
            have HN := Lib.hid hN
            simp only [Nat.add_zero] at hcell
            clear hN hN' hm hmb
            by_cases h127 : 127 < x
            · have HG2 := Lib.hid ((zy1 hlt HX.out h127).symm.trans HG.out)
              go_wp2
              go_round
              case rel => exact ⟨1, f, N, rfl, by omega, rfl, hNb, by rw [← HN.out]; exact HG2.out⟩
              case measure => simp [intOf]
            · by_cases h0 : N > 2147483647
              · have e : R = (0, 0, false) := HG.out.symm.trans (zk1 hlt HX.out h127 (.inr (by rw [HN.out]; exact h0)))
                subst e
                omega
              · have e : R = (N, p + 0 + 1, true) := HG.out.symm.trans ((zz1 hlt HX.out h127 (by rw [HN.out]; omega)).trans (by rw [HN.out]))
                subst e
                skip
                go_wp2
                go_ret3
                exact ⟨r3 rfl (by first | rfl | omega | (simp; omega)), rfl⟩
          · obtain ⟨N, hN⟩ : ∃ N, m + x % 128 * 128 ^ 1 = N := ⟨_, rfl⟩
            have hN' : m + x % 128 * 128 = N := hN
            have hmb : m < 128 := hm
            have hNb : N < 16384 := by omega
            have e2 : bits .or .i64 (m : Int) ((x : Int) % 128 * 128) = (N : Int) := by
              rw [zf11 7 _ _ (by omega) (by omega) (by omega) (by omega) (by omega) (by omega)]; omega
            have HN := Lib.hid hN
            skip
            clear hN hN' hm hmb
            by_cases h127 : 127 < x
            · have HG2 := Lib.hid ((zy1 hlt HX.out h127).symm.trans HG.out)
              go_wp2
              go_round
              case rel => exact ⟨2, f, N, rfl, by omega, rfl, hNb, by rw [← HN.out]; exact HG2.out⟩
              case measure => simp [intOf]
            · by_cases h0 : x = 0
              · have e : R = (0, 0, false) := HG.out.symm.trans (zk1 hlt HX.out h127 (.inl ⟨by omega, h0⟩))
                subst e
                subst h0; go_wp2; go_ret3; exact ⟨rfl, rfl⟩
              · have h0' : ¬ ((x : Int) = 0) := by omega
                by_cases h2 : 2147483647 < N
                · have e : R = (0, 0, false) := HG.out.symm.trans (zk1 hlt HX.out h127 (.inr (by rw [HN.out]; exact h2)))
                  omega
                · have e : R = (N, p + 1 + 1, true) := HG.out.symm.trans ((zz1 hlt HX.out h127 (by rw [HN.out]; omega)).trans (by rw [HN.out]))
                  subst e
                  have h2' : ¬ (2147483647 < (N : Int)) := by omega
                  go_wp2
                  go_ret3
                  exact ⟨r3 rfl (by first | rfl | omega | (simp; omega)), rfl⟩
          · obtain ⟨N, hN⟩ : ∃ N, m + x % 128 * 128 ^ 2 = N := ⟨_, rfl⟩
            have hN' : m + x % 128 * 16384 = N := hN
            have hmb : m < 16384 := hm
            have hNb : N < 2097152 := by omega
            have e2 : bits .or .i64 (m : Int) ((x : Int) % 128 * 16384) = (N : Int) := by
              rw [zf11 14 _ _ (by omega) (by omega) (by omega) (by omega) (by omega) (by omega)]; omega
            have HN := Lib.hid hN
            skip
            clear hN hN' hm hmb
            by_cases h127 : 127 < x
            · have HG2 := Lib.hid ((zy1 hlt HX.out h127).symm.trans HG.out)
              go_wp2
              go_round
              case rel => exact ⟨3, f, N, rfl, by omega, rfl, hNb, by rw [← HN.out]; exact HG2.out⟩
              case measure => simp [intOf]
            · by_cases h0 : x = 0
              · have e : R = (0, 0, false) := HG.out.symm.trans (zk1 hlt HX.out h127 (.inl ⟨by omega, h0⟩))
                subst e
                subst h0; go_wp2; go_ret3; exact ⟨rfl, rfl⟩
              · have h0' : ¬ ((x : Int) = 0) := by omega
                by_cases h2 : 2147483647 < N
                · have e : R = (0, 0, false) := HG.out.symm.trans (zk1 hlt HX.out h127 (.inr (by rw [HN.out]; exact h2)))
                  omega
                · have e : R = (N, p + 2 + 1, true) := HG.out.symm.trans ((zz1 hlt HX.out h127 (by rw [HN.out]; omega)).trans (by rw [HN.out]))
                  subst e
                  have h2' : ¬ (2147483647 < (N : Int)) := by omega
                  go_wp2
                  go_ret3
                  exact ⟨r3 rfl (by first | rfl | omega | (simp; omega)), rfl⟩
          · obtain ⟨N, hN⟩ : ∃ N, m + x % 128 * 128 ^ 3 = N := ⟨_, rfl⟩
            have hN' : m + x % 128 * 2097152 = N := hN
            have hmb : m < 2097152 := hm
            have hNb : N < 268435456 := by omega
            have e2 : bits .or .i64 (m : Int) ((x : Int) % 128 * 2097152) = (N : Int) := by
              rw [zf11 21 _ _ (by omega) (by omega) (by omega) (by omega) (by omega) (by omega)]; omega
            have HN := Lib.hid hN
            skip
            clear hN hN' hm hmb
            by_cases h127 : 127 < x
            · have HG2 := Lib.hid ((zy1 hlt HX.out h127).symm.trans HG.out)
              go_wp2
              go_round
              case rel => exact ⟨4, f, N, rfl, by omega, rfl, hNb, by rw [← HN.out]; exact HG2.out⟩
              case measure => simp [intOf]
            · by_cases h0 : x = 0
              · have e : R = (0, 0, false) := HG.out.symm.trans (zk1 hlt HX.out h127 (.inl ⟨by omega, h0⟩))
                subst e
                subst h0; go_wp2; go_ret3; exact ⟨rfl, rfl⟩
              · have h0' : ¬ ((x : Int) = 0) := by omega
                by_cases h2 : 2147483647 < N
                · have e : R = (0, 0, false) := HG.out.symm.trans (zk1 hlt HX.out h127 (.inr (by rw [HN.out]; exact h2)))
                  omega
                · have e : R = (N, p + 3 + 1, true) := HG.out.symm.trans ((zz1 hlt HX.out h127 (by rw [HN.out]; omega)).trans (by rw [HN.out]))
                  subst e
                  have h2' : ¬ (2147483647 < (N : Int)) := by omega
                  go_wp2
                  go_ret3
                  exact ⟨r3 rfl (by first | rfl | omega | (simp; omega)), rfl⟩
          · obtain ⟨N, hN⟩ : ∃ N, m + x % 128 * 128 ^ 4 = N := ⟨_, rfl⟩
            have hN' : m + x % 128 * 268435456 = N := hN
            have hmb : m < 268435456 := hm
            have hNb : N < 34359738368 := by omega
            have e2 : bits .or .i64 (m : Int) ((x : Int) % 128 * 268435456) = (N : Int) := by
              rw [zf11 28 _ _ (by omega) (by omega) (by omega) (by omega) (by omega) (by omega)]; omega
            have HN := Lib.hid hN
            skip
            clear hN hN' hm hmb
            by_cases h127 : 127 < x
            · have HG2 := Lib.hid ((zy1 hlt HX.out h127).symm.trans HG.out)
              go_wp2
              go_round
              case rel => exact ⟨5, f, N, rfl, by omega, rfl, hNb, by rw [← HN.out]; exact HG2.out⟩
              case measure => simp [intOf]
            · by_cases h0 : x = 0
              · have e : R = (0, 0, false) := HG.out.symm.trans (zk1 hlt HX.out h127 (.inl ⟨by omega, h0⟩))
                subst e
                subst h0; go_wp2; go_ret3; exact ⟨rfl, rfl⟩
              · have h0' : ¬ ((x : Int) = 0) := by omega
                by_cases h2 : 2147483647 < N
                · have e : R = (0, 0, false) := HG.out.symm.trans (zk1 hlt HX.out h127 (.inr (by rw [HN.out]; exact h2)))
                  subst e; go_wp2; go_ret3; exact ⟨rfl, rfl⟩
                · have e : R = (N, p + 4 + 1, true) := HG.out.symm.trans ((zz1 hlt HX.out h127 (by rw [HN.out]; omega)).trans (by rw [HN.out]))
                  subst e
                  have h2' : ¬ (2147483647 < (N : Int)) := by omega
                  go_wp2
                  go_ret3
                  exact ⟨r3 rfl (by first | rfl | omega | (simp; omega)), rfl⟩
        · have e : R = (0, 0, false) := by have := HG.out; rw [getGo, if_neg hlt] at this; exact this.symm
          subst e
          go_wp2
          go_ret3
          exact ⟨rfl, rfl⟩
  · have e : getU bs at_ = (0, 0, false) := if_neg h1
    rw [e]
    by_cases h2 : at_ < 0
    · clear h1 e
      go_enter Tryd.func43, Tryd.ntmps43
      go_wp2
      go_loop [7, 8] (fun n i => n = .int .i64 0 ∧ i = .int .i64 0) (fun _ _ => 0)
      case atStart => exact ⟨rfl, rfl⟩
      case round =>
        obtain ⟨rfl, rfl⟩ := hrel
        go_wp2
        go_ret3
        exact ⟨rfl, rfl⟩
    · have h3 : (bs.length : Int) ≤ at_ := by omega
      clear h1 e
      go_enter Tryd.func43, Tryd.ntmps43
      go_wp2
      go_loop [7, 8] (fun n i => n = .int .i64 0 ∧ i = .int .i64 0) (fun _ _ => 0)
      case atStart => exact ⟨rfl, rfl⟩
      case round =>
        obtain ⟨rfl, rfl⟩ := hrel
        go_wp2
        go_ret3
        exact ⟨rfl, rfl⟩
set_option maxRecDepth 100000 in
set_option maxHeartbeats 2000000 in
theorem zt1 (A : Option Addr) (ln c : Nat) (bs : List UInt8) (at_ : Int) (w : World) (hs : Rd w 1 encB (.slice A ln c) bs) (hat : -9223372036854775808 ≤ at_ ∧ at_ ≤ 9223372036854775807) (hln : bs.length ≤ 1073741824) :
    Calls Tryd.prog 41 #[.slice A ln c, .int .i64 at_] w fun e w' => e = .returned (.tuple #[.int .i64 (getU bs at_).1, .int .i64 (getU bs at_).2.1, .bool (getU bs at_).2.2]) ∧ w = w' := by
  obtain rfl := hs.len_eq
  by_cases h1 : 0 ≤ at_ ∧ at_ < bs.length
  · obtain ⟨p, rfl⟩ : ∃ p : Nat, at_ = (p : Int) := ⟨at_.toNat, by omega⟩
    have hp : p < bs.length := by omega
    have e : getU bs (p : Int) = getGo bs p 5 0 0 := by unfold getU; rw [if_pos h1, Int.toNat_natCast]
    rw [e]
    obtain ⟨R, hR⟩ : ∃ R, getGo bs p 5 0 0 = R := ⟨_, rfl⟩
    rw [hR]
    have HR := Lib.hid hR
    clear h1 e hR
    have hin : inB (p : Int) 0 (bs.length - 1) = true := by simp [inB]; omega
    go_enter Tryd.func41, Tryd.ntmps41
    go_wp2_with (go_at_call 49; refine (zu6 _ _ _ _).mono ?_; rintro e w1 ⟨rfl, rfl⟩)
    go_loop [7, 8] (fun n i => ∃ (k f m : Nat), i = .int .i64 k ∧ k + f = 5 ∧ n = .int .i64 m ∧ m < 128 ^ k ∧ getGo bs p f k m = R) (fun _ i => 6 - (intOf i).toNat)
    case atStart => exact ⟨0, 5, 0, rfl, rfl, rfl, by simp, HR.out⟩
    case round =>
      obtain ⟨k, f, m, rfl, hkf, rfl, hm, hget⟩ := hrel
      have HG := Lib.hid hget
      clear hget
      by_cases hk5 : k = 5
      · subst hk5
        clear hm
        obtain rfl : f = 0 := by omega
        have e : R = (0, 0, false) := HG.out.symm
        subst e
        go_wp2
        go_ret3
        exact ⟨rfl, rfl⟩
      · have hk : k < 5 := by omega
        clear hk5
        obtain ⟨f, rfl⟩ : ∃ f', f = f' + 1 := ⟨f - 1, by omega⟩
        by_cases hlt : p + k < bs.length
        · obtain ⟨b, o, rfl, _, hcell⟩ := hs.at1 hlt
          have hcell := hcell _ rfl
          have hxb : bs[p + k].toNat < 256 := UInt8.toNat_lt _
          obtain ⟨x, hx⟩ : ∃ x, bs[p + k].toNat = x := ⟨_, rfl⟩
          rw [hx] at hcell hxb
          have HX := Lib.hid hx
          clear hx
          obtain rfl | rfl | rfl | rfl | rfl : k = 0 ∨ k = 1 ∨ k = 2 ∨ k = 3 ∨ k = 4 := by omega
          · obtain ⟨N, hN⟩ : ∃ N, m + x % 128 * 128 ^ 0 = N := ⟨_, rfl⟩
            have hN' : m + x % 128 * 1 = N := hN
            have hmb : m < 1 := hm
            have hNb : N < 128 := by omega
            have e2 : (m : Int) + (x : Int) % 128 = (N : Int) := by
              omega
            have HN := Lib.hid hN
            simp only [Nat.add_zero] at hcell
            clear hN hN' hm hmb
            by_cases h127 : 127 < x
            · have HG2 := Lib.hid ((zy1 hlt HX.out h127).symm.trans HG.out)
              go_wp2
              go_round
              case rel => exact ⟨1, f, N, rfl, by omega, rfl, hNb, by rw [← HN.out]; exact HG2.out⟩
              case measure => simp [intOf]
            · by_cases h0 : N > 2147483647
              · have e : R = (0, 0, false) := HG.out.symm.trans (zk1 hlt HX.out h127 (.inr (by rw [HN.out]; exact h0)))
                subst e
                omega
              · have e : R = (N, p + 0 + 1, true) := HG.out.symm.trans ((zz1 hlt HX.out h127 (by rw [HN.out]; omega)).trans (by rw [HN.out]))
                subst e
                by_cases hx0 : x = 0
                · (subst hx0; go_wp2; go_ret3; exact ⟨r3 (by have h := HN.out; simp at h; omega) (by first | rfl | omega | (simp; omega)), rfl⟩)
                have h0' : ¬ ((x : Int) = 0) := by omega
                go_wp2
                go_ret3
                exact ⟨r3 rfl (by first | rfl | omega | (simp; omega)), rfl⟩
          · obtain ⟨N, hN⟩ : ∃ N, m + x % 128 * 128 ^ 1 = N := ⟨_, rfl⟩
            have hN' : m + x % 128 * 128 = N := hN
            have hmb : m < 128 := hm
            have hNb : N < 16384 := by omega
            have e2 : (m : Int) + (x : Int) % 128 * 128 = (N : Int) := by
              omega
            have HN := Lib.hid hN
            skip
            clear hN hN' hm hmb
            by_cases h127 : 127 < x
            · have HG2 := Lib.hid ((zy1 hlt HX.out h127).symm.trans HG.out)
              go_wp2
              go_round
              case rel => exact ⟨2, f, N, rfl, by omega, rfl, hNb, by rw [← HN.out]; exact HG2.out⟩
              case measure => simp [intOf]
            · by_cases h0 : x = 0
              · have e : R = (0, 0, false) := HG.out.symm.trans (zk1 hlt HX.out h127 (.inl ⟨by omega, h0⟩))
                subst e
                subst h0; go_wp2; go_ret3; exact ⟨rfl, rfl⟩
              · have h0' : ¬ ((x : Int) = 0) := by omega
                by_cases h2 : 2147483647 < N
                · have e : R = (0, 0, false) := HG.out.symm.trans (zk1 hlt HX.out h127 (.inr (by rw [HN.out]; exact h2)))
                  omega
                · have e : R = (N, p + 1 + 1, true) := HG.out.symm.trans ((zz1 hlt HX.out h127 (by rw [HN.out]; omega)).trans (by rw [HN.out]))
                  subst e
                  have h2' : ¬ (2147483647 < (N : Int)) := by omega
                  go_wp2
                  go_ret3
                  exact ⟨r3 rfl (by first | rfl | omega | (simp; omega)), rfl⟩
          · obtain ⟨N, hN⟩ : ∃ N, m + x % 128 * 128 ^ 2 = N := ⟨_, rfl⟩
            have hN' : m + x % 128 * 16384 = N := hN
            have hmb : m < 16384 := hm
            have hNb : N < 2097152 := by omega
            have e2 : (m : Int) + (x : Int) % 128 * 16384 = (N : Int) := by
              omega
            have HN := Lib.hid hN
            skip
            clear hN hN' hm hmb
            by_cases h127 : 127 < x
            · have HG2 := Lib.hid ((zy1 hlt HX.out h127).symm.trans HG.out)
              go_wp2
              go_round
              case rel => exact ⟨3, f, N, rfl, by omega, rfl, hNb, by rw [← HN.out]; exact HG2.out⟩
              case measure => simp [intOf]
            · by_cases h0 : x = 0
              · have e : R = (0, 0, false) := HG.out.symm.trans (zk1 hlt HX.out h127 (.inl ⟨by omega, h0⟩))
                subst e
                subst h0; go_wp2; go_ret3; exact ⟨rfl, rfl⟩
              · have h0' : ¬ ((x : Int) = 0) := by omega
                by_cases h2 : 2147483647 < N
                · have e : R = (0, 0, false) := HG.out.symm.trans (zk1 hlt HX.out h127 (.inr (by rw [HN.out]; exact h2)))
                  omega
                · have e : R = (N, p + 2 + 1, true) := HG.out.symm.trans ((zz1 hlt HX.out h127 (by rw [HN.out]; omega)).trans (by rw [HN.out]))
                  subst e
                  have h2' : ¬ (2147483647 < (N : Int)) := by omega
                  go_wp2
                  go_ret3
                  exact ⟨r3 rfl (by first | rfl | omega | (simp; omega)), rfl⟩
          · obtain ⟨N, hN⟩ : ∃ N, m + x % 128 * 128 ^ 3 = N := ⟨_, rfl⟩
            have hN' : m + x % 128 * 2097152 = N := hN
            have hmb : m < 2097152 := hm
            have hNb : N < 268435456 := by omega
            have e2 : (m : Int) + (x : Int) % 128 * 2097152 = (N : Int) := by
              omega
            have HN := Lib.hid hN
            skip
            clear hN hN' hm hmb
            by_cases h127 : 127 < x
            · have HG2 := Lib.hid ((zy1 hlt HX.out h127).symm.trans HG.out)
              go_wp2
              go_round
              case rel => exact ⟨4, f, N, rfl, by omega, rfl, hNb, by rw [← HN.out]; exact HG2.out⟩
              case measure => simp [intOf]
            · by_cases h0 : x = 0
              · have e : R = (0, 0, false) := HG.out.symm.trans (zk1 hlt HX.out h127 (.inl ⟨by omega, h0⟩))
                subst e
                subst h0; go_wp2; go_ret3; exact ⟨rfl, rfl⟩
              · have h0' : ¬ ((x : Int) = 0) := by omega
                by_cases h2 : 2147483647 < N
                · have e : R = (0, 0, false) := HG.out.symm.trans (zk1 hlt HX.out h127 (.inr (by rw [HN.out]; exact h2)))
                  omega
                · have e : R = (N, p + 3 + 1, true) := HG.out.symm.trans ((zz1 hlt HX.out h127 (by rw [HN.out]; omega)).trans (by rw [HN.out]))
                  subst e
                  have h2' : ¬ (2147483647 < (N : Int)) := by omega
                  go_wp2
                  go_ret3
                  exact ⟨r3 rfl (by first | rfl | omega | (simp; omega)), rfl⟩
          · obtain ⟨N, hN⟩ : ∃ N, m + x % 128 * 128 ^ 4 = N := ⟨_, rfl⟩
            have hN' : m + x % 128 * 268435456 = N := hN
            have hmb : m < 268435456 := hm
            have hNb : N < 34359738368 := by omega
            have e2 : (m : Int) + (x : Int) % 128 * 268435456 = (N : Int) := by
              omega
            have HN := Lib.hid hN
            skip
            clear hN hN' hm hmb
            by_cases h127 : 127 < x
            · have HG2 := Lib.hid ((zy1 hlt HX.out h127).symm.trans HG.out)
              go_wp2
              go_round
              case rel => exact ⟨5, f, N, rfl, by omega, rfl, hNb, by rw [← HN.out]; exact HG2.out⟩
              case measure => simp [intOf]
            · by_cases h0 : x = 0
              · have e : R = (0, 0, false) := HG.out.symm.trans (zk1 hlt HX.out h127 (.inl ⟨by omega, h0⟩))
                subst e
                subst h0; go_wp2; go_ret3; exact ⟨rfl, rfl⟩
              · have h0' : ¬ ((x : Int) = 0) := by omega
                by_cases h2 : 2147483647 < N
                · have e : R = (0, 0, false) := HG.out.symm.trans (zk1 hlt HX.out h127 (.inr (by rw [HN.out]; exact h2)))
                  subst e; go_wp2; go_ret3; exact ⟨rfl, rfl⟩
                · have e : R = (N, p + 4 + 1, true) := HG.out.symm.trans ((zz1 hlt HX.out h127 (by rw [HN.out]; omega)).trans (by rw [HN.out]))
                  subst e
                  have h2' : ¬ (2147483647 < (N : Int)) := by omega
                  go_wp2
                  go_ret3
                  exact ⟨r3 rfl (by first | rfl | omega | (simp; omega)), rfl⟩
        · have e : R = (0, 0, false) := by have := HG.out; rw [getGo, if_neg hlt] at this; exact this.symm
          subst e
          go_wp2
          go_ret3
          exact ⟨rfl, rfl⟩
  · have e : getU bs at_ = (0, 0, false) := if_neg h1
    rw [e]
    have hlen := hs.len_le
    have hin : inB at_ 0 (bs.length - 1) = false := by simp [inB]; omega
    clear h1 e
    go_enter Tryd.func41, Tryd.ntmps41
    go_wp2_with (go_at_call 49; refine (zu6 _ _ _ _).mono ?_; rintro e w1 ⟨rfl, rfl⟩)
    go_ret3
    exact ⟨rfl, rfl⟩
end Go.Proofs.YtfemkmnkofgaaaaDoor
