/- HeldOf, ValOk, HeapOk of both sides. -/
import Derived.Test.YtghljnfbbaklnaaCellsBentI
namespace Go.Proofs.Ytghljnfbbaklnaa
open Go.RowKit
set_option maxHeartbeats 400000 in
theorem zr7 (A : Option Addr) (ln c : Nat) (ds : List GCell) (w : World) (hs : Rd w 4 encC (.slice A ln c) ds) :
    Calls Try.prog 21 #[.agg #[.slice A ln c]] w fun e w' => e = .returned (.int .i64 (heldOf ds)) ∧ Below w.heap.size w w' := by
  obtain rfl := hs.len_eq
  have hlen := hs.len_le
  have h0 : heldOf (ds.take 0) = 0 := rfl
  have H0 := Lib.hid h0
  clear h0
  go_enter Try.func21, Try.ntmps21
  go_wp2
  go_loopw [3, 4] (fun m i wr => ∃ (k : Nat), k ≤ ds.length ∧ i = .int .i64 k ∧ m = .int .i64 (heldOf (ds.take k)) ∧ Below (w.heap.size + 1) (w.alloc (.cells #[.slice A ds.length c] 39)) wr) (fun _ i _ => ds.length - (intOf i).toNat)
  case atStart => exact ⟨0, Nat.zero_le _, rfl, rfl, Below.refl _ _⟩
  case round =>
    obtain ⟨k, hk, rfl, rfl, hb⟩ := hrel
    have hzb := hb.size
    rw [World.size_alloc] at hzb
    have hbox : wr.cell? ⟨w.heap.size, 0, none⟩ = some (.slice A ds.length c) := zz4 hb (zl6 rfl) (by omega)
    have hle := zp9 ds k
    by_cases hlt : k < ds.length
    · have hst := Lib.hid (zf7 ds k hlt)
      have hs' : Rd wr 4 encC (.slice A ds.length c) ds := (hs.alloc _).below hb (by simp)
      obtain ⟨b, o, rfl, _, hc⟩ := hs'.at_ hlt
      have c0 := hc 0 _ rfl; have c1 := hc 1 _ rfl; have c2 := hc 2 _ rfl; have c3 := hc 3 _ rfl
      rw [Nat.add_zero] at c0
      clear hc
      by_cases hr : 0 < ds[k].refs
      · go_wp2
        go_roundw
        case rel => exact ⟨k + 1, by omega, by go_num, by rw [hst.out, if_pos hr], (by repeat (first | (with_reducible refine Below.setCell ?_ (by first | omega | (· simp) | (· (simp; omega))) _) | (with_reducible refine Below.alloc ?_ (by first | omega | (· simp) | (· (simp; omega))) _) | (with_reducible refine Below.drew ?_) | (with_reducible refine zj1 ?_ _) | (with_reducible exact Below.refl _ _) | (with_reducible assumption) | (with_reducible refine Below.trans ?_ (Below.mono (by assumption) (by first | omega | (· simp) | (· (simp; omega))))) | (with_reducible refine Below.trans ?_ (Kp.below (by assumption) (by first | omega | (· simp) | (· (simp; omega))) (by first | omega | (· simp) | (· (simp; omega)))))))⟩
        case measure => simp [intOf]; omega
      · go_wp2
        go_roundw
        case rel => exact ⟨k + 1, by omega, by go_num, by rw [hst.out, if_neg (by omega), Int.add_zero], (by repeat (first | (with_reducible refine Below.setCell ?_ (by first | omega | (· simp) | (· (simp; omega))) _) | (with_reducible refine Below.alloc ?_ (by first | omega | (· simp) | (· (simp; omega))) _) | (with_reducible refine Below.drew ?_) | (with_reducible refine zj1 ?_ _) | (with_reducible exact Below.refl _ _) | (with_reducible assumption) | (with_reducible refine Below.trans ?_ (Below.mono (by assumption) (by first | omega | (· simp) | (· (simp; omega))))) | (with_reducible refine Below.trans ?_ (Kp.below (by assumption) (by first | omega | (· simp) | (· (simp; omega))) (by first | omega | (· simp) | (· (simp; omega)))))))⟩
        case measure => simp [intOf]; omega
    · have hk' : k = ds.length := by omega
      subst hk'
      go_wp2
      go_ret
      exact ⟨ri (by rw [List.take_length]), (by repeat (first | (with_reducible refine Below.setCell ?_ (by first | omega | (· simp) | (· (simp; omega))) _) | (with_reducible refine Below.alloc ?_ (by first | omega | (· simp) | (· (simp; omega))) _) | (with_reducible refine Below.drew ?_) | (with_reducible refine zj1 ?_ _) | (with_reducible exact Below.refl _ _) | (with_reducible assumption) | (with_reducible refine Below.trans ?_ (Below.mono (by assumption) (by first | omega | (· simp) | (· (simp; omega))))) | (with_reducible refine Below.trans ?_ (Kp.below (by assumption) (by first | omega | (· simp) | (· (simp; omega))) (by first | omega | (· simp) | (· (simp; omega)))))))⟩
set_option maxHeartbeats 400000 in
theorem zs7 (A : Option Addr) (ln c : Nat) (ds : List GCell) (w : World) (hs : Rd w 4 encC (.slice A ln c) ds) :
    Calls Try.prog 20 #[.agg #[.slice A ln c]] w fun e w' => e = .returned (.int .i64 (heldOf ds)) ∧ Below w.heap.size w w' := by
  obtain rfl := hs.len_eq
  have hlen := hs.len_le
  have h0 : heldOf (ds.take 0) = 0 := rfl
  have H0 := Lib.hid h0
  clear h0
  go_enter Try.func20, Try.ntmps20
  go_wp2
  go_loopw [3, 9] (fun m i wr => ∃ (k : Nat), k ≤ ds.length ∧ i = .int .i64 k ∧ m = .int .i64 (heldOf (ds.take k)) ∧ Below (w.heap.size + 1) (w.alloc (.cells #[.slice A ds.length c] 39)) wr) (fun _ i _ => ds.length - (intOf i).toNat)
  case atStart => exact ⟨0, Nat.zero_le _, rfl, rfl, Below.refl _ _⟩
  case round =>
    obtain ⟨k, hk, rfl, rfl, hb⟩ := hrel
    have hzb := hb.size
    rw [World.size_alloc] at hzb
    have hbox : wr.cell? ⟨w.heap.size, 0, none⟩ = some (.slice A ds.length c) := zz4 hb (zl6 rfl) (by omega)
    have hle := zp9 ds k
    by_cases hlt : k < ds.length
    · have hst := Lib.hid (zf7 ds k hlt)
      have hs' : Rd wr 4 encC (.slice A ds.length c) ds := (hs.alloc _).below hb (by simp)
      obtain ⟨b, o, rfl, _, hc⟩ := hs'.at_ hlt
      have c0 := hc 0 _ rfl; have c1 := hc 1 _ rfl; have c2 := hc 2 _ rfl; have c3 := hc 3 _ rfl
      rw [Nat.add_zero] at c0
      clear hc
      by_cases hr : 0 < ds[k].refs
      · go_wp2
        go_roundw
        case rel => exact ⟨k + 1, by omega, by go_num, by rw [hst.out, if_pos hr], (by repeat (first | (with_reducible refine Below.setCell ?_ (by first | omega | (· simp) | (· (simp; omega))) _) | (with_reducible refine Below.alloc ?_ (by first | omega | (· simp) | (· (simp; omega))) _) | (with_reducible refine Below.drew ?_) | (with_reducible refine zj1 ?_ _) | (with_reducible exact Below.refl _ _) | (with_reducible assumption) | (with_reducible refine Below.trans ?_ (Below.mono (by assumption) (by first | omega | (· simp) | (· (simp; omega))))) | (with_reducible refine Below.trans ?_ (Kp.below (by assumption) (by first | omega | (· simp) | (· (simp; omega))) (by first | omega | (· simp) | (· (simp; omega)))))))⟩
        case measure => simp [intOf]; omega
      · go_wp2
        go_roundw
        case rel => exact ⟨k + 1, by omega, by go_num, by rw [hst.out, if_neg (by omega), Int.add_zero], (by repeat (first | (with_reducible refine Below.setCell ?_ (by first | omega | (· simp) | (· (simp; omega))) _) | (with_reducible refine Below.alloc ?_ (by first | omega | (· simp) | (· (simp; omega))) _) | (with_reducible refine Below.drew ?_) | (with_reducible refine zj1 ?_ _) | (with_reducible exact Below.refl _ _) | (with_reducible assumption) | (with_reducible refine Below.trans ?_ (Below.mono (by assumption) (by first | omega | (· simp) | (· (simp; omega))))) | (with_reducible refine Below.trans ?_ (Kp.below (by assumption) (by first | omega | (· simp) | (· (simp; omega))) (by first | omega | (· simp) | (· (simp; omega)))))))⟩
        case measure => simp [intOf]; omega
    · have hk' : k = ds.length := by omega
      subst hk'
      go_wp2
      go_ret
      exact ⟨ri (by rw [List.take_length]), (by repeat (first | (with_reducible refine Below.setCell ?_ (by first | omega | (· simp) | (· (simp; omega))) _) | (with_reducible refine Below.alloc ?_ (by first | omega | (· simp) | (· (simp; omega))) _) | (with_reducible refine Below.drew ?_) | (with_reducible refine zj1 ?_ _) | (with_reducible exact Below.refl _ _) | (with_reducible assumption) | (with_reducible refine Below.trans ?_ (Below.mono (by assumption) (by first | omega | (· simp) | (· (simp; omega))))) | (with_reducible refine Below.trans ?_ (Kp.below (by assumption) (by first | omega | (· simp) | (· (simp; omega))) (by first | omega | (· simp) | (· (simp; omega)))))))⟩
def wrapI (n : Int) : Int := (n + 2147483648) % 4294967296 - 2147483648
theorem zd20 (n : Int) : bits .and .i64 n 4294967295 = n % 4294967296 := by
  have h1 : (BitVec.ofInt 64 n).toNat = (n % 18446744073709551616).toNat := by rw [BitVec.toNat_ofInt]; rfl
  have h2 : (BitVec.ofInt 64 4294967295).toNat = 2 ^ 32 - 1 := by rfl
  show IntKind.i64.wrap ((BitVec.ofInt 64 n &&& BitVec.ofInt 64 4294967295).toNat : Int) = _
  rw [BitVec.toNat_and, h1, h2, Nat.and_two_pow_sub_one_eq_mod, IntKind.wrap_i64]
  omega
theorem zj6 (n : Int) (w : World) (h : -9223372036854775808 ≤ n ∧ n ≤ 9223372036854775807) : Calls Try.prog 93 #[.int .i64 n] w fun e w' => e = .returned (.int .i64 (wrapI n)) ∧ w' = w := by
  go_enter Try.func93, Try.ntmps93
  go_wp2
  go_ret
  exact ⟨ri (by simp [wrapI, wrap64, wrap32]; omega), rfl⟩
theorem zy4 (n : Int) (w : World) (h : -9223372036854775808 ≤ n ∧ n ≤ 9223372036854775807) : Calls Try.prog 94 #[.int .i64 n] w fun e w' => e = .returned (.int .i64 (wrapI n)) ∧ w' = w := by
  have h1 := zd20 n
  have hw : -2147483648 ≤ wrapI n ∧ wrapI n ≤ 2147483647 := by unfold wrapI; omega
  by_cases h2 : 2147483647 < n % 4294967296
  · have e : wrapI n = n % 4294967296 - 4294967296 := by unfold wrapI; omega
    rw [e]
    clear e hw
    go_enter Try.func94, Try.ntmps94
    go_wp2
    go_ret
    exact ⟨rfl, rfl⟩
  · have e : wrapI n = n % 4294967296 := by unfold wrapI; omega
    rw [e]
    clear e hw
    go_enter Try.func94, Try.ntmps94
    go_wp2
    go_ret
    exact ⟨rfl, rfl⟩
def valOk (a b : Int) (s : ByteArray) : Bool := if a = 0 then b == 0 && s.toList.isEmpty else if a = 1 then b == wrapI b && s.toList.isEmpty else if a = 2 then b == 0 && decide (s.size ≤ 200) else false
theorem zp4 {s : ByteArray} (h : s.toList = []) : s = ⟨#[]⟩ := by
  rw [ByteArray.toList_eq] at h
  obtain ⟨⟨l⟩⟩ := s
  simp at h
  subst h
  rfl
theorem zl17 : valOk 0 0 ⟨#[]⟩ = true := by
  have : (ByteArray.mk #[]).toList = [] := by rw [ByteArray.toList_eq]
  simp [valOk, this]
set_option maxHeartbeats 1000000 in
theorem zn2 (a b : Int) (s : ByteArray) (w : World) (h : -9223372036854775808 ≤ b ∧ b ≤ 9223372036854775807) : Calls Try.prog 52 #[.agg #[.int .i64 a, .int .i64 b, .string s]] w fun e w' => e = .returned (.bool (valOk a b s)) ∧ Below w.heap.size w w' := by
  by_cases ha : a = 0
  · subst ha
    by_cases hb : b = 0
    · subst hb
      by_cases hs : s.toList = []
      · obtain rfl := zp4 hs
        rw [zl17]
        clear hs
        go_enter Try.func52, Try.ntmps52
        go_wp2
        go_ret
        exact ⟨rfl, (by repeat (first | (with_reducible refine Below.setCell ?_ (by first | omega | (· simp) | (· (simp; omega))) _) | (with_reducible refine Below.alloc ?_ (by first | omega | (· simp) | (· (simp; omega))) _) | (with_reducible refine Below.drew ?_) | (with_reducible refine zj1 ?_ _) | (with_reducible exact Below.refl _ _) | (with_reducible assumption) | (with_reducible refine Below.trans ?_ (Below.mono (by assumption) (by first | omega | (· simp) | (· (simp; omega))))) | (with_reducible refine Below.trans ?_ (Kp.below (by assumption) (by first | omega | (· simp) | (· (simp; omega))) (by first | omega | (· simp) | (· (simp; omega)))))))⟩
      · have hs1 : s.toList.isEmpty = false := by simpa using hs
        have hs2 : (s.toList == []) = false := by simpa using hs
        have e : valOk 0 0 s = false := by simp [valOk, hs1]
        rw [e]
        clear e hs
        go_enter Try.func52, Try.ntmps52
        go_wp2
        go_ret
        exact ⟨rfl, (by repeat (first | (with_reducible refine Below.setCell ?_ (by first | omega | (· simp) | (· (simp; omega))) _) | (with_reducible refine Below.alloc ?_ (by first | omega | (· simp) | (· (simp; omega))) _) | (with_reducible refine Below.drew ?_) | (with_reducible refine zj1 ?_ _) | (with_reducible exact Below.refl _ _) | (with_reducible assumption) | (with_reducible refine Below.trans ?_ (Below.mono (by assumption) (by first | omega | (· simp) | (· (simp; omega))))) | (with_reducible refine Below.trans ?_ (Kp.below (by assumption) (by first | omega | (· simp) | (· (simp; omega))) (by first | omega | (· simp) | (· (simp; omega)))))))⟩
    · have hb1 : (b == 0) = false := by simpa using hb
      have e : valOk 0 b s = false := by simp [valOk, hb]
      rw [e]
      clear e hb
      go_enter Try.func52, Try.ntmps52
      go_wp2
      go_ret
      exact ⟨rfl, (by repeat (first | (with_reducible refine Below.setCell ?_ (by first | omega | (· simp) | (· (simp; omega))) _) | (with_reducible refine Below.alloc ?_ (by first | omega | (· simp) | (· (simp; omega))) _) | (with_reducible refine Below.drew ?_) | (with_reducible refine zj1 ?_ _) | (with_reducible exact Below.refl _ _) | (with_reducible assumption) | (with_reducible refine Below.trans ?_ (Below.mono (by assumption) (by first | omega | (· simp) | (· (simp; omega))))) | (with_reducible refine Below.trans ?_ (Kp.below (by assumption) (by first | omega | (· simp) | (· (simp; omega))) (by first | omega | (· simp) | (· (simp; omega)))))))⟩
  · by_cases ha1 : a = 1
    · subst ha1
      by_cases hb : b = wrapI b
      · have hb1 : (b == wrapI b) = true := by simpa using hb
        have hb2 : (wrapI b == b) = true := by simpa using hb.symm
        have e : valOk 1 b s = s.toList.isEmpty := by simp [valOk, ← hb]
        rw [e]
        clear e hb
        go_enter Try.func52, Try.ntmps52
        go_wp2
        go_quiet ((go_at_call 93; exact Calls.quiet_of_same (zj6 _ _ h)))
        go_wp2
        go_ret
        exact ⟨rfl, (by repeat (first | (with_reducible refine Below.setCell ?_ (by first | omega | (· simp) | (· (simp; omega))) _) | (with_reducible refine Below.alloc ?_ (by first | omega | (· simp) | (· (simp; omega))) _) | (with_reducible refine Below.drew ?_) | (with_reducible refine zj1 ?_ _) | (with_reducible exact Below.refl _ _) | (with_reducible assumption) | (with_reducible refine Below.trans ?_ (Below.mono (by assumption) (by first | omega | (· simp) | (· (simp; omega))))) | (with_reducible refine Below.trans ?_ (Kp.below (by assumption) (by first | omega | (· simp) | (· (simp; omega))) (by first | omega | (· simp) | (· (simp; omega)))))))⟩
      · have hb1 : (b == wrapI b) = false := by simpa using hb
        have hb2 : (wrapI b == b) = false := by simpa using fun e => hb e.symm
        have e : valOk 1 b s = false := by simp [valOk, hb]
        rw [e]
        clear e hb
        go_enter Try.func52, Try.ntmps52
        go_wp2
        go_quiet ((go_at_call 93; exact Calls.quiet_of_same (zj6 _ _ h)))
        go_wp2
        go_ret
        exact ⟨rfl, (by repeat (first | (with_reducible refine Below.setCell ?_ (by first | omega | (· simp) | (· (simp; omega))) _) | (with_reducible refine Below.alloc ?_ (by first | omega | (· simp) | (· (simp; omega))) _) | (with_reducible refine Below.drew ?_) | (with_reducible refine zj1 ?_ _) | (with_reducible exact Below.refl _ _) | (with_reducible assumption) | (with_reducible refine Below.trans ?_ (Below.mono (by assumption) (by first | omega | (· simp) | (· (simp; omega))))) | (with_reducible refine Below.trans ?_ (Kp.below (by assumption) (by first | omega | (· simp) | (· (simp; omega))) (by first | omega | (· simp) | (· (simp; omega)))))))⟩
    · by_cases ha2 : a = 2
      · subst ha2
        by_cases hb : b = 0
        · subst hb
          by_cases hs : s.size ≤ 200
          · have hs1 : (s.size : Int) ≤ 200 := by omega
            have e : valOk 2 0 s = true := by simp [valOk, hs]
            rw [e]
            clear e hs
            go_enter Try.func52, Try.ntmps52
            go_wp2
            go_ret
            exact ⟨rfl, (by repeat (first | (with_reducible refine Below.setCell ?_ (by first | omega | (· simp) | (· (simp; omega))) _) | (with_reducible refine Below.alloc ?_ (by first | omega | (· simp) | (· (simp; omega))) _) | (with_reducible refine Below.drew ?_) | (with_reducible refine zj1 ?_ _) | (with_reducible exact Below.refl _ _) | (with_reducible assumption) | (with_reducible refine Below.trans ?_ (Below.mono (by assumption) (by first | omega | (· simp) | (· (simp; omega))))) | (with_reducible refine Below.trans ?_ (Kp.below (by assumption) (by first | omega | (· simp) | (· (simp; omega))) (by first | omega | (· simp) | (· (simp; omega)))))))⟩
          · have hs1 : ¬ (s.size : Int) ≤ 200 := by omega
            have e : valOk 2 0 s = false := by simp [valOk]; omega
            rw [e]
            clear e hs
            go_enter Try.func52, Try.ntmps52
            go_wp2
            go_ret
            exact ⟨rfl, (by repeat (first | (with_reducible refine Below.setCell ?_ (by first | omega | (· simp) | (· (simp; omega))) _) | (with_reducible refine Below.alloc ?_ (by first | omega | (· simp) | (· (simp; omega))) _) | (with_reducible refine Below.drew ?_) | (with_reducible refine zj1 ?_ _) | (with_reducible exact Below.refl _ _) | (with_reducible assumption) | (with_reducible refine Below.trans ?_ (Below.mono (by assumption) (by first | omega | (· simp) | (· (simp; omega))))) | (with_reducible refine Below.trans ?_ (Kp.below (by assumption) (by first | omega | (· simp) | (· (simp; omega))) (by first | omega | (· simp) | (· (simp; omega)))))))⟩
        · have hb1 : (b == 0) = false := by simpa using hb
          have e : valOk 2 b s = false := by simp [valOk, hb]
          rw [e]
          clear e hb
          go_enter Try.func52, Try.ntmps52
          go_wp2
          all_goals (go_ret; exact ⟨rfl, (by repeat (first | (with_reducible refine Below.setCell ?_ (by first | omega | (· simp) | (· (simp; omega))) _) | (with_reducible refine Below.alloc ?_ (by first | omega | (· simp) | (· (simp; omega))) _) | (with_reducible refine Below.drew ?_) | (with_reducible refine zj1 ?_ _) | (with_reducible exact Below.refl _ _) | (with_reducible assumption) | (with_reducible refine Below.trans ?_ (Below.mono (by assumption) (by first | omega | (· simp) | (· (simp; omega))))) | (with_reducible refine Below.trans ?_ (Kp.below (by assumption) (by first | omega | (· simp) | (· (simp; omega))) (by first | omega | (· simp) | (· (simp; omega)))))))⟩)
      · have h0 : (a == 0) = false := by simpa using ha
        have h1 : (a == 1) = false := by simpa using ha1
        have h2 : (a == 2) = false := by simpa using ha2
        have e : valOk a b s = false := by simp [valOk, ha, ha1, ha2]
        rw [e]
        clear e ha ha1 ha2
        go_enter Try.func52, Try.ntmps52
        go_wp2
        go_ret
        exact ⟨rfl, (by repeat (first | (with_reducible refine Below.setCell ?_ (by first | omega | (· simp) | (· (simp; omega))) _) | (with_reducible refine Below.alloc ?_ (by first | omega | (· simp) | (· (simp; omega))) _) | (with_reducible refine Below.drew ?_) | (with_reducible refine zj1 ?_ _) | (with_reducible exact Below.refl _ _) | (with_reducible assumption) | (with_reducible refine Below.trans ?_ (Below.mono (by assumption) (by first | omega | (· simp) | (· (simp; omega))))) | (with_reducible refine Below.trans ?_ (Kp.below (by assumption) (by first | omega | (· simp) | (· (simp; omega))) (by first | omega | (· simp) | (· (simp; omega)))))))⟩
set_option maxHeartbeats 1000000 in
theorem zo2 (a b : Int) (s : ByteArray) (w : World) (h : -9223372036854775808 ≤ b ∧ b ≤ 9223372036854775807) : Calls Try.prog 53 #[.agg #[.int .i64 a, .int .i64 b, .string s]] w fun e w' => e = .returned (.bool (valOk a b s)) ∧ Below w.heap.size w w' := by
  by_cases ha : a = 0
  · subst ha
    by_cases hb : b = 0
    · subst hb
      by_cases hs : s.toList = []
      · obtain rfl := zp4 hs
        rw [zl17]
        clear hs
        go_enter Try.func53, Try.ntmps53
        go_wp2
        go_ret
        exact ⟨rfl, (by repeat (first | (with_reducible refine Below.setCell ?_ (by first | omega | (· simp) | (· (simp; omega))) _) | (with_reducible refine Below.alloc ?_ (by first | omega | (· simp) | (· (simp; omega))) _) | (with_reducible refine Below.drew ?_) | (with_reducible refine zj1 ?_ _) | (with_reducible exact Below.refl _ _) | (with_reducible assumption) | (with_reducible refine Below.trans ?_ (Below.mono (by assumption) (by first | omega | (· simp) | (· (simp; omega))))) | (with_reducible refine Below.trans ?_ (Kp.below (by assumption) (by first | omega | (· simp) | (· (simp; omega))) (by first | omega | (· simp) | (· (simp; omega)))))))⟩
      · have hs1 : s.toList.isEmpty = false := by simpa using hs
        have hs2 : (s.toList == []) = false := by simpa using hs
        have e : valOk 0 0 s = false := by simp [valOk, hs1]
        rw [e]
        clear e hs
        go_enter Try.func53, Try.ntmps53
        go_wp2
        go_ret
        exact ⟨rfl, (by repeat (first | (with_reducible refine Below.setCell ?_ (by first | omega | (· simp) | (· (simp; omega))) _) | (with_reducible refine Below.alloc ?_ (by first | omega | (· simp) | (· (simp; omega))) _) | (with_reducible refine Below.drew ?_) | (with_reducible refine zj1 ?_ _) | (with_reducible exact Below.refl _ _) | (with_reducible assumption) | (with_reducible refine Below.trans ?_ (Below.mono (by assumption) (by first | omega | (· simp) | (· (simp; omega))))) | (with_reducible refine Below.trans ?_ (Kp.below (by assumption) (by first | omega | (· simp) | (· (simp; omega))) (by first | omega | (· simp) | (· (simp; omega)))))))⟩
    · have hb1 : (b == 0) = false := by simpa using hb
      have e : valOk 0 b s = false := by simp [valOk, hb]
      rw [e]
      clear e hb
      go_enter Try.func53, Try.ntmps53
      go_wp2
      go_ret
      exact ⟨rfl, (by repeat (first | (with_reducible refine Below.setCell ?_ (by first | omega | (· simp) | (· (simp; omega))) _) | (with_reducible refine Below.alloc ?_ (by first | omega | (· simp) | (· (simp; omega))) _) | (with_reducible refine Below.drew ?_) | (with_reducible refine zj1 ?_ _) | (with_reducible exact Below.refl _ _) | (with_reducible assumption) | (with_reducible refine Below.trans ?_ (Below.mono (by assumption) (by first | omega | (· simp) | (· (simp; omega))))) | (with_reducible refine Below.trans ?_ (Kp.below (by assumption) (by first | omega | (· simp) | (· (simp; omega))) (by first | omega | (· simp) | (· (simp; omega)))))))⟩
  · by_cases ha1 : a = 1
    · subst ha1
      by_cases hb : b = wrapI b
      · have hb1 : (b == wrapI b) = true := by simpa using hb
        have hb2 : (wrapI b == b) = true := by simpa using hb.symm
        have e : valOk 1 b s = s.toList.isEmpty := by simp [valOk, ← hb]
        rw [e]
        clear e hb
        go_enter Try.func53, Try.ntmps53
        go_wp2
        go_quiet ((go_at_call 94; exact Calls.quiet_of_same (zy4 _ _ h)))
        go_wp2
        go_ret
        exact ⟨rfl, (by repeat (first | (with_reducible refine Below.setCell ?_ (by first | omega | (· simp) | (· (simp; omega))) _) | (with_reducible refine Below.alloc ?_ (by first | omega | (· simp) | (· (simp; omega))) _) | (with_reducible refine Below.drew ?_) | (with_reducible refine zj1 ?_ _) | (with_reducible exact Below.refl _ _) | (with_reducible assumption) | (with_reducible refine Below.trans ?_ (Below.mono (by assumption) (by first | omega | (· simp) | (· (simp; omega))))) | (with_reducible refine Below.trans ?_ (Kp.below (by assumption) (by first | omega | (· simp) | (· (simp; omega))) (by first | omega | (· simp) | (· (simp; omega)))))))⟩
      · have hb1 : (b == wrapI b) = false := by simpa using hb
        have hb2 : (wrapI b == b) = false := by simpa using fun e => hb e.symm
        have e : valOk 1 b s = false := by simp [valOk, hb]
        rw [e]
        clear e hb
        go_enter Try.func53, Try.ntmps53
        go_wp2
        go_quiet ((go_at_call 94; exact Calls.quiet_of_same (zy4 _ _ h)))
        go_wp2
        go_ret
        exact ⟨rfl, (by repeat (first | (with_reducible refine Below.setCell ?_ (by first | omega | (· simp) | (· (simp; omega))) _) | (with_reducible refine Below.alloc ?_ (by first | omega | (· simp) | (· (simp; omega))) _) | (with_reducible refine Below.drew ?_) | (with_reducible refine zj1 ?_ _) | (with_reducible exact Below.refl _ _) | (with_reducible assumption) | (with_reducible refine Below.trans ?_ (Below.mono (by assumption) (by first | omega | (· simp) | (· (simp; omega))))) | (with_reducible refine Below.trans ?_ (Kp.below (by assumption) (by first | omega | (· simp) | (· (simp; omega))) (by first | omega | (· simp) | (· (simp; omega)))))))⟩
    · by_cases ha2 : a = 2
      · subst ha2
        by_cases hb : b = 0
        · subst hb
          by_cases hs : s.size ≤ 200
          · have hs1 : (s.size : Int) ≤ 200 := by omega
            have e : valOk 2 0 s = true := by simp [valOk, hs]
            rw [e]
            clear e hs
            go_enter Try.func53, Try.ntmps53
            go_wp2
            go_ret
            exact ⟨rfl, (by repeat (first | (with_reducible refine Below.setCell ?_ (by first | omega | (· simp) | (· (simp; omega))) _) | (with_reducible refine Below.alloc ?_ (by first | omega | (· simp) | (· (simp; omega))) _) | (with_reducible refine Below.drew ?_) | (with_reducible refine zj1 ?_ _) | (with_reducible exact Below.refl _ _) | (with_reducible assumption) | (with_reducible refine Below.trans ?_ (Below.mono (by assumption) (by first | omega | (· simp) | (· (simp; omega))))) | (with_reducible refine Below.trans ?_ (Kp.below (by assumption) (by first | omega | (· simp) | (· (simp; omega))) (by first | omega | (· simp) | (· (simp; omega)))))))⟩
          · have hs1 : ¬ (s.size : Int) ≤ 200 := by omega
            have e : valOk 2 0 s = false := by simp [valOk]; omega
            rw [e]
            clear e hs
            go_enter Try.func53, Try.ntmps53
            go_wp2
            go_ret
            exact ⟨rfl, (by repeat (first | (with_reducible refine Below.setCell ?_ (by first | omega | (· simp) | (· (simp; omega))) _) | (with_reducible refine Below.alloc ?_ (by first | omega | (· simp) | (· (simp; omega))) _) | (with_reducible refine Below.drew ?_) | (with_reducible refine zj1 ?_ _) | (with_reducible exact Below.refl _ _) | (with_reducible assumption) | (with_reducible refine Below.trans ?_ (Below.mono (by assumption) (by first | omega | (· simp) | (· (simp; omega))))) | (with_reducible refine Below.trans ?_ (Kp.below (by assumption) (by first | omega | (· simp) | (· (simp; omega))) (by first | omega | (· simp) | (· (simp; omega)))))))⟩
        · have hb1 : (b == 0) = false := by simpa using hb
          have e : valOk 2 b s = false := by simp [valOk, hb]
          rw [e]
          clear e hb
          go_enter Try.func53, Try.ntmps53
          go_wp2
          all_goals (go_ret; exact ⟨rfl, (by repeat (first | (with_reducible refine Below.setCell ?_ (by first | omega | (· simp) | (· (simp; omega))) _) | (with_reducible refine Below.alloc ?_ (by first | omega | (· simp) | (· (simp; omega))) _) | (with_reducible refine Below.drew ?_) | (with_reducible refine zj1 ?_ _) | (with_reducible exact Below.refl _ _) | (with_reducible assumption) | (with_reducible refine Below.trans ?_ (Below.mono (by assumption) (by first | omega | (· simp) | (· (simp; omega))))) | (with_reducible refine Below.trans ?_ (Kp.below (by assumption) (by first | omega | (· simp) | (· (simp; omega))) (by first | omega | (· simp) | (· (simp; omega)))))))⟩)
      · have h0 : (a == 0) = false := by simpa using ha
        have h1 : (a == 1) = false := by simpa using ha1
        have h2 : (a == 2) = false := by simpa using ha2
        have e : valOk a b s = false := by simp [valOk, ha, ha1, ha2]
        rw [e]
        clear e ha ha1 ha2
        go_enter Try.func53, Try.ntmps53
        go_wp2
        go_ret
        exact ⟨rfl, (by repeat (first | (with_reducible refine Below.setCell ?_ (by first | omega | (· simp) | (· (simp; omega))) _) | (with_reducible refine Below.alloc ?_ (by first | omega | (· simp) | (· (simp; omega))) _) | (with_reducible refine Below.drew ?_) | (with_reducible refine zj1 ?_ _) | (with_reducible exact Below.refl _ _) | (with_reducible assumption) | (with_reducible refine Below.trans ?_ (Below.mono (by assumption) (by first | omega | (· simp) | (· (simp; omega))))) | (with_reducible refine Below.trans ?_ (Kp.below (by assumption) (by first | omega | (· simp) | (· (simp; omega))) (by first | omega | (· simp) | (· (simp; omega)))))))⟩
set_option maxRecDepth 100000
def I64 (z : Int) : Prop := -9223372036854775808 ≤ z ∧ z ≤ 9223372036854775807
theorem zk12 {n : Int} (hn : I64 n) : Ctr Try.prog 94 [.c (.v (.int .i64 n))] [] (.c (.v (.int .i64 (wrapI n)))) [] := by
  refine zj9 (us := [.int .i64 n]) (by kernel_rfl) rfl (fun w St φ K us' h => ?_) fun w => (zy4 n w hn).mono fun e w' h => ⟨h.1, by obtain ⟨-, rfl⟩ := h; exact Below.refl _ _⟩
  simp only [VRL, VR, CR] at h
  obtain ⟨u, us1, rfl, ⟨rfl, -⟩, rfl⟩ := h
  rfl
theorem zq9 (n : Int) : I64 (wrapI n) := by unfold I64 wrapI; omega
theorem zj18 {n : Int} (hn : I64 n) : Ctr Try.prog 116 [.c (.v (.int .i64 n))] [] (.ag [.v (.int .i64 1), .v (.int .i64 (wrapI n)), .v (.string ⟨#[]⟩)]) [] := by
  have hc := zk12 hn
  refine zm1 Try.func116 rfl rfl ?_
  repeat' (first | ((apply f_wo); first | ((apply f_mv); first | refine zv (v := .c _) ?_ | refine za ?_) | ((apply f_ca); first | refine zj2 (hc) ?_ | refine ze2 (hc) ?_) | ((apply f_st); first | refine n_st ?_ | refine zk1 ?_) | refine n_al ?_ | refine za ?_) | ((apply f_w); first | refine zt ?_ | refine zc ?_) | refine zb fun C => ?_ | refine zg ?_ | refine zd ?_ | refine ze ?_ | refine zf ?_)
  refine zh1 ?_; refine ret0 rfl (ze3 (zh3 rfl (zh3 rfl (zh3 rfl zd2)))) ⟨?_, rfl⟩
  rfl
theorem zk16 (s : ByteArray) : Ctr Try.prog 117 [.c (.v (.string s))] [] (.ag [.v (.int .i64 2), .v (.int .i64 0), .v (.string s)]) [] := by
  refine zm1 Try.func117 rfl rfl ?_
  repeat' (first | ((apply f_wo); first | ((apply f_mv); first | refine zv (v := .c _) ?_ | refine za ?_) | ((apply f_st); first | refine n_st ?_ | refine zk1 ?_) | refine n_al ?_ | refine za ?_) | ((apply f_w); first | refine zt ?_ | refine zc ?_) | refine zb fun C => ?_ | refine zg ?_ | refine zd ?_ | refine ze ?_ | refine zf ?_)
  refine zh1 ?_; refine ret0 rfl (ze3 (zh3 rfl (zh3 rfl (zh3 rfl zd2)))) ⟨?_, rfl⟩
  rfl
def drTexts : List ByteArray := [⟨#[]⟩, ⟨#[97]⟩, ⟨#[97, 98]⟩, ⟨#[49, 50]⟩, ⟨#[45, 51, 120]⟩, ⟨#[48]⟩, ⟨#[119, 111, 114, 100]⟩, ⟨#[45]⟩, ⟨#[57, 57, 57, 57, 57, 57, 57, 57, 57, 57, 57]⟩]
theorem zr9 : ∀ s ∈ drTexts, s.size ≤ 11 := by
  intro s hs
  simp only [drTexts, List.mem_cons, List.not_mem_nil, or_false] at hs
  rcases hs with rfl | rfl | rfl | rfl | rfl | rfl | rfl | rfl | rfl <;> decide
def VOk (a b : Int) (s : ByteArray) : Prop := I64 a ∧ I64 b ∧ s.size ≤ 201
theorem lt5 {k : Nat} (h : (k : Int) < 5) : k = 0 ∨ k = 1 ∨ k = 2 ∨ k = 3 ∨ k = 4 := by omega
theorem zs11 {cs : List AC} (hc : Curs cs) : ∃ (a b : Int) (s : ByteArray) (cs' : List AC), Curs cs' ∧ VOk a b s ∧ Ctr Try.prog 84 [.c (.pt 0 0)] [cs] (.ag [.v (.int .i64 a), .v (.int .i64 b), .v (.string s)]) [cs'] := by
  have cc := zw hc
  obtain ⟨k, cs1, h1, hk, c1⟩ := zr2 hc 5 (by decide)
  have cc1 := zw h1
  obtain ⟨z, cs2, h2, hz, c2⟩ := zq8 h1 [0, 1, 2, 3, -1, 7, 10, 2147483647, -2147483648] (by decide)
  have cc2 := zw h2
  have hz64 : I64 z := by
    simp only [List.mem_cons, List.not_mem_nil, or_false] at hz
    unfold I64; omega
  have c3 := zj18 hz64
  obtain ⟨s, cs4, h4, hs, c4⟩ := zi18 h1 drTexts (by decide)
  have cc4 := zw h4
  have c5 := zk16 s
  rcases lt5 hk with rfl | rfl | rfl | rfl | rfl
  · refine ⟨0, 0, ⟨#[]⟩, cs1, h1, ⟨by unfold I64; decide, by unfold I64; decide, by decide⟩, zm1 Try.func84 rfl rfl ?_⟩
    repeat' (first | ((apply f_wo); first | ((apply f_mv); first | refine zv (v := .c _) ?_ | refine za ?_) | ((apply f_as); first | refine zl1 (v := .c _) ?_ | refine za ?_) | ((apply f_ca); first | refine zy1 0 (c1) ?_ (hl := zp1 (by rfl) cc) | refine ze7 0 [12] (c2) ?_ (hl := zp1 (by rfl) cc1) | refine zj2 (c3) ?_ | refine ze2 (c3) ?_ | refine ze7 0 [16] (c4) ?_ (hl := zp1 (by rfl) cc1) | refine zj2 (c5) ?_ | refine ze2 (c5) ?_) | ((apply f_st); first | refine n_st ?_ | refine zk1 ?_) | ((apply zk2); first | refine zg1 ?_ | refine za ?_) | refine n_al ?_ | refine n_bs ?_ | refine za ?_) | ((apply f_w); first | refine zt ?_ | refine zc ?_) | refine zb fun C => ?_ | refine zg ?_ | refine zd ?_ | refine ze ?_ | refine zf ?_ | refine zm rfl ?_ | refine zn rfl ?_)
    refine zh1 ?_
    refine ret1 rfl (ze3 (zh3 rfl (zh3 rfl (zh3 rfl zd2)))) rfl cc1 (zx1 h1 hc) ⟨rfl, rfl⟩
  · refine ⟨1, wrapI z, ⟨#[]⟩, cs2, h2, ⟨by unfold I64; decide, zq9 z, by decide⟩, zm1 Try.func84 rfl rfl ?_⟩
    repeat' (first | ((apply f_wo); first | ((apply f_mv); first | refine zv (v := .c _) ?_ | refine za ?_) | ((apply f_as); first | refine zl1 (v := .c _) ?_ | refine za ?_) | ((apply f_ca); first | refine zy1 0 (c1) ?_ (hl := zp1 (by rfl) cc) | refine ze7 0 [12] (c2) ?_ (hl := zp1 (by rfl) cc1) | refine zj2 (c3) ?_ | refine ze2 (c3) ?_ | refine ze7 0 [16] (c4) ?_ (hl := zp1 (by rfl) cc1) | refine zj2 (c5) ?_ | refine ze2 (c5) ?_) | ((apply f_st); first | refine n_st ?_ | refine zk1 ?_) | ((apply zk2); first | refine zg1 ?_ | refine za ?_) | refine n_al ?_ | refine n_bs ?_ | refine za ?_) | ((apply f_w); first | refine zt ?_ | refine zc ?_) | refine zb fun C => ?_ | refine zg ?_ | refine zd ?_ | refine ze ?_ | refine zf ?_ | refine zm rfl ?_ | refine zn rfl ?_)
    refine zh1 ?_
    refine ret1 rfl (ze3 (zh3 rfl (zh3 rfl (zh3 rfl zd2)))) rfl cc2 (zx1 h2 hc) ⟨rfl, rfl⟩
  · refine ⟨1, wrapI z, ⟨#[]⟩, cs2, h2, ⟨by unfold I64; decide, zq9 z, by decide⟩, zm1 Try.func84 rfl rfl ?_⟩
    repeat' (first | ((apply f_wo); first | ((apply f_mv); first | refine zv (v := .c _) ?_ | refine za ?_) | ((apply f_as); first | refine zl1 (v := .c _) ?_ | refine za ?_) | ((apply f_ca); first | refine zy1 0 (c1) ?_ (hl := zp1 (by rfl) cc) | refine ze7 0 [12] (c2) ?_ (hl := zp1 (by rfl) cc1) | refine zj2 (c3) ?_ | refine ze2 (c3) ?_ | refine ze7 0 [16] (c4) ?_ (hl := zp1 (by rfl) cc1) | refine zj2 (c5) ?_ | refine ze2 (c5) ?_) | ((apply f_st); first | refine n_st ?_ | refine zk1 ?_) | ((apply zk2); first | refine zg1 ?_ | refine za ?_) | refine n_al ?_ | refine n_bs ?_ | refine za ?_) | ((apply f_w); first | refine zt ?_ | refine zc ?_) | refine zb fun C => ?_ | refine zg ?_ | refine zd ?_ | refine ze ?_ | refine zf ?_ | refine zm rfl ?_ | refine zn rfl ?_)
    refine zh1 ?_
    refine ret1 rfl (ze3 (zh3 rfl (zh3 rfl (zh3 rfl zd2)))) rfl cc2 (zx1 h2 hc) ⟨rfl, rfl⟩
  all_goals
    refine ⟨2, 0, s, cs4, h4, ⟨by unfold I64; decide, by unfold I64; decide, by have := zr9 s hs; omega⟩, zm1 Try.func84 rfl rfl ?_⟩
    repeat' (first | ((apply f_wo); first | ((apply f_mv); first | refine zv (v := .c _) ?_ | refine za ?_) | ((apply f_as); first | refine zl1 (v := .c _) ?_ | refine za ?_) | ((apply f_ca); first | refine zy1 0 (c1) ?_ (hl := zp1 (by rfl) cc) | refine ze7 0 [12] (c2) ?_ (hl := zp1 (by rfl) cc1) | refine zj2 (c3) ?_ | refine ze2 (c3) ?_ | refine ze7 0 [16] (c4) ?_ (hl := zp1 (by rfl) cc1) | refine zj2 (c5) ?_ | refine ze2 (c5) ?_) | ((apply f_st); first | refine n_st ?_ | refine zk1 ?_) | ((apply zk2); first | refine zg1 ?_ | refine za ?_) | refine n_al ?_ | refine n_bs ?_ | refine za ?_) | ((apply f_w); first | refine zt ?_ | refine zc ?_) | refine zb fun C => ?_ | refine zg ?_ | refine zd ?_ | refine ze ?_ | refine zf ?_ | refine zm rfl ?_ | refine zn rfl ?_)
    refine zh1 ?_
    refine ret1 rfl (ze3 (zh3 rfl (zh3 rfl (zh3 rfl zd2)))) rfl cc4 (zx1 h4 hc) ⟨rfl, rfl⟩
theorem zk18 {cs : List AC} (hc : Curs cs) : ∃ (z : Int) (cs' : List AC), Curs cs' ∧ I64 z ∧ Ctr Try.prog 85 [.c (.pt 0 0)] [cs] (.c (.v (.int .i64 z))) [cs'] := by
  have cc := zw hc
  obtain ⟨k, cs1, h1, hk, c1⟩ := zr2 hc 100000 (by decide)
  have cc1 := zw h1
  obtain ⟨z, cs2, h2, hz, c2⟩ := zq8 h1 [0, 1, -1, 63, 64, -64, -65, 127, 128, 300, 2147483647, -2147483648, 2147483648, -2147483649, 4294967296, 9223372036854775807, -9223372036854775808, (k : Int)] (by simp)
  have cc2 := zw h2
  have hz64 : I64 z := by
    simp only [List.mem_cons, List.not_mem_nil, or_false] at hz
    unfold I64; omega
  refine ⟨z, cs2, h2, hz64, zm1 Try.func85 rfl rfl ?_⟩
  repeat' (first | ((apply f_wo); first | ((apply f_mv); first | refine zv (v := .c _) ?_ | refine za ?_) | ((apply f_as); first | refine zl1 (v := .c _) ?_ | refine za ?_) | ((apply f_ca); first | refine zy1 0 (c1) ?_ (hl := zp1 (by rfl) cc) | refine ze7 0 [6] (c2) ?_ (hl := zp1 (by rfl) cc1)) | refine n_bs ?_ | refine za ?_) | ((apply f_w); first | refine zt ?_ | refine zc ?_) | refine zb fun C => ?_ | refine zg ?_ | refine zd ?_ | refine ze ?_ | refine zf ?_)
  refine zh1 ?_
  exact ret1 rfl zl4 rfl cc2 (zx1 h2 hc) ⟨rfl, rfl⟩
theorem lt12 {k : Nat} (h : (k : Int) < 12) : k = 0 ∨ k = 1 ∨ k = 2 ∨ 3 ≤ k := by omega
theorem zl18 {cs : List AC} (hc : Curs cs) : ∃ (a b : Int) (s : ByteArray) (cs' : List AC), Curs cs' ∧ VOk a b s ∧ Ctr Try.prog 39 [.c (.pt 0 0)] [cs] (.ag [.v (.int .i64 a), .v (.int .i64 b), .v (.string s)]) [cs'] := by
  have cc := zw hc
  obtain ⟨a, b, s, cs1, h1, hv, c1⟩ := zs11 hc
  have cc1 := zw h1
  obtain ⟨k, cs2, h2, hk, c2⟩ := zr2 h1 12 (by decide)
  have cc2 := zw h2
  obtain ⟨q, cs3, h3, hq, c3⟩ := zr2 h2 4 (by decide)
  have cc3 := zw h3
  obtain ⟨z, cs4, h4, hz, c4⟩ := zk18 h2
  have cc4 := zw h4
  obtain ⟨m, cs5, h5, hm, c5⟩ := zr2 h2 2 (by decide)
  have cc5 := zw h5
  obtain ⟨w1, w2, w3⟩ := hv
  rcases lt12 hk with rfl | rfl | rfl | hk3
  · refine ⟨(q : Int), b, s, cs3, h3, ⟨by unfold I64; omega, w2, w3⟩, zm1 Try.func39 rfl rfl ?_⟩
    repeat' (first | ((apply f_wo); first | ((apply f_mv); first | refine zv (v := .c _) ?_ | refine za ?_) | ((apply f_as); first | refine zl1 (v := .c _) ?_ | refine za ?_) | ((apply f_fa); first | refine n_fa ?_ | refine zz1 ?_) | ((apply f_ld); first | refine zy ?_ | refine zr1 ?_ | refine n_ld ?_) | ((apply f_ca); first | refine zy1 0 (c1) ?_ (hl := zp1 (by rfl) cc) | refine zy1 0 (c2) ?_ (hl := zp1 (by rfl) cc1) | refine zy1 0 (c3) ?_ (hl := zp1 (by rfl) cc2) | refine zy1 0 (c4) ?_ (hl := zp1 (by rfl) cc2) | refine zy1 0 (c5) ?_ (hl := zp1 (by rfl) cc2)) | ((apply f_st); first | refine n_st ?_ | refine zk1 ?_) | ((apply zk2); first | refine zg1 ?_ | refine za ?_) | ((apply zq2); first | refine zu ?_ | refine zp2 ?_ | refine za ?_) | ((apply f_cv); first | refine zi6 ?_ | refine zl9 ?_ | refine zm9 ?_ | refine za ?_) | refine n_al ?_ | refine za ?_) | ((apply f_w); first | refine zt ?_ | refine zc ?_) | refine zb fun C => ?_ | refine zg ?_ | refine zd ?_ | refine ze ?_ | refine zf ?_ | refine zm rfl ?_ | refine zn rfl ?_)
    refine zh1 ?_
    exact ret1 rfl (ze3 (zh3 rfl (zh3 rfl (zh3 rfl zd2)))) rfl cc3 (zx1 h3 hc) ⟨rfl, rfl⟩
  · refine ⟨a, z, s, cs4, h4, ⟨w1, hz, w3⟩, zm1 Try.func39 rfl rfl ?_⟩
    repeat' (first | ((apply f_wo); first | ((apply f_mv); first | refine zv (v := .c _) ?_ | refine za ?_) | ((apply f_as); first | refine zl1 (v := .c _) ?_ | refine za ?_) | ((apply f_fa); first | refine n_fa ?_ | refine zz1 ?_) | ((apply f_ld); first | refine zy ?_ | refine zr1 ?_ | refine n_ld ?_) | ((apply f_ca); first | refine zy1 0 (c1) ?_ (hl := zp1 (by rfl) cc) | refine zy1 0 (c2) ?_ (hl := zp1 (by rfl) cc1) | refine zy1 0 (c4) ?_ (hl := zp1 (by rfl) cc2)) | ((apply f_st); first | refine n_st ?_ | refine zk1 ?_) | ((apply zk2); first | refine zg1 ?_ | refine za ?_) | ((apply zq2); first | refine zu ?_ | refine zp2 ?_ | refine za ?_) | ((apply f_cv); first | refine zi6 ?_ | refine zl9 ?_ | refine zm9 ?_ | refine za ?_) | refine n_al ?_ | refine za ?_) | ((apply f_w); first | refine zt ?_ | refine zc ?_) | refine zb fun C => ?_ | refine zg ?_ | refine zd ?_ | refine ze ?_ | refine zf ?_ | refine zm rfl ?_ | refine zn rfl ?_)
    refine zh1 ?_
    exact ret1 rfl (ze3 (zh3 rfl (zh3 rfl (zh3 rfl zd2)))) rfl cc4 (zx1 h4 hc) ⟨rfl, rfl⟩
  · have hm2 : (m : Int) = 0 ∨ (m : Int) = 1 := by omega
    refine ⟨a, b, ⟨(List.replicate (200 + m) 0).toArray⟩, cs5, h5, ⟨w1, w2, by show (List.toArray _).size ≤ 201; simp; omega⟩, zm1 Try.func39 rfl rfl ?_⟩
    repeat' (first | ((apply f_wo); first | ((apply f_mv); first | refine zv (v := .c _) ?_ | refine za ?_) | ((apply f_as); first | refine zl1 (v := .c _) ?_ | refine za ?_) | ((apply f_fa); first | refine n_fa ?_ | refine zz1 ?_) | ((apply f_ld); first | refine zy ?_ | refine zr1 ?_ | refine n_ld ?_) | ((apply f_ca); first | refine zy1 0 (c1) ?_ (hl := zp1 (by rfl) cc) | refine zy1 0 (c2) ?_ (hl := zp1 (by rfl) cc1) | refine zy1 0 (c5) ?_ (hl := zp1 (by rfl) cc2)) | ((apply f_st); first | refine n_st ?_ | refine zk1 ?_) | ((apply zk2); first | refine zg1 ?_ | refine za ?_) | ((apply zq2); first | refine zu ?_ | refine zp2 ?_ | refine za ?_) | ((apply f_cv); first | refine zi6 ?_ | refine zl9 ?_ | refine zm9 ?_ | refine za ?_) | refine n_al ?_ | refine za ?_) | ((apply f_w); first | refine zt ?_ | refine zc ?_) | refine zb fun C => ?_ | refine zg ?_ | refine zd ?_ | refine ze ?_ | refine zf ?_ | refine zm rfl ?_ | refine zn rfl ?_)
    refine zc20 (n := 200 + m) ?_
    repeat' (first | ((apply f_wo); first | ((apply f_mv); first | refine zv (v := .c _) ?_ | refine za ?_) | ((apply f_as); first | refine zl1 (v := .c _) ?_ | refine za ?_) | ((apply f_fa); first | refine n_fa ?_ | refine zz1 ?_) | ((apply f_ld); first | refine zy ?_ | refine zr1 ?_ | refine n_ld ?_) | ((apply f_st); first | refine n_st ?_ | refine zk1 ?_) | ((apply zk2); first | refine zg1 ?_ | refine za ?_) | ((apply zq2); first | refine zu ?_ | refine zp2 ?_ | refine za ?_) | ((apply f_cv); first | refine zi6 ?_ | refine zl9 ?_ | refine zm9 ?_ | refine za ?_) | refine n_al ?_ | refine za ?_) | ((apply f_w); first | refine zt ?_ | refine zc ?_) | refine zb fun C => ?_ | refine zg ?_ | refine zd ?_ | refine ze ?_ | refine zf ?_ | refine zm rfl ?_ | refine zn rfl ?_)
    refine zh1 ?_
    exact ret1 rfl (ze3 (zh3 rfl (zh3 rfl (zh3 rfl zd2)))) rfl cc5 (zx1 h5 hc) ⟨rfl, rfl⟩
  · refine ⟨a, b, s, cs2, h2, ⟨w1, w2, w3⟩, zm1 Try.func39 rfl rfl ?_⟩
    repeat' (first | ((apply f_wo); first | ((apply f_mv); first | refine zv (v := .c _) ?_ | refine za ?_) | ((apply f_as); first | refine zl1 (v := .c _) ?_ | refine za ?_) | ((apply f_fa); first | refine n_fa ?_ | refine zz1 ?_) | ((apply f_ld); first | refine zy ?_ | refine zr1 ?_ | refine n_ld ?_) | ((apply f_ca); first | refine zy1 0 (c1) ?_ (hl := zp1 (by rfl) cc) | refine zy1 0 (c2) ?_ (hl := zp1 (by rfl) cc1)) | ((apply f_st); first | refine n_st ?_ | refine zk1 ?_) | ((apply zk2); first | refine zg1 ?_ | refine za ?_) | ((apply zq2); first | refine zu ?_ | refine zp2 ?_ | refine za ?_) | ((apply f_cv); first | refine zi6 ?_ | refine zl9 ?_ | refine zm9 ?_ | refine za ?_) | refine n_al ?_ | refine za ?_) | ((apply f_w); first | refine zt ?_ | refine zc ?_) | refine zb fun C => ?_ | refine zg ?_ | refine zd ?_ | refine ze ?_ | refine zf ?_)
    refine zq1 (by rfl) (fun hC => absurd (eq_of_beq hC) (by omega)) fun hC => ?_
    repeat' (first | ((apply f_wo); first | ((apply f_mv); first | refine zv (v := .c _) ?_ | refine za ?_) | ((apply f_as); first | refine zl1 (v := .c _) ?_ | refine za ?_) | ((apply f_fa); first | refine n_fa ?_ | refine zz1 ?_) | ((apply f_ld); first | refine zy ?_ | refine zr1 ?_ | refine n_ld ?_) | ((apply f_st); first | refine n_st ?_ | refine zk1 ?_) | ((apply zk2); first | refine zg1 ?_ | refine za ?_) | ((apply zq2); first | refine zu ?_ | refine zp2 ?_ | refine za ?_) | ((apply f_cv); first | refine zi6 ?_ | refine zl9 ?_ | refine zm9 ?_ | refine za ?_) | refine n_al ?_ | refine za ?_) | ((apply f_w); first | refine zt ?_ | refine zc ?_) | refine zb fun C => ?_ | refine zg ?_ | refine zd ?_ | refine ze ?_ | refine zf ?_)
    refine zq1 (by rfl) (fun hC => absurd (eq_of_beq hC) (by omega)) fun hC => ?_
    repeat' (first | ((apply f_wo); first | ((apply f_mv); first | refine zv (v := .c _) ?_ | refine za ?_) | ((apply f_as); first | refine zl1 (v := .c _) ?_ | refine za ?_) | ((apply f_fa); first | refine n_fa ?_ | refine zz1 ?_) | ((apply f_ld); first | refine zy ?_ | refine zr1 ?_ | refine n_ld ?_) | ((apply f_st); first | refine n_st ?_ | refine zk1 ?_) | ((apply zk2); first | refine zg1 ?_ | refine za ?_) | ((apply zq2); first | refine zu ?_ | refine zp2 ?_ | refine za ?_) | ((apply f_cv); first | refine zi6 ?_ | refine zl9 ?_ | refine zm9 ?_ | refine za ?_) | refine n_al ?_ | refine za ?_) | ((apply f_w); first | refine zt ?_ | refine zc ?_) | refine zb fun C => ?_ | refine zg ?_ | refine zd ?_ | refine ze ?_ | refine zf ?_)
    refine zq1 (by rfl) (fun hC => absurd (eq_of_beq hC) (by omega)) fun hC => ?_
    repeat' (first | ((apply f_wo); first | ((apply f_mv); first | refine zv (v := .c _) ?_ | refine za ?_) | ((apply f_as); first | refine zl1 (v := .c _) ?_ | refine za ?_) | ((apply f_fa); first | refine n_fa ?_ | refine zz1 ?_) | ((apply f_ld); first | refine zy ?_ | refine zr1 ?_ | refine n_ld ?_) | ((apply f_st); first | refine n_st ?_ | refine zk1 ?_) | ((apply zk2); first | refine zg1 ?_ | refine za ?_) | ((apply zq2); first | refine zu ?_ | refine zp2 ?_ | refine za ?_) | ((apply f_cv); first | refine zi6 ?_ | refine zl9 ?_ | refine zm9 ?_ | refine za ?_) | refine n_al ?_ | refine za ?_) | ((apply f_w); first | refine zt ?_ | refine zc ?_) | refine zb fun C => ?_ | refine zg ?_ | refine zd ?_ | refine ze ?_ | refine zf ?_)
    refine zh1 ?_
    exact ret1 rfl (ze3 (zh3 rfl (zh3 rfl (zh3 rfl zd2)))) rfl cc2 (zx1 h2 hc) ⟨rfl, rfl⟩
end Go.Proofs.Ytghljnfbbaklnaa
namespace Go.Proofs.Ytghljnfbbaklnaa
open Go.RowKit
end Go.Proofs.Ytghljnfbbaklnaa
namespace Go.Proofs.Ytghljnfbbaklnaa
open Go.RowKit
theorem zn5 {e : E} (h : e.Ty Try.prog 29) : ∃ (x0 : Int) (x1 : Int) (x2 : ByteArray), e = (E.agg [.int .i64 x0, .int .i64 x1, .str x2]) ∧ ((Lit.int .i64 x0).wf = true) ∧ ((Lit.int .i64 x1).wf = true) ∧ (x2.size ≤ 9223372036854775807) ∧ True := by
  obtain ⟨fs, rfl, q0⟩ := h.agg_ Try.underlying29
  change E.TyF _ _ [3, 3, 9] at q0
  obtain ⟨e0, r0, rfl, h0, q1⟩ := q0.cons_
  obtain ⟨e1, r1, rfl, h1, q2⟩ := q1.cons_
  obtain ⟨e2, r2, rfl, h2, q3⟩ := q2.cons_
  obtain rfl := q3.nil_
  obtain ⟨x0, rfl, gx0⟩ := h0.int_ Try.underlying3
  obtain ⟨x1, rfl, gx1⟩ := h1.int_ Try.underlying3
  obtain ⟨x2, rfl, gx2⟩ := h2.str_ Try.underlying9
  exact ⟨x0, x1, x2, rfl, gx0, gx1, gx2, trivial⟩
theorem zw2 {e : E} (h : e.Ty Try.prog 46) : ∃ (x0 : Int) (x1 : Int) (x2 : Int) (x3 : ByteArray), e = (E.agg [.int .i64 x0, (.agg [.int .i64 x1, .int .i64 x2, .str x3])]) ∧ ((Lit.int .i64 x0).wf = true) ∧ ((Lit.int .i64 x1).wf = true) ∧ ((Lit.int .i64 x2).wf = true) ∧ (x3.size ≤ 9223372036854775807) ∧ True := by
  obtain ⟨fs, rfl, q0⟩ := h.agg_ Try.underlying46
  change E.TyF _ _ [3, 29] at q0
  obtain ⟨e0, r0, rfl, h0, q1⟩ := q0.cons_
  obtain ⟨e1, r1, rfl, h1, q2⟩ := q1.cons_
  obtain rfl := q2.nil_
  obtain ⟨x0, rfl, gx0⟩ := h0.int_ Try.underlying3
  obtain ⟨x1, x2, x3, rfl, gx1, gx2, gx3, -⟩ := zn5 h1
  exact ⟨x0, x1, x2, x3, rfl, gx0, gx1, gx2, gx3, trivial⟩
theorem zi1 {e : E} (h : e.Ty Try.prog 39) : ∃ (x0A : Option Addr) (x0c : Nat) (x0l : List E), e = (E.agg [.lst 4 46 x0A x0c x0l]) ∧ ((∀ y ∈ x0l, y.Ty Try.prog 46) ∧ (∀ y ∈ x0l, y.enc.length = 4)) ∧ True := by
  obtain ⟨fs, rfl, q0⟩ := h.agg_ Try.underlying39
  change E.TyF _ _ [37] at q0
  obtain ⟨e0, r0, rfl, h0, q1⟩ := q0.cons_
  obtain rfl := q1.nil_
  obtain ⟨x0A, x0c, x0l, rfl, gx0, gx0'⟩ := h0.lst_ Try.underlying37 (k := 4) (by kernel_rfl)
  exact ⟨x0A, x0c, x0l, rfl, ⟨gx0, gx0'⟩, trivial⟩
end Go.Proofs.Ytghljnfbbaklnaa
namespace Go.Proofs.Ytghljnfbbaklnaa
open Go.RowKit
end Go.Proofs.Ytghljnfbbaklnaa
namespace Go.Proofs.Ytghljnfbbaklnaa
open Go.RowKit
end Go.Proofs.Ytghljnfbbaklnaa
namespace Go.Proofs.Ytghljnfbbaklnaa
open Go.RowKit
end Go.Proofs.Ytghljnfbbaklnaa
namespace Go.Proofs.Ytghljnfbbaklnaa
open Go.RowKit
end Go.Proofs.Ytghljnfbbaklnaa
namespace Go.Proofs.Ytghljnfbbaklnaa
open Go.RowKit
set_option maxRecDepth 100000
def varsE (e : E) : List E := match e with | .agg (.lst _ _ _ _ l :: _) => l | _ => []
def rfE (e : E) : Int := match e with | .agg (.int _ n :: _) => n | _ => 0
def isFree (e : E) : Bool := rfE e == 0
theorem zs9 {e : E} (h : e.Ty Try.prog 46) : flatE e = true := by
  obtain ⟨y0, y1, y2, y3, rfl, _⟩ := zw2 h; rfl
theorem zt9 {e : E} (he : e.Ty Try.prog 39) (hsz : e.sz ≤ 1048576) : Ctr Try.prog 49 [.ag (acE e)] [] (.ag (owE e)) [] := by
  obtain ⟨x0A, x0c, l, rfl, ⟨hl, hk⟩, -⟩ := zi1 he
  have hlen : l.length ≤ 1048576 := by simp only [E.sz, E.szL] at hsz; omega
  have fl : acL l = owL l := zp6 l (zk8 fun e h => zs9 (hl e h))
  refine zm1 Try.func49 rfl rfl ?_
  repeat (first | refine zg ?_ | refine zd ?_ | refine ze ?_ | refine zf ?_ | refine zh1 ?_ | refine zb fun C => ?_ | refine zl (by kernel_rfl) (by kernel_rfl) fun C => ?_ | refine zc ?_ | refine zf4 ?_ | refine x_bs ?_ | refine x_gr ?_ | refine x_st ?_ | refine x_mv ?_ | refine x_sk ?_ | refine zm7 ?_ | refine x_ix ?_ | refine zn7 ?_ | refine zo7 ?_ | refine zp7 ?_ | refine zm5 ?_ | refine x_ld ?_)
  refine ret0 (x := .ag [.ow 46 l.length 4 (acL l)]) rfl (ze3 (zt4 (rw := ⟨46, 4, l.length, false, acL l⟩) rfl rfl rfl (by rw [fl]; exact zj _) zd2)) ⟨by rw [fl]; rfl, rfl⟩
theorem zb8 {e : E} (he : e.Ty Try.prog 39) (hsz : e.sz ≤ 1048576) : Ctr Try.prog 46 [.ag (acE e)] [] (.ag (owE e)) [] := by
  obtain ⟨x0A, x0c, l, rfl, ⟨hl, hk⟩, -⟩ := zi1 he
  have hlen : l.length ≤ 1048576 := by simp only [E.sz, E.szL] at hsz; omega
  have fl : acL l = owL l := zp6 l (zk8 fun e h => zs9 (hl e h))
  refine zm1 Try.func46 rfl rfl ?_
  repeat (first | refine zg ?_ | refine zd ?_ | refine ze ?_ | refine zf ?_ | refine zh1 ?_ | refine zb fun C => ?_ | refine zl (by kernel_rfl) (by kernel_rfl) fun C => ?_ | refine zc ?_ | refine zf4 ?_ | refine x_bs ?_ | refine x_gr ?_ | refine x_st ?_ | refine x_mv ?_ | refine x_sk ?_ | refine zm7 ?_ | refine x_ix ?_ | refine zn7 ?_ | refine zo7 ?_ | refine zp7 ?_ | refine zm5 ?_ | refine x_ld ?_)
  refine ret0 (x := .ag [.ow 46 l.length 4 (acL l)]) rfl (ze3 (zt4 (rw := ⟨46, 4, l.length, false, acL l⟩) rfl rfl rfl (by rw [fl]; exact zj _) zd2)) ⟨by rw [fl]; rfl, rfl⟩
def allL (l : List E) (v : E) : List E := match l.findIdx? isFree with | some i => l.set i (.agg [.int .i64 1, v]) | none => l ++ [.agg [.int .i64 1, v]]
def allI (l : List E) : Nat := match l.findIdx? isFree with | some i => i | none => l.length
def allE (e v : E) : E := .agg [.lst 4 46 none 0 (allL (varsE e) v)]
theorem zu14 {l : List E} {v : E} {i : Nat} (h : idxF isFree l = (i : Int)) : allL l v = l.set i (.agg [.int .i64 1, v]) ∧ allI l = i := by simp [allL, allI, zx15 h]
theorem zv14 {l : List E} {v : E} (h : idxF isFree l = -1) : allL l v = l ++ [.agg [.int .i64 1, v]] ∧ allI l = l.length := by simp [allL, allI, zw15 h]
set_option maxHeartbeats 600000 in
theorem zl12 {e v : E} (he : e.Ty Try.prog 39) (hv : v.Ty Try.prog 29) (hsz : e.sz ≤ 1048576) : Ctr Try.prog 118 [.c (.pt 0 0), .ag (acE v)] [owE e] (.c (.v (.int .i64 (allI (varsE e))))) [owE (allE e v)] := by
  obtain ⟨x0A, x0c, l, rfl, ⟨hl, hk⟩, -⟩ := zi1 he
  have hlen : l.length ≤ 1048576 := by simp only [E.sz, E.szL] at hsz; omega
  obtain ⟨v0, v1, v2, rfl, -⟩ := zn5 hv
  refine zm1 Try.func118 rfl rfl ?_
  refine za3 (zr5 100 (i := 0) rfl rfl (pre := []) (post := []) rfl) ?_
  repeat (first | refine zg ?_ | refine zd ?_ | refine ze ?_ | refine zf ?_ | refine zb fun C => ?_ | refine zl (by kernel_rfl) (by kernel_rfl) fun C => ?_ | refine zc ?_ | refine zf4 ?_ | refine x_bs ?_ | refine x_gr ?_ | refine x_st ?_ | refine x_mv ?_ | refine x_sk ?_ | refine zm7 ?_ | refine x_ix ?_ | refine zn7 ?_ | refine zo7 ?_ | refine zp7 ?_ | refine zm5 ?_ | refine x_ld ?_)
  refine zc7 (fun k : Nat => ⟨tmsF [(0, .c (.pt 0 0)), (3, .c (.pt 3 0)), (5, .c (.v (.int .i64 k)))], hpsF [(0, 0, ⟨0, 0, 0, true, [.sl 100 l.length]⟩), (100, 100, ⟨46, 4, l.length, false, owL l⟩), (3, 3, ⟨29, 0, 0, true, [.v (.int .i64 v0), .v (.int .i64 v1), .v (.string v2)]⟩)], 1, [0, 100, 3], 50⟩)
    (fun N k => k + N = l.length ∧ ∀ j y, j < k → l[j]? = some y → isFree y = false) l.length 0 ⟨by omega, by omega⟩ ?_ ?_
  · (refine zu4 _ _ rfl rfl ?_ ?_ <;> (repeat' (first | exact TmOk.nil | exact RwOk.nil | refine TmOk.cons ?_ ?_ | refine RwOk.cons ?_ ?_ | rfl | (refine rnV_id' rfl ?_; (first | rfl | (simp [cloV, cloL, clo, zo, zk, zp, zj, zi]; done))) | (refine zg6 ?_; first | rfl | omega | (rw [zb4 (by omega) (by omega)]; omega)) | (refine zx3 rfl ?_; (first | rfl | (simp [cloV, cloL, clo, zo, zk, zp, zj, zi]; done))) | exact zi9 rfl rfl | (refine zh6 (by rfl) (by rfl) ?_ ?_ <;> (first | rfl | (simp [cloV, cloL, clo, zo, zk, zp, zj, zi]; done))) | (refine rw_rn' rfl rfl ?_; simp; done))))
  rintro N k ⟨hN, hno⟩
  repeat (first | refine zg ?_ | refine zd ?_ | refine ze ?_ | refine zf ?_ | refine zb fun C => ?_ | refine zl (by kernel_rfl) (by kernel_rfl) fun C => ?_ | refine zc ?_ | refine zf4 ?_ | refine x_bs ?_ | refine x_gr ?_ | refine x_st ?_ | refine x_mv ?_ | refine x_sk ?_ | refine zm7 ?_ | refine x_ix ?_ | refine zn7 ?_ | refine zo7 ?_ | refine zp7 ?_ | refine zm5 ?_ | refine x_ld ?_)
  refine ze5 (by rfl) (fun h1 => ?_) fun h1 => ?_
  · have hk' : k < l.length := by simpa using h1
    obtain ⟨x, hx⟩ : ∃ x, l[k]? = some x := ⟨_, List.getElem?_eq_getElem hk'⟩
    obtain ⟨y0, y1, y2, y3, rfl, hy⟩ := zw2 (hl x (List.mem_of_getElem? hx))
    have hs1 : subL (owL l) (k * 4 + 0) 1 = [.v (.int .i64 y0)] := zf6 hk hx (by omega)
    have hle : k * 4 + 4 ≤ (owL l).length := zw4 (j := 0) hk hk' (by omega)
    repeat (first | refine zg ?_ | refine zd ?_ | refine ze ?_ | refine zf ?_ | refine zb fun C => ?_ | refine zl (by kernel_rfl) (by kernel_rfl) fun C => ?_ | refine zc ?_ | refine zf4 ?_ | refine x_bs ?_ | refine x_gr ?_ | refine x_st ?_ | refine x_mv ?_ | refine x_sk ?_ | refine zm7 ?_ | refine x_ix ?_ | refine zn7 ?_ | refine zo7 ?_ | refine zp7 ?_ | refine zm5 ?_ | refine x_ld ?_)
    refine ze5 (by rfl) (fun h2 => ?_) fun h2 => ?_
    · have hf := zb18 hno hx h2
      obtain ⟨a1, a2⟩ := zu14 (v := .agg [.int .i64 v0, .int .i64 v1, .str v2]) hf
      have e1 : spl (owL l) (k * 4 + 0) [.v (.int .i64 1), .v (.int .i64 v0), .v (.int .i64 v1), .v (.string v2)] = owL (l.set k (.agg [.int .i64 1, .agg [.int .i64 v0, .int .i64 v1, .str v2]])) := zv4 hk hx (by simp) rfl
      repeat (first | refine zg ?_ | refine zd ?_ | refine ze ?_ | refine zf ?_ | refine zb fun C => ?_ | refine zl (by kernel_rfl) (by kernel_rfl) fun C => ?_ | refine zc ?_ | refine zf4 ?_ | refine x_bs ?_ | refine x_gr ?_ | refine x_st ?_ | refine x_mv ?_ | refine x_sk ?_ | refine zm7 ?_ | refine x_ix ?_ | refine zn7 ?_ | refine zo7 ?_ | refine zp7 ?_ | refine zm5 ?_ | refine x_ld ?_)
      refine za3 (zi5 (i := 0) (j := 100) rfl rfl rfl (pre := []) (post := []) rfl) ?_
      refine zh1 ?_
      refine retL (x := .c (.v (.int .i64 k))) (cs := [.ow 46 l.length 4 (spl (owL l) (k * 4) [.v (.int .i64 1), .v (.int .i64 v0), .v (.int .i64 v1), .v (.string v2)])]) rfl zl4 rfl ?_ rfl ⟨by rw [show varsE _ = l from rfl, a2], ?_⟩
      · rw [show spl (owL l) (k * 4) _ = _ from e1]; first | rfl | (simp [cloV, cloL, clo, zo, zk, zp, zj, zi]; done)
      · rw [show spl (owL l) (k * 4) _ = _ from e1, allE, show varsE _ = l from rfl, a1]; simp [owE, owL]
    · repeat (first | refine zg ?_ | refine zd ?_ | refine ze ?_ | refine zf ?_ | refine zb fun C => ?_ | refine zl (by kernel_rfl) (by kernel_rfl) fun C => ?_ | refine zc ?_ | refine zf4 ?_ | refine x_bs ?_ | refine x_gr ?_ | refine x_st ?_ | refine x_mv ?_ | refine x_sk ?_ | refine zm7 ?_ | refine x_ix ?_ | refine zn7 ?_ | refine zo7 ?_ | refine zp7 ?_ | refine zm5 ?_ | refine x_ld ?_)
      refine ⟨N - 1, k + 1, by omega, ⟨by omega, fun j z hj hz => ?_⟩, ?_⟩
      · by_cases e : j = k
        · rw [e, hx] at hz; injection hz with hz; subst hz; exact h2
        · exact hno j z (by omega) hz
      · (refine zu4 _ _ rfl rfl ?_ ?_ <;> (repeat' (first | exact TmOk.nil | exact RwOk.nil | refine TmOk.cons ?_ ?_ | refine RwOk.cons ?_ ?_ | rfl | (refine rnV_id' rfl ?_; (first | rfl | (simp [cloV, cloL, clo, zo, zk, zp, zj, zi]; done))) | (refine zg6 ?_; first | rfl | omega | (rw [zb4 (by omega) (by omega)]; omega)) | (refine zx3 rfl ?_; (first | rfl | (simp [cloV, cloL, clo, zo, zk, zp, zj, zi]; done))) | exact zi9 rfl rfl | (refine zh6 (by rfl) (by rfl) ?_ ?_ <;> (first | rfl | (simp [cloV, cloL, clo, zo, zk, zp, zj, zi]; done))) | (refine rw_rn' rfl rfl ?_; simp; done))))
  · have hk' : ¬ k < l.length := by simpa using h1
    have hf := zd14 (p := isFree) (l := l) fun j y hj hy => hno j y (by omega) hy
    obtain ⟨a1, a2⟩ := zv14 (v := .agg [.int .i64 v0, .int .i64 v1, .str v2]) hf
    have hw : IntKind.i64.wrap (((l.length + 1 : Nat) : Int) - 1) = (l.length : Int) := by rw [IntKind.wrap_i64]; omega
    repeat (first | refine zg ?_ | refine zd ?_ | refine ze ?_ | refine zf ?_ | refine zb fun C => ?_ | refine zl (by kernel_rfl) (by kernel_rfl) fun C => ?_ | refine zc ?_ | refine zf4 ?_ | refine x_bs ?_ | refine x_gr ?_ | refine x_st ?_ | refine x_mv ?_ | refine x_sk ?_ | refine zm7 ?_ | refine x_ix ?_ | refine zn7 ?_ | refine zo7 ?_ | refine zp7 ?_ | refine zm5 ?_ | refine x_ld ?_)
    refine za3 (zi5 (i := 0) (j := 41) rfl rfl rfl (pre := []) (post := []) rfl) ?_
    refine zh1 ?_
    refine retL (x := .c (.v (.int .i64 (IntKind.i64.wrap (((l.length + 1 : Nat) : Int) - 1))))) (cs := [.ow 46 (l.length + 1) 4 (owL l ++ [.v (.int .i64 1), .v (.int .i64 v0), .v (.int .i64 v1), .v (.string v2)])]) rfl zl4 rfl ?_ rfl ⟨by rw [show varsE _ = l from rfl, a2, hw], ?_⟩
    · first | rfl | (simp [cloV, cloL, clo, zo, zk, zp, zj, zi]; done)
    · rw [allE, show varsE _ = l from rfl, a1]; simp [owE, owL, zz13]
end Go.Proofs.Ytghljnfbbaklnaa
