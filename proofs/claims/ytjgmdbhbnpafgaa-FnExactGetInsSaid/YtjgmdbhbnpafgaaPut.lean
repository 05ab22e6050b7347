/- PutU and PutIns of both sides; toByteS, eqByteS. -/
import Derived.Test.YtjgmdbhbnpafgaaMark
import Derived.Test.YtjgmdbhbnpafgaaRecOk
namespace Go.Proofs.Ytjgmdbhbnpafgaa
open Go.RowKit

theorem encB_len (d : UInt8) : (encB d).length = 1 := rfl
theorem encB_one (d : UInt8) (u : Value) (h : u ∈ encB d) : u.oneCell' = true := by
  simp [encB] at h; subst h; rfl
theorem elB : El Try.prog 39 5 1 1 := El.mk (z := .int .u8 0) Try.underlying39 (by kernel_rfl) rfl (by omega) (by omega)
theorem infoB : (Try.prog.info? 5).map (fun i => (i.zero, i.size, i.bytes)) = some (some (.int .u8 0), 1, 1) := by kernel_rfl

theorem wraps_i64 (n : Int) (h₀ : 0 ≤ n) (h₁ : n < 2 ^ 63) : IntKind.i64.wrap n = n := by rw [IntKind.wrap_i64]; omega
theorem and127 (x : Int) (h₀ : 0 ≤ x) (h₁ : x < 2 ^ 63) : bits .and .i64 x 127 = x % 128 := bits_mask .i64 63 (by decide) wraps_i64 7 (by decide) x h₀ h₁
theorem or128 (x : Int) (h₀ : 0 ≤ x) (h₁ : x < 128) : bits .or .i64 x 128 = x + 128 := by
  obtain ⟨a, rfl⟩ := Int.eq_ofNat_of_zero_le h₀
  have := (bits_nat .i64 63 (by decide) wraps_i64 a 128 (by omega) (by omega)).2
  rw [show (((128 : Nat) : Int)) = 128 from rfl] at this
  rw [this]
  have ha : a < 128 := by omega
  have e : ∀ a < 128, a ||| 128 = a + 128 := by decide
  rw [e a ha]; simp
/-- The bytes of a number that is not below 0, seven bits a byte, fuel first. -/
def put7 : Nat → Nat → List UInt8
  | 0, n => [UInt8.ofNat n]
  | f + 1, n => if 127 < n then UInt8.ofNat (n % 128 + 128) :: put7 f (n / 128) else [UInt8.ofNat n]
def clampU (n : Int) : Nat := if n < 0 then 0 else if 2147483647 < n then 2147483647 else n.toNat
def putU (n : Int) : List UInt8 := put7 5 (clampU n)
theorem put7_fuel : ∀ (f g n : Nat), n < 128 ^ (f + 1) → n < 128 ^ (g + 1) → put7 f n = put7 g n
  | 0, 0, n, _, _ => rfl
  | 0, g + 1, n, h, _ => by rw [put7, put7, if_neg (by omega)]
  | f + 1, 0, n, _, h => by rw [put7, put7, if_neg (by omega)]
  | f + 1, g + 1, n, h, h' => by
    rw [put7, put7]
    split
    · rw [put7_fuel f g (n / 128) (by rw [Nat.pow_succ] at h; omega) (by rw [Nat.pow_succ] at h'; omega)]
    · rfl
theorem clampU_lt (n : Int) : clampU n ≤ 2147483647 := by unfold clampU; split <;> (try split) <;> omega
def clampI (n lo hi : Int) : Int := if n < lo then lo else if hi < n then hi else n
theorem clamp_any (n lo hi : Int) (w : World) (h : lo ≤ hi) : Calls Try.prog 89 #[.int .i64 n, .int .i64 lo, .int .i64 hi] w fun e w' =>
    e = .returned (.int .i64 (clampI n lo hi)) ∧ w = w' := by
  by_cases h1 : n < lo
  · have e : clampI n lo hi = lo := if_pos h1
    rw [e]
    clear e
    go_enter Try.func89, Try.ntmps89
    go_wp2
    go_ret
    exact ⟨rfl, rfl⟩
  · by_cases h2 : hi < n
    · have e : clampI n lo hi = hi := by unfold clampI; rw [if_neg h1, if_pos h2]
      rw [e]
      clear e
      go_enter Try.func89, Try.ntmps89
      go_wp2
      go_ret
      exact ⟨by simp <;> omega, rfl⟩
    · have e : clampI n lo hi = n := by unfold clampI; rw [if_neg h1, if_neg h2]
      rw [e]
      clear e
      go_enter Try.func89, Try.ntmps89
      go_wp2
      go_ret
      exact ⟨by simp <;> omega, rfl⟩
theorem u8_cs (m : Nat) (h : m < 256) (X : Int) (hX : X = m) : (#[Value.int .u8 X] : Array Value).toList = encB (UInt8.ofNat m) := by
  subst hX
  simp [encB]; omega
theorem put_step {f m : Nat} {pre l : List UInt8} (hlt : 127 < m) (hmf : m < 128 ^ (f + 1)) (h : pre ++ put7 f m = l) : ∃ f', f = f' + 1 ∧ m / 128 < 128 ^ (f' + 1) ∧ (pre ++ [UInt8.ofNat (m % 128 + 128)]) ++ put7 f' (m / 128) = l := by
  match f, hmf, h with
  | 0, hmf, h => omega
  | f + 1, hmf, h =>
    refine ⟨f, rfl, ?_, ?_⟩
    · rw [Nat.pow_succ] at hmf; omega
    · rw [put7, if_pos hlt] at h; rw [List.append_assoc]; exact h
theorem put_end {f m : Nat} {pre l : List UInt8} (hlt : ¬ 127 < m) (h : pre ++ put7 f m = l) : pre ++ [UInt8.ofNat m] = l := by
  match f, h with
  | 0, h => exact h
  | f + 1, h => rw [put7, if_neg hlt] at h; exact h
set_option maxRecDepth 100000 in
set_option maxHeartbeats 1000000 in
theorem specPutU_any (A : Option Addr) (ln c : Nat) (ds : List UInt8) (n : Int) (w : World) (hs : Rd w 1 encB (.slice A ln c) ds) (hn : ds.length ≤ 1073741824) :
    Calls Try.prog 64 #[.slice A ln c, .int .i64 n] w fun e w' => ∃ v, e = .returned v ∧ Own w' w.heap.size w'.heap.size 5 1 encB v (ds ++ putU n) ∧ Below w.heap.size w w' := by
  obtain rfl := hs.len_eq
  have ho0 : Own (w.alloc (.cells #[] 5)) w.heap.size (w.heap.size + 1) 5 1 encB (.slice (some ⟨w.heap.size, 0, none⟩) 0 0) [] := own_lit (Nat.le_refl _) encB_len rfl (by unfold maxLen; omega) rfl
  have hs0 : Rd (w.alloc (.cells #[] 5)) 1 encB (.slice A ds.length c) ds := hs.alloc _
  have hz0 : (([] : List UInt8).length + ds.length) * 1 ≤ 140737488355328 := by simp; omega
  have hb0 : w.heap.size ≤ (w.alloc (.cells #[] 5)).heap.size := by simp
  have HC := Lib.hid (show clampU n = clampU n from rfl)
  obtain ⟨N, hN⟩ : ∃ N, clampU n = N := ⟨_, rfl⟩
  have hNb : N ≤ 2147483647 := hN ▸ clampU_lt n
  have hP : putU n = put7 5 N := by unfold putU; rw [hN]
  rw [hP]
  obtain ⟨L, hL⟩ : ∃ L, put7 5 N = L := ⟨_, rfl⟩
  rw [hL]
  have HL := Lib.hid hL
  unfold clampU at hN
  have HN := Lib.hid hN
  clear hN hP hL
  go_enter Try.func64, Try.ntmps64
  go_wp2_with (at_builtin; refine wp_app elB encB_len encB_one rfl (.tmp 6) (.tmp 7) rfl _ [] rfl ho0 A c ds rfl hs0 hz0 hb0 ?_; intro v' w1 ho1 hb1)
  all_goals
    go_loopw [1, 5] (fun q v wr => ∃ (m f : Nat) (pre : List UInt8), q = .int .i64 m ∧ m ≤ 2147483647 ∧ m < 128 ^ (f + 1) ∧ pre.length + f ≤ 5 ∧ pre ++ put7 f m = L ∧ Own wr w.heap.size wr.heap.size 5 1 encB v (ds ++ pre) ∧ Below w.heap.size w wr) (fun q _ _ => (intOf q).toNat)
    case atStart =>
      have h := HN.out
      exact ⟨N, 5, [], by (first | rw [if_pos (by omega)] at h | (rw [if_neg (by omega)] at h; first | rw [if_pos (by omega)] at h | rw [if_neg (by omega)] at h)); congr 1; omega, hNb, by omega, by simp, HL.out, by simpa using ho1, (by repeat (first | (with_reducible refine Below.setCell ?_ (by first | omega | (· simp) | (· (simp; omega))) _) | (with_reducible refine Below.alloc ?_ (by first | omega | (· simp) | (· (simp; omega))) _) | (with_reducible refine Below.drew ?_) | (with_reducible refine bdrewN ?_ _) | (with_reducible exact Below.refl _ _) | (with_reducible assumption) | (with_reducible refine Below.trans ?_ (Below.mono (by assumption) (by first | omega | (· simp) | (· (simp; omega))))) | (with_reducible refine Below.trans ?_ (Kp.below (by assumption) (by first | omega | (· simp) | (· (simp; omega))) (by first | omega | (· simp) | (· (simp; omega)))))))⟩
    case round =>
      obtain ⟨m, f, pre, rfl, hm, hmf, hpf, hput, ho, hb⟩ := hrel
      obtain ⟨A', c', rfl⟩ := ho.form
      have HP := Lib.hid hput
      have HM := Lib.hid hmf
      clear hput hmf
      have hzb := hb.size
      have hl1 : ((ds ++ pre).length + 1) * 1 ≤ 140737488355328 := by simp; omega
      by_cases hlt : 127 < m
      · have e1 : bits .and .i64 (m : Int) 127 = (m : Int) % 128 := and127 _ (by omega) (by omega)
        have e2 : bits .or .i64 ((m : Int) % 128) 128 = (m : Int) % 128 + 128 := or128 _ (by omega) (by omega)
        have e3 : ((m : Int) % 128 + 128) % 256 = (m : Int) % 128 + 128 := by omega
        have e4 := u8_cs (m % 128 + 128) (by omega) ((m : Int) % 128 + 128) (by omega)
        go_wp2_with (at_builtin; refine wp_app1 elB encB_len encB_one rfl (.tmp 15) (.tmp 20) rfl _ (ds ++ pre) (UInt8.ofNat (m % 128 + 128)) rfl ho (Nat.le_refl _) rfl e4 hl1 hzb ?_; intro v2 w2 ho2 hb2)
        go_roundw
        case rel =>
          obtain ⟨f', rfl, h1, h2⟩ := put_step hlt HM.out HP.out
          exact ⟨m / 128, f', _, by go_num, by omega, h1, by simp; omega, h2, by rw [← List.append_assoc]; exact ho2, hb.trans hb2⟩
        case measure => simp [intOf]; omega
      · have e3 : (m : Int) % 256 = m := by omega
        have e4 := u8_cs m (by omega) m rfl
        go_wp2_with (at_builtin; refine wp_app1 elB encB_len encB_one rfl (.tmp 24) (.tmp 27) rfl _ (ds ++ pre) (UInt8.ofNat m) rfl ho (Nat.le_refl _) rfl e4 hl1 hzb ?_; intro v2 w2 ho2 hb2)
        go_ret
        exact ⟨v2, rfl, by rw [← put_end hlt HP.out, ← List.append_assoc]; exact ho2, hb.trans hb2⟩
set_option maxRecDepth 100000 in
set_option maxHeartbeats 1000000 in
theorem implPutU_any (A : Option Addr) (ln c : Nat) (ds : List UInt8) (n : Int) (w : World) (hs : Rd w 1 encB (.slice A ln c) ds) (hn : ds.length ≤ 1073741824) :
    Calls Try.prog 65 #[.slice A ln c, .int .i64 n] w fun e w' => ∃ v, e = .returned v ∧ Own w' w.heap.size w'.heap.size 5 1 encB v (ds ++ putU n) ∧ Below w.heap.size w w' := by
  obtain rfl := hs.len_eq
  have ho0 : Own w w.heap.size w.heap.size 5 1 encB (.slice none 0 0) ([] : List UInt8) := own_nil _ _ _ _ _ _
  have hz0 : (([] : List UInt8).length + ds.length) * 1 ≤ 140737488355328 := by simp; omega
  obtain ⟨N, hN⟩ : ∃ N, clampU n = N := ⟨_, rfl⟩
  have hNb : N ≤ 2147483647 := hN ▸ clampU_lt n
  have hcl : clampI n 0 2147483647 = (N : Int) := by
    rw [← hN]; unfold clampI clampU; split <;> (try split) <;> omega
  have hclb : clampI n 0 2147483647 = (N : Int) := hcl
  have HCL := Lib.hid hcl
  have hP : putU n = put7 5 N := by unfold putU; rw [hN]
  rw [hP]
  obtain ⟨L, hL⟩ : ∃ L, put7 5 N = L := ⟨_, rfl⟩
  rw [hL]
  have HL := Lib.hid hL
  clear hN hP hL hcl hclb
  go_enter Try.func65, Try.ntmps65
  go_wp2_with (first | (at_builtin; refine wp_app elB encB_len encB_one rfl (.const (.slice none 0 0)) (.tmp 6) rfl _ [] rfl ho0 A c ds rfl hs hz0 (Nat.le_refl _) ?_; intro v' w1 ho1 hb1) | (go_at_call 89; refine (clamp_any _ _ _ _ (by omega)).mono ?_; rintro e w2 ⟨rfl, rfl⟩; rw [HCL.out]))
  all_goals
    go_loopw [1, 5] (fun q v wr => ∃ (m f : Nat) (pre : List UInt8), q = .int .i64 m ∧ m ≤ 2147483647 ∧ m < 128 ^ (f + 1) ∧ pre.length + f ≤ 5 ∧ pre ++ put7 f m = L ∧ Own wr w.heap.size wr.heap.size 5 1 encB v (ds ++ pre) ∧ Below w.heap.size w wr) (fun q _ _ => (intOf q).toNat)
    case atStart =>
      exact ⟨N, 5, [], rfl, hNb, by omega, by simp, HL.out, by simpa using ho1, (by repeat (first | (with_reducible refine Below.setCell ?_ (by first | omega | (· simp) | (· (simp; omega))) _) | (with_reducible refine Below.alloc ?_ (by first | omega | (· simp) | (· (simp; omega))) _) | (with_reducible refine Below.drew ?_) | (with_reducible refine bdrewN ?_ _) | (with_reducible exact Below.refl _ _) | (with_reducible assumption) | (with_reducible refine Below.trans ?_ (Below.mono (by assumption) (by first | omega | (· simp) | (· (simp; omega))))) | (with_reducible refine Below.trans ?_ (Kp.below (by assumption) (by first | omega | (· simp) | (· (simp; omega))) (by first | omega | (· simp) | (· (simp; omega)))))))⟩
    case round =>
      obtain ⟨m, f, pre, rfl, hm, hmf, hpf, hput, ho, hb⟩ := hrel
      obtain ⟨A', c', rfl⟩ := ho.form
      have HP := Lib.hid hput
      have HM := Lib.hid hmf
      clear hput hmf
      have hzb := hb.size
      have hl1 : ((ds ++ pre).length + 1) * 1 ≤ 140737488355328 := by simp; omega
      by_cases hlt : 127 < m
      · have e3 : ((m : Int) % 128 + 128) % 256 = (m : Int) % 128 + 128 := by omega
        have e4 := u8_cs (m % 128 + 128) (by omega) ((m : Int) % 128 + 128) (by omega)
        go_wp2_with (at_builtin; refine wp_app1 elB encB_len encB_one rfl (.tmp 12) (.tmp 17) rfl _ (ds ++ pre) (UInt8.ofNat (m % 128 + 128)) rfl ho (Nat.le_refl _) rfl e4 hl1 hzb ?_; intro v2 w2 ho2 hb2)
        go_roundw
        case rel =>
          obtain ⟨f', rfl, h1, h2⟩ := put_step hlt HM.out HP.out
          exact ⟨m / 128, f', _, by go_num, by omega, h1, by simp; omega, h2, by rw [← List.append_assoc]; exact ho2, hb.trans hb2⟩
        case measure => simp [intOf]; omega
      · have e3 : (m : Int) % 256 = m := by omega
        have e4 := u8_cs m (by omega) m rfl
        go_wp2_with (at_builtin; refine wp_app1 elB encB_len encB_one rfl (.tmp 21) (.tmp 24) rfl _ (ds ++ pre) (UInt8.ofNat m) rfl ho (Nat.le_refl _) rfl e4 hl1 hzb ?_; intro v2 w2 ho2 hb2)
        go_ret
        exact ⟨v2, rfl, by rw [← put_end hlt HP.out, ← List.append_assoc]; exact ho2, hb.trans hb2⟩

def putIns (o n : Int) : List UInt8 := putU o ++ if hasN o then putU n else []
theorem put7_len : ∀ f n, (put7 f n).length ≤ f + 1
  | 0, n => by simp [put7]
  | f + 1, n => by
    rw [put7]; split
    · have := put7_len f (n / 128); simp; omega
    · simp
theorem putU_len (n : Int) : (putU n).length ≤ 6 := put7_len 5 _
set_option maxRecDepth 100000 in
set_option maxHeartbeats 1000000 in
theorem specPutIns_any (A : Option Addr) (ln c : Nat) (ds : List UInt8) (o n : Int) (w : World) (hs : Rd w 1 encB (.slice A ln c) ds) (hn : ds.length ≤ 1048577) :
    Calls Try.prog 25 #[.slice A ln c, .agg #[.int .i64 o, .int .i64 n]] w fun e w' => ∃ v, e = .returned v ∧ Own w' w.heap.size w'.heap.size 5 1 encB v (ds ++ putIns o n) ∧ Below w.heap.size w w' := by
  obtain rfl := hs.len_eq
  have hl := putU_len o
  have hs0 : Rd (w.alloc (.cells #[.int .i64 o, .int .i64 n] 25)) 1 encB (.slice A ds.length c) ds := hs.alloc _
  cases hh : hasN o
  · have e : putIns o n = putU o := by unfold putIns; rw [hh]; simp
    rw [e]
    clear e
    go_enter Try.func25, Try.ntmps25
    go_wp2_with (first | (go_at_call 64; refine (specPutU_any _ _ _ ds _ _ hs0 (by first | omega | (· simp) | (· (simp; omega)))).mono ?_; rintro e w1 ⟨v1, rfl, ho1, hb1⟩; have hza := hb1.size; (try simp only [World.size_alloc, World.size_drew, World.size_setCell] at hza); have ka0 := blk hb1 (b := w.heap.size) (by first | omega | (· simp) | (· (simp; omega)))) | (go_at_call 58; refine (l17Has_any _ _).mono ?_; rintro e w2 ⟨rfl, rfl⟩))
    go_ret
    exact ⟨v1, rfl, ho1.wider (by simp) (Nat.le_refl _), (by repeat (first | (with_reducible refine Below.setCell ?_ (by first | omega | (· simp) | (· (simp; omega))) _) | (with_reducible refine Below.alloc ?_ (by first | omega | (· simp) | (· (simp; omega))) _) | (with_reducible refine Below.drew ?_) | (with_reducible refine bdrewN ?_ _) | (with_reducible exact Below.refl _ _) | (with_reducible assumption) | (with_reducible refine Below.trans ?_ (Below.mono (by assumption) (by first | omega | (· simp) | (· (simp; omega))))) | (with_reducible refine Below.trans ?_ (Kp.below (by assumption) (by first | omega | (· simp) | (· (simp; omega))) (by first | omega | (· simp) | (· (simp; omega)))))))⟩
  · have e : ds ++ putIns o n = (ds ++ putU o) ++ putU n := by unfold putIns; rw [hh]; simp
    rw [e]
    clear e
    go_enter Try.func25, Try.ntmps25
    go_wp2_with fail
    refine (specPutU_any _ _ _ ds _ _ hs0 (by first | omega | (· simp) | (· (simp; omega)))).mono ?_; rintro e w1 ⟨v1, rfl, ho1, hb1⟩; obtain ⟨A1, n1, c1, rfl, HN1⟩ := ho1.form'; have hza := hb1.size; (try simp only [World.size_alloc, World.size_drew, World.size_setCell] at hza); have ka0 := blk hb1 (b := w.heap.size) (by first | omega | (· simp) | (· (simp; omega)))
    go_wp2_with fail
    refine (l17Has_any _ _).mono ?_; rintro e w2 ⟨rfl, rfl⟩
    go_wp2_with fail
    refine (specPutU_any _ _ _ _ _ _ (ho1.rd encB_len) (by simp; omega)).mono ?_; rintro e w3 ⟨v3, rfl, ho3, hb3⟩
    go_wp2_with fail
    go_ret
    have hz3 := hb3.size
    exact ⟨v3, rfl, ho3.wider (by omega) (Nat.le_refl _), (by repeat (first | (with_reducible refine Below.setCell ?_ (by first | omega | (· simp) | (· (simp; omega))) _) | (with_reducible refine Below.alloc ?_ (by first | omega | (· simp) | (· (simp; omega))) _) | (with_reducible refine Below.drew ?_) | (with_reducible refine bdrewN ?_ _) | (with_reducible exact Below.refl _ _) | (with_reducible assumption) | (with_reducible refine Below.trans ?_ (Below.mono (by assumption) (by first | omega | (· simp) | (· (simp; omega))))) | (with_reducible refine Below.trans ?_ (Kp.below (by assumption) (by first | omega | (· simp) | (· (simp; omega))) (by first | omega | (· simp) | (· (simp; omega)))))))⟩
set_option maxRecDepth 100000 in
set_option maxHeartbeats 1000000 in
theorem implPutIns_any (A : Option Addr) (ln c : Nat) (ds : List UInt8) (o n : Int) (w : World) (hs : Rd w 1 encB (.slice A ln c) ds) (hn : ds.length ≤ 1048577) :
    Calls Try.prog 27 #[.slice A ln c, .agg #[.int .i64 o, .int .i64 n]] w fun e w' => ∃ v, e = .returned v ∧ Own w' w.heap.size w'.heap.size 5 1 encB v (ds ++ putIns o n) ∧ Below w.heap.size w w' := by
  obtain rfl := hs.len_eq
  have hl := putU_len o
  have hs0 : Rd (w.alloc (.cells #[.int .i64 o, .int .i64 n] 25)) 1 encB (.slice A ds.length c) ds := hs.alloc _
  cases hh : hasN o
  · have e : putIns o n = putU o := by unfold putIns; rw [hh]; simp
    rw [e]
    clear e
    go_enter Try.func27, Try.ntmps27
    go_wp2_with (first | (go_at_call 65; refine (implPutU_any _ _ _ ds _ _ hs0 (by first | omega | (· simp) | (· (simp; omega)))).mono ?_; rintro e w1 ⟨v1, rfl, ho1, hb1⟩; have hza := hb1.size; (try simp only [World.size_alloc, World.size_drew, World.size_setCell] at hza); have ka0 := blk hb1 (b := w.heap.size) (by first | omega | (· simp) | (· (simp; omega)))) | (go_at_call 60; refine (hasNumber_any _ _).mono ?_; rintro e w2 ⟨rfl, rfl⟩))
    go_ret
    exact ⟨v1, rfl, ho1.wider (by simp) (Nat.le_refl _), (by repeat (first | (with_reducible refine Below.setCell ?_ (by first | omega | (· simp) | (· (simp; omega))) _) | (with_reducible refine Below.alloc ?_ (by first | omega | (· simp) | (· (simp; omega))) _) | (with_reducible refine Below.drew ?_) | (with_reducible refine bdrewN ?_ _) | (with_reducible exact Below.refl _ _) | (with_reducible assumption) | (with_reducible refine Below.trans ?_ (Below.mono (by assumption) (by first | omega | (· simp) | (· (simp; omega))))) | (with_reducible refine Below.trans ?_ (Kp.below (by assumption) (by first | omega | (· simp) | (· (simp; omega))) (by first | omega | (· simp) | (· (simp; omega)))))))⟩
  · have e : ds ++ putIns o n = (ds ++ putU o) ++ putU n := by unfold putIns; rw [hh]; simp
    rw [e]
    clear e
    go_enter Try.func27, Try.ntmps27
    go_wp2_with fail
    refine (implPutU_any _ _ _ ds _ _ hs0 (by first | omega | (· simp) | (· (simp; omega)))).mono ?_; rintro e w1 ⟨v1, rfl, ho1, hb1⟩; obtain ⟨A1, n1, c1, rfl, HN1⟩ := ho1.form'; have hza := hb1.size; (try simp only [World.size_alloc, World.size_drew, World.size_setCell] at hza); have ka0 := blk hb1 (b := w.heap.size) (by first | omega | (· simp) | (· (simp; omega)))
    go_wp2_with fail
    refine (hasNumber_any _ _).mono ?_; rintro e w2 ⟨rfl, rfl⟩
    go_wp2_with fail
    refine (implPutU_any _ _ _ _ _ _ (ho1.rd encB_len) (by simp; omega)).mono ?_; rintro e w3 ⟨v3, rfl, ho3, hb3⟩
    go_wp2_with fail
    go_ret
    have hz3 := hb3.size
    exact ⟨v3, rfl, ho3.wider (by omega) (Nat.le_refl _), (by repeat (first | (with_reducible refine Below.setCell ?_ (by first | omega | (· simp) | (· (simp; omega))) _) | (with_reducible refine Below.alloc ?_ (by first | omega | (· simp) | (· (simp; omega))) _) | (with_reducible refine Below.drew ?_) | (with_reducible refine bdrewN ?_ _) | (with_reducible exact Below.refl _ _) | (with_reducible assumption) | (with_reducible refine Below.trans ?_ (Below.mono (by assumption) (by first | omega | (· simp) | (· (simp; omega))))) | (with_reducible refine Below.trans ?_ (Kp.below (by assumption) (by first | omega | (· simp) | (· (simp; omega))) (by first | omega | (· simp) | (· (simp; omega)))))))⟩
end Go.Proofs.Ytjgmdbhbnpafgaa
