/- SplitText of the reference: the pieces of a text between blanks. -/
import Derived.Test.YtfdjognmechcfaaPrim
namespace Go.Proofs.Ytfdjognmechcfaa
open Go.RowKit

def blankAt (s : ByteArray) (i : Nat) : Bool := s.get! i == 32 || s.get! i == 9
/-- Rounds left, where it stands, where the piece begins. -/
def splW (s : ByteArray) : Nat → Nat → Nat → List ByteArray
  | 0, _, _ => []
  | f + 1, i, fr => if i < s.size ∧ blankAt s i = false then splW s f (i + 1) fr else (if fr < i then [s.extract fr i] else []) ++ splW s f (i + 1) (i + 1)
def splitT (s : ByteArray) : List ByteArray := splW s (s.size + 1) 0 0
theorem get_at (s : ByteArray) (k : Nat) (h : k < s.size) : s.get! k = s[k] := by
  have h' : k < s.data.size := h
  show s.data[k]! = s.data[k]
  exact getElem!_pos s.data k h'
theorem blank_other {s : ByteArray} {k : Nat} (h : k < s.size) (h1 : ¬ ((s[k].toNat : Int) = 32)) (h2 : ¬ ((s[k].toNat : Int) = 9)) : k < s.size ∧ blankAt s k = false := by
  refine ⟨h, ?_⟩
  unfold blankAt
  rw [get_at s k h, Bool.or_eq_false_iff, beq_eq_false_iff_ne, beq_eq_false_iff_ne]
  exact ⟨fun e => h1 (by rw [e]; rfl), fun e => h2 (by rw [e]; rfl)⟩
theorem blank_is {s : ByteArray} {k : Nat} (h : k < s.size) (h1 : ((s[k].toNat : Int) = 32) ∨ ((s[k].toNat : Int) = 9)) : ¬ (k < s.size ∧ blankAt s k = false) := by
  rintro ⟨_, hb⟩
  unfold blankAt at hb
  rw [get_at s k h, Bool.or_eq_false_iff, beq_eq_false_iff_ne, beq_eq_false_iff_ne] at hb
  rcases h1 with h1 | h1
  · exact hb.1 (UInt8.toNat_inj.1 (by simpa using (by omega : s[k].toNat = 32)))
  · exact hb.2 (UInt8.toNat_inj.1 (by simpa using (by omega : s[k].toNat = 9)))
theorem splW_skip {s : ByteArray} {f k q : Nat} (h : k < s.size ∧ blankAt s k = false) : splW s (f + 1) k q = splW s f (k + 1) q := by rw [splW, if_pos h]
theorem splW_cut {s : ByteArray} {f k q : Nat} (h : ¬ (k < s.size ∧ blankAt s k = false)) (hq : q < k) : splW s (f + 1) k q = s.extract q k :: splW s f (k + 1) (k + 1) := by rw [splW, if_neg h, if_pos hq]; rfl
theorem splW_none {s : ByteArray} {f k q : Nat} (h : ¬ (k < s.size ∧ blankAt s k = false)) (hq : ¬ q < k) : splW s (f + 1) k q = splW s f (k + 1) (k + 1) := by rw [splW, if_neg h, if_neg hq]; rfl
theorem elS : El Try.prog 22 9 1 16 := El.mk (z := .string ByteArray.empty) Try.underlying22 (by kernel_rfl) rfl (by omega) (by omega)
theorem encS_one (d : ByteArray) (u : Value) (h : u ∈ encS d) : u.oneCell' = true := by simp [encS] at h; subst h; rfl
set_option maxRecDepth 100000 in
set_option maxHeartbeats 4000000 in
theorem specSplitText_any (s : ByteArray) (w : World) (hs : s.size ≤ 1048576) :
    Calls Try.prog 50 #[.string s] w fun e w' => ∃ v, e = .returned v ∧ Own w' w.heap.size w'.heap.size 9 1 encS v (splitT s) ∧ Below w.heap.size w w' := by
  obtain ⟨R, hR⟩ : ∃ R, splitT s = R := ⟨_, rfl⟩
  rw [hR]
  have HR := Lib.hid hR
  clear hR
  have ho0 : Own (w.alloc (.cells #[] 9)) w.heap.size (w.heap.size + 1) 9 1 encS (.slice (some ⟨w.heap.size, 0, none⟩) 0 0) [] := own_lit (Nat.le_refl _) encS_len rfl (by unfold maxLen; omega) rfl
  go_enter Try.func50, Try.ntmps50
  go_wp2
  go_loopw [3, 4, 5] (fun v fr i wr => ∃ (acc : List ByteArray) (q k f : Nat), fr = .int .i64 q ∧ i = .int .i64 k ∧ k + f = s.size + 1 ∧ q ≤ k ∧ acc.length ≤ k ∧ acc ++ splW s f k q = R ∧ Own wr w.heap.size wr.heap.size 9 1 encS v acc ∧ Below w.heap.size w wr) (fun _ _ i _ => s.size + 2 - (intOf i).toNat)
  case atStart => exact ⟨[], 0, 0, s.size + 1, rfl, rfl, by omega, Nat.le_refl _, by simp, HR.out, by simpa using ho0, (by repeat (first | (with_reducible refine Below.setCell ?_ (by first | omega | (· simp) | (· (simp; omega))) _) | (with_reducible refine Below.alloc ?_ (by first | omega | (· simp) | (· (simp; omega))) _) | (with_reducible refine Below.drew ?_) | (with_reducible refine bdrewN ?_ _) | (with_reducible exact Below.refl _ _) | (with_reducible assumption) | (with_reducible refine Below.trans ?_ (Below.mono (by assumption) (by first | omega | (· simp) | (· (simp; omega))))) | (with_reducible refine Below.trans ?_ (Kp.below (by assumption) (by first | omega | (· simp) | (· (simp; omega))) (by first | omega | (· simp) | (· (simp; omega)))))))⟩
  case round =>
    obtain ⟨acc, q, k, f, rfl, rfl, hkf, hqk, hal, hacc, ho, hb⟩ := hrel
    have HA := Lib.hid hacc
    clear hacc
    obtain ⟨A, n, c, rfl, HN⟩ := ho.form'
    by_cases hk : k ≤ s.size
    · obtain ⟨f, rfl⟩ : ∃ f', f = f' + 1 := ⟨f - 1, by omega⟩
      have hsz : (acc.length + 1) * 16 ≤ 140737488355328 := by omega
      have hbz := hb.size
      by_cases hlt : k < s.size
      · by_cases h32 : (s[k].toNat : Int) = 32
        · have HB := Lib.hid (blank_is hlt (.inl h32))
          by_cases hq : q < k
          · go_wp2_with (at_builtin; refine wp_app1 elS encS_len encS_one rfl (.tmp 32) (.tmp 37) rfl _ acc (s.extract q k) rfl ho (Nat.le_refl _) rfl rfl hsz hbz ?_; intro v2 w2 ho2 hb2)
            go_roundw
            case rel => exact ⟨acc ++ [s.extract q k], k + 1, k + 1, f, by go_num, by go_num, by omega, Nat.le_refl _, by simp; omega, by rw [List.append_assoc, List.singleton_append, ← splW_cut HB.out hq]; exact HA.out, ho2, hb.trans hb2⟩
            case measure => simp [intOf]; omega
          · go_wp2
            go_roundw
            case rel => exact ⟨acc, k + 1, k + 1, f, by go_num, by go_num, by omega, Nat.le_refl _, by omega, by rw [← splW_none HB.out hq]; exact HA.out, ho, hb⟩
            case measure => simp [intOf]; omega
        · by_cases h9 : (s[k].toNat : Int) = 9
          · have HB := Lib.hid (blank_is hlt (.inr h9))
            by_cases hq : q < k
            · go_wp2_with (at_builtin; refine wp_app1 elS encS_len encS_one rfl (.tmp 32) (.tmp 37) rfl _ acc (s.extract q k) rfl ho (Nat.le_refl _) rfl rfl hsz hbz ?_; intro v2 w2 ho2 hb2)
              go_roundw
              case rel => exact ⟨acc ++ [s.extract q k], k + 1, k + 1, f, by go_num, by go_num, by omega, Nat.le_refl _, by simp; omega, by rw [List.append_assoc, List.singleton_append, ← splW_cut HB.out hq]; exact HA.out, ho2, hb.trans hb2⟩
              case measure => simp [intOf]; omega
            · go_wp2
              go_roundw
              case rel => exact ⟨acc, k + 1, k + 1, f, by go_num, by go_num, by omega, Nat.le_refl _, by omega, by rw [← splW_none HB.out hq]; exact HA.out, ho, hb⟩
              case measure => simp [intOf]; omega
          · have HB := Lib.hid (blank_other hlt h32 h9)
            have b32 : ((s[k].toNat : Int) != 32) = true := bne_iff_ne.2 h32
            have b9 : ((s[k].toNat : Int) != 9) = true := bne_iff_ne.2 h9
            go_wp2
            go_roundw
            case rel => exact ⟨acc, q, k + 1, f, rfl, by go_num, by omega, by omega, by omega, by rw [← splW_skip HB.out]; exact HA.out, ho, hb⟩
            case measure => simp [intOf]; omega
      · have HB := Lib.hid (fun (h : k < s.size ∧ blankAt s k = false) => hlt h.1)
        by_cases hq : q < k
        · go_wp2_with (at_builtin; refine wp_app1 elS encS_len encS_one rfl (.tmp 32) (.tmp 37) rfl _ acc (s.extract q k) rfl ho (Nat.le_refl _) rfl rfl hsz hbz ?_; intro v2 w2 ho2 hb2)
          go_roundw
          case rel => exact ⟨acc ++ [s.extract q k], k + 1, k + 1, f, by go_num, by go_num, by omega, Nat.le_refl _, by simp; omega, by rw [List.append_assoc, List.singleton_append, ← splW_cut HB.out hq]; exact HA.out, ho2, hb.trans hb2⟩
          case measure => simp [intOf]; omega
        · go_wp2
          go_roundw
          case rel => exact ⟨acc, k + 1, k + 1, f, by go_num, by go_num, by omega, Nat.le_refl _, by omega, by rw [← splW_none HB.out hq]; exact HA.out, ho, hb⟩
          case measure => simp [intOf]; omega
    · obtain rfl : f = 0 := by omega
      have e : R = acc := by have := HA.out; simp [splW] at this; exact this.symm
      subst e
      go_wp2
      go_ret
      exact ⟨_, rfl, ho, hb⟩
end Go.Proofs.Ytfdjognmechcfaa
