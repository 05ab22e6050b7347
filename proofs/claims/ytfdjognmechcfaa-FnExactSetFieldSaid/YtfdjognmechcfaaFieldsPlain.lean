/- The pieces of a text between blanks, rune by rune and byte by byte: the same. -/
import Derived.Test.YtfdjognmechcfaaSplit
import Derived.Lib.FieldsP
import Derived.Lib.MapLaws
namespace Go.Proofs.Ytfdjognmechcfaa
open Go.RowKit

def blankR (x : Nat) : Bool := x == 32 || x == 9
theorem splW_skips {s : ByteArray} : ∀ (n f k q : Nat), (∀ j, k ≤ j → j < k + n → j < s.size ∧ blankAt s j = false) → splW s (f + n) k q = splW s f (k + n) q
  | 0, _, _, _, _ => rfl
  | n + 1, f, k, q, h => by
    rw [show f + (n + 1) = (f + n) + 1 by omega, splW_skip (h k (Nat.le_refl _) (by omega)), splW_skips n f (k + 1) q fun j h1 h2 => h j (by omega) (by omega)]
    congr 1; omega
theorem blankAt_nat (s : ByteArray) (i : Nat) : blankAt s i = blankR (s.get! i).toNat := by
  have e (a b : UInt8) : (a == b) = (a.toNat == b.toNat) := by
    rw [Bool.eq_iff_iff, beq_iff_eq, beq_iff_eq, UInt8.toNat_inj]
  unfold blankAt blankR
  rw [e, e]; rfl
theorem dec_cases (s : ByteArray) (i : Nat) (h : i < s.size) :
    (blankR (Utf8.decode s i).1 = true ∧ (Utf8.decode s i).2 = 1 ∧ blankAt s i = true) ∨
    (blankR (Utf8.decode s i).1 = false ∧ 1 ≤ (Utf8.decode s i).2 ∧ i + (Utf8.decode s i).2 ≤ s.size ∧ ∀ j, i ≤ j → j < i + (Utf8.decode s i).2 → j < s.size ∧ blankAt s j = false) := by
  have hb (j : Nat) (hj : 128 ≤ (s.get! j).toNat) : blankAt s j = false := by rw [blankAt_nat]; unfold blankR; simp; omega
  rw [Lib.decode_at]
  have h0 := UInt8.toNat_lt (s.get! i)
  rcases Lib.decodeN_shape (s.size - i) (s.get! i).toNat (s.get! (i + 1)).toNat (s.get! (i + 2)).toNat (s.get! (i + 3)).toNat with ⟨h1, e⟩ | ⟨h1, hn, h2, h3, e⟩ | ⟨h1, hn, h2, h3, h4, _, e⟩ | ⟨h1, hn, h2, h3, h4, h5, _, e⟩ | e
  · rw [e]
    cases hbl : blankR (s.get! i).toNat
    · exact .inr ⟨rfl, Nat.le_refl _, by show i + 1 ≤ _; omega, fun j h1 h2 => by
        obtain rfl : j = i := by simp only [] at h2; omega
        exact ⟨h, by rw [blankAt_nat]; exact hbl⟩⟩
    · exact .inl ⟨rfl, rfl, by rw [blankAt_nat]; exact hbl⟩
  · rw [e]
    refine .inr ⟨by unfold blankR; simp; omega, by simp, by simp; omega, fun j g1 g2 => ?_⟩
    simp only [] at g2
    obtain rfl | rfl : j = i ∨ j = i + 1 := by omega
    · exact ⟨h, hb _ (by omega)⟩
    · exact ⟨by omega, hb _ (by omega)⟩
  · rw [e]
    refine .inr ⟨by unfold blankR; simp; omega, by simp, by simp; omega, fun j g1 g2 => ?_⟩
    simp only [] at g2
    obtain rfl | rfl | rfl : j = i ∨ j = i + 1 ∨ j = i + 2 := by omega
    · exact ⟨h, hb _ (by omega)⟩
    · exact ⟨by omega, hb _ (by omega)⟩
    · exact ⟨by omega, hb _ (by omega)⟩
  · rw [e]
    refine .inr ⟨by unfold blankR; simp; omega, by simp, by simp; omega, fun j g1 g2 => ?_⟩
    simp only [] at g2
    obtain rfl | rfl | rfl | rfl : j = i ∨ j = i + 1 ∨ j = i + 2 ∨ j = i + 3 := by omega
    · exact ⟨h, hb _ (by omega)⟩
    · exact ⟨by omega, hb _ (by omega)⟩
    · exact ⟨by omega, hb _ (by omega)⟩
    · exact ⟨by omega, hb _ (by omega)⟩
  · have hlo : ¬ (s.get! i).toNat < 128 := fun hlt => by
      have : Lib.decodeN (s.size - i) (s.get! i).toNat (s.get! (i + 1)).toNat (s.get! (i + 2)).toNat (s.get! (i + 3)).toNat = ((s.get! i).toNat, 1) := by
        unfold Lib.decodeN; rw [if_pos hlt]
      rw [this] at e
      have := congrArg Prod.fst e
      simp only [] at this
      omega
    rw [e]
    refine .inr ⟨rfl, Nat.le_refl _, by show i + 1 ≤ _; omega, fun j g1 g2 => ?_⟩
    obtain rfl : j = i := by simp only [] at g2; omega
    exact ⟨h, hb _ (by omega)⟩
theorem sf_b0 {s : ByteArray} {f pos : Nat} {acc : List (Nat × Nat)} (hlt : pos < s.size) (hb : blankR (Utf8.decode s pos).1 = true) : Lib.spansFromP blankR s (f + 1) pos none acc = Lib.spansFromP blankR s f (pos + (Utf8.decode s pos).2) none acc := by simp [Lib.spansFromP, hlt, hb]
theorem sf_b1 {s : ByteArray} {f pos a : Nat} {acc : List (Nat × Nat)} (hlt : pos < s.size) (hb : blankR (Utf8.decode s pos).1 = true) : Lib.spansFromP blankR s (f + 1) pos (some a) acc = Lib.spansFromP blankR s f (pos + (Utf8.decode s pos).2) none (acc ++ [(a, pos)]) := by simp [Lib.spansFromP, hlt, hb]
theorem sf_n0 {s : ByteArray} {f pos : Nat} {acc : List (Nat × Nat)} (hlt : pos < s.size) (hb : blankR (Utf8.decode s pos).1 = false) : Lib.spansFromP blankR s (f + 1) pos none acc = Lib.spansFromP blankR s f (pos + (Utf8.decode s pos).2) (some pos) acc := by simp [Lib.spansFromP, hlt, hb]
theorem sf_n1 {s : ByteArray} {f pos a : Nat} {acc : List (Nat × Nat)} (hlt : pos < s.size) (hb : blankR (Utf8.decode s pos).1 = false) : Lib.spansFromP blankR s (f + 1) pos (some a) acc = Lib.spansFromP blankR s f (pos + (Utf8.decode s pos).2) (some a) acc := by simp [Lib.spansFromP, hlt, hb]
theorem spans_spl {s : ByteArray} : ∀ (f pos : Nat) (st : Option Nat) (acc : List (Nat × Nat)), s.size ≤ pos + f → pos ≤ s.size → (∀ a, st = some a → a < pos) →
    (Lib.closeSpans s (Lib.spansFromP blankR s f pos st acc)).map (fun x => s.extract x.1 x.2) = acc.map (fun x => s.extract x.1 x.2) ++ splW s (s.size + 1 - pos) pos (st.getD pos) := by
  have fin (st : Option Nat) (acc : List (Nat × Nat)) (hst : ∀ a, st = some a → a < s.size) :
      (Lib.closeSpans s (acc, st)).map (fun x => s.extract x.1 x.2) = acc.map (fun x => s.extract x.1 x.2) ++ splW s 1 s.size (st.getD s.size) := by
    have hno : ¬ (s.size < s.size ∧ blankAt s s.size = false) := fun h => absurd h.1 (Nat.lt_irrefl _)
    cases st with
    | none => rw [splW_none hno (by simp)]; simp [Lib.closeSpans, splW]
    | some a => rw [splW_cut hno (by simpa using hst a rfl)]; simp [Lib.closeSpans, splW]
  intro f
  induction f with
  | zero =>
    intro pos st acc h1 h2 h3
    obtain rfl : pos = s.size := by omega
    rw [Lib.spansFromP_end _ _ _ _ _ _ (Nat.lt_irrefl _), Nat.add_sub_cancel_left]
    exact fin st acc h3
  | succ f ih =>
    intro pos st acc h1 h2 h3
    by_cases hlt : pos < s.size
    · rcases dec_cases s pos hlt with ⟨hb, hn, hbl⟩ | ⟨hb, hn1, hn2, hall⟩
      · rw [show s.size + 1 - pos = (s.size + 1 - (pos + 1)) + 1 by omega]
        have hno : ¬ (pos < s.size ∧ blankAt s pos = false) := fun h => by rw [hbl] at h; cases h.2
        cases st with
        | none => rw [sf_b0 hlt hb, hn, splW_none hno (by simp)]; exact ih (pos + 1) none acc (by omega) (by omega) (fun a h => by cases h)
        | some a =>
          rw [sf_b1 hlt hb, hn, splW_cut hno (by simpa using h3 a rfl)]
          refine (ih (pos + 1) none (acc ++ [(a, pos)]) (by omega) (by omega) (fun a h => by cases h)).trans ?_
          simp
      · have hsk := splW_skips (s := s) (Utf8.decode s pos).2 (s.size + 1 - (pos + (Utf8.decode s pos).2)) pos (st.getD pos) hall
        rw [show s.size + 1 - (pos + (Utf8.decode s pos).2) + (Utf8.decode s pos).2 = s.size + 1 - pos by omega] at hsk
        rw [hsk]
        cases st with
        | none => rw [sf_n0 hlt hb]; exact ih _ (some pos) acc (by omega) hn2 (fun a h => by injection h with h; omega)
        | some a => rw [sf_n1 hlt hb]; exact ih _ (some a) acc (by omega) hn2 (fun b h => by have := h3 b h; omega)
    · obtain rfl : pos = s.size := by omega
      rw [Lib.spansFromP_end _ _ _ _ _ _ (Nat.lt_irrefl _), Nat.add_sub_cancel_left]
      exact fin st acc h3
theorem fields_split (s : ByteArray) : Lib.goFieldsP blankR s = splitT s := by
  unfold Lib.goFieldsP Lib.spansOfP splitT
  exact spans_spl s.size 0 none [] (by omega) (Nat.zero_le _) (fun a h => by cases h)
end Go.Proofs.Ytfdjognmechcfaa
