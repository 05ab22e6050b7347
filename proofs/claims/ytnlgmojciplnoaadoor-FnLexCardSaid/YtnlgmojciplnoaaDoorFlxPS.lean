/- One token of the program: what it is in plain words. -/
import Derived.Test.YtnlgmojciplnoaaDoorFlxPR
namespace Go.Proofs.YtnlgmojciplnoaaDoor
open Go.RowKit
set_option maxRecDepth 100000
def tokI (s : ByteArray) (rex : Bool) : Tk :=
  if (oneR s 0 rex).ok = true then oneR s 0 rex
  else if digB (bAt s 0) = true ∨ letB (bAt s 0) = true ∨ bAt s 0 = 39 ∨ (bAt s 0 = 47 ∧ rex = true) then ⟨0, 0, ByteArray.empty, 0⟩
  else ⟨5, 0, ByteArray.empty, 0⟩
theorem zp12 {c : Nat} (h : letB c = true) : digB c = false := by
  simp only [letB, Bool.and_eq_true, decide_eq_true_iff] at h
  simp [digB]; omega
theorem zh17 {s : ByteArray} {k : Int} {b : Nat} (hb : bAt s 0 = b) (hk : (k = 3 ∧ b = 39) ∨ (k = 4 ∧ b = 47)) {rex : Bool} (h1 : oneR s 0 rex = quoR s 0 k) (h2 : bAt s 0 = 39 ∨ (bAt s 0 = 47 ∧ rex = true)) :
    tokI s rex = if runF (neB b) s s.size 1 = s.size then ⟨0, 0, ByteArray.empty, 0⟩ else if textB b (cutB s 1 (runF (neB b) s s.size 1)) = true ∧ (k = 4 → 1 ≤ (cutB s 1 (runF (neB b) s s.size 1)).size) then ⟨k, 0, cutB s 1 (runF (neB b) s s.size 1), runF (neB b) s s.size 1 + 1⟩ else ⟨0, 0, ByteArray.empty, 0⟩ := by
  have h3 : digB (bAt s 0) = true ∨ letB (bAt s 0) = true ∨ bAt s 0 = 39 ∨ (bAt s 0 = 47 ∧ rex = true) := .inr (.inr h2)
  unfold tokI
  rw [if_pos h3, h1]
  unfold quoR
  rw [hb]
  by_cases hr : runF (neB b) s s.size 1 = s.size
  · rw [if_pos hr, if_pos hr, if_neg (by simp [Tk.ok, tokOk])]
  · rw [if_neg hr, if_neg hr]
    have hok : (Tk.mk k 0 (cutB s 1 (runF (neB b) s s.size 1)) (runF (neB b) s s.size 1 + 1)).ok = true ↔ (textB b (cutB s 1 (runF (neB b) s s.size 1)) = true ∧ (k = 4 → 1 ≤ (cutB s 1 (runF (neB b) s s.size 1)).size)) := by
      rcases hk with ⟨rfl, rfl⟩ | ⟨rfl, rfl⟩
      · simp [Tk.ok, tokOk]
      · simp [Tk.ok, tokOk]
    by_cases ho : textB b (cutB s 1 (runF (neB b) s s.size 1)) = true ∧ (k = 4 → 1 ≤ (cutB s 1 (runF (neB b) s s.size 1)).size)
    · rw [if_pos ho, if_pos (hok.2 ho)]
    · rw [if_neg ho, if_neg fun h => ho (hok.1 h)]
theorem tok_R {s : ByteArray} (h : bAt s 0 = 47) : tokI s true = if runF (neB 47) s s.size 1 = s.size then ⟨0, 0, ByteArray.empty, 0⟩ else if (decide (1 ≤ (cutB s 1 (runF (neB 47) s s.size 1)).size) && textB 47 (cutB s 1 (runF (neB 47) s s.size 1))) = true then ⟨4, 0, cutB s 1 (runF (neB 47) s s.size 1), runF (neB 47) s s.size 1 + 1⟩ else ⟨0, 0, ByteArray.empty, 0⟩ := by
  rw [zh17 (k := 4) (b := 47) h (.inr ⟨rfl, rfl⟩) (by unfold oneR; rw [if_neg (by simp [digB, h]), if_neg (by simp [letB, h]), if_neg (by omega), if_pos ⟨h, rfl⟩]) (.inr ⟨h, rfl⟩)]
  congr 1
  by_cases h1 : textB 47 (cutB s 1 (runF (neB 47) s s.size 1)) = true <;> by_cases h2 : 1 ≤ (cutB s 1 (runF (neB 47) s s.size 1)).size <;> simp [h1, h2]
theorem tok_Q {s : ByteArray} {rex : Bool} (h : bAt s 0 = 39) : tokI s rex = if runF (neB 39) s s.size 1 = s.size then ⟨0, 0, ByteArray.empty, 0⟩ else if textB 39 (cutB s 1 (runF (neB 39) s s.size 1)) = true then ⟨3, 0, cutB s 1 (runF (neB 39) s s.size 1), runF (neB 39) s s.size 1 + 1⟩ else ⟨0, 0, ByteArray.empty, 0⟩ := by
  rw [zh17 (k := 3) (b := 39) h (.inl ⟨rfl, rfl⟩) (by unfold oneR; rw [if_neg (by simp [digB, h]), if_neg (by simp [letB, h]), if_pos h]) (.inl h)]
  simp
theorem tok_L {s : ByteArray} {rex : Bool} (h0 : 0 < s.size) (h : letB (bAt s 0) = true) : tokI s rex = if runF ldB s s.size 0 ≤ 8 then ⟨2, 0, cutB s 0 (runF ldB s s.size 0), runF ldB s s.size 0⟩ else ⟨0, 0, ByteArray.empty, 0⟩ := by
  have h1 : oneR s 0 rex = ⟨2, 0, cutB s 0 (runF ldB s s.size 0), runF ldB s s.size 0⟩ := by
    unfold oneR
    rw [if_neg (by rw [zp12 h]; simp), if_pos h]
  have h2 := (zx4 (p := ldB) h0 (by simp [ldB, h])).2
  have h3 := zv2 (p := ldB) (s := s) s.size 0 (by omega) (by omega)
  have hz := zy2 (s := s) (a := 0) (b := runF ldB s s.size 0) (by omega) h3.2.1
  have hall : allB ldB (cutB s 0 (runF ldB s s.size 0)) = true := zo5 fun j hj => by
    rw [zk4 h3.2.1 (by omega), Nat.zero_add]
    exact h3.2.2.1 j (by omega) (by omega)
  have hfst : letB (bAt (cutB s 0 (runF ldB s s.size 0)) 0) = true := by rw [zk4 h3.2.1 (by omega)]; exact h
  have hok : (Tk.mk 2 0 (cutB s 0 (runF ldB s s.size 0)) (runF ldB s s.size 0)).ok = true ↔ runF ldB s s.size 0 ≤ 8 := by
    have e2 : tokOk 2 0 (cutB s 0 (runF ldB s s.size 0)) = nameW (cutB s 0 (runF ldB s s.size 0)) := by simp [tokOk]
    show tokOk 2 0 (cutB s 0 (runF ldB s s.size 0)) = true ↔ _
    rw [e2]
    simp only [nameW, hall, hfst, hz, Bool.and_true, Bool.and_eq_true, decide_eq_true_iff]
    omega
  unfold tokI
  rw [if_pos (show digB (bAt s 0) = true ∨ letB (bAt s 0) = true ∨ bAt s 0 = 39 ∨ (bAt s 0 = 47 ∧ rex = true) from .inr (.inl h)), h1]
  by_cases h8 : runF ldB s s.size 0 ≤ 8
  · rw [if_pos h8, if_pos (hok.2 h8)]
  · rw [if_neg h8, if_neg fun h => h8 (hok.1 h)]
theorem zi17 {s : ByteArray} : allB digB (cutB s 0 (runF digB s s.size 0)) = true := by
  have h3 := zv2 (p := digB) (s := s) s.size 0 (by omega) (by omega)
  have hz := zy2 (s := s) (a := 0) (b := runF digB s s.size 0) (by omega) h3.2.1
  exact zo5 fun j hj => by
    rw [zk4 h3.2.1 (by omega), Nat.zero_add]
    exact h3.2.2.1 j (by omega) (by omega)
theorem tok_D {s : ByteArray} {rex : Bool} (h0 : 0 < s.size) (h : digB (bAt s 0) = true) : tokI s rex = if valS (cutB s 0 (runF digB s s.size 0)) ≤ 2147483647 ∧ numT (valS (cutB s 0 (runF digB s s.size 0)) : Int) = cutB s 0 (runF digB s s.size 0) then ⟨1, (valS (cutB s 0 (runF digB s s.size 0)) : Int), ByteArray.empty, runF digB s s.size 0⟩ else ⟨0, 0, ByteArray.empty, 0⟩ := by
  have h1 : oneR s 0 rex = ⟨1, intV (cutB s 0 (runF digB s s.size 0)), ByteArray.empty, runF digB s s.size 0⟩ := by
    unfold oneR
    rw [if_pos h]
  have h2 := (zx4 (p := digB) h0 h).2
  have h3 := zv2 (p := digB) (s := s) s.size 0 (by omega) (by omega)
  have hz := zy2 (s := s) (a := 0) (b := runF digB s s.size 0) (by omega) h3.2.1
  have hn := zm20 (s := cutB s 0 (runF digB s s.size 0)) zi17 (by omega)
  unfold tokI
  rw [if_pos (show digB (bAt s 0) = true ∨ letB (bAt s 0) = true ∨ bAt s 0 = 39 ∨ (bAt s 0 = 47 ∧ rex = true) from .inl h), h1]
  unfold Tk.ok
  dsimp only
  by_cases hq : valS (cutB s 0 (runF digB s s.size 0)) ≤ 2147483647 ∧ numT (valS (cutB s 0 (runF digB s s.size 0)) : Int) = cutB s 0 (runF digB s s.size 0)
  · have hq2 := hn.1 hq
    rw [if_pos hq, if_pos hq2]
    have : intV (cutB s 0 (runF digB s s.size 0)) = (valS (cutB s 0 (runF digB s s.size 0)) : Int) := by
      by_cases hb : 1 ≤ (cutB s 0 (runF digB s s.size 0)).size ∧ (cutB s 0 (runF digB s s.size 0)).size ≤ 10 ∧ ¬ (1 < (cutB s 0 (runF digB s s.size 0)).size ∧ bAt (cutB s 0 (runF digB s s.size 0)) 0 = 48)
      · exact zb7 hb
      · rw [zb9 hb] at hq2
        exact absurd hq2 (by decide)
    rw [this]
  · rw [if_neg hq, if_neg fun h => hq (hn.2 h)]
theorem zm22 {s : ByteArray} (h : 1 ≤ s.size) : markB (cutB s 0 1) = oneB (bAt s 0) := by
  have hz := zy2 (s := s) (a := 0) (b := 1) (by omega) h
  have e : bAt (cutB s 0 1) 0 = bAt s 0 := zk4 h (by omega)
  simp [markB, hz, e]
theorem zx13 {s : ByteArray} (h : 2 ≤ s.size) : markB (cutB s 0 2) = sixB (bAt s 0) (bAt s 1) := by
  have hz := zy2 (s := s) (a := 0) (b := 2) (by omega) h
  have e : bAt (cutB s 0 2) 0 = bAt s 0 := zk4 h (by omega)
  have e1 : bAt (cutB s 0 2) 1 = bAt s 1 := zk4 h (by omega)
  simp [markB, hz, e, e1]
theorem tok_M {s : ByteArray} {rex : Bool} (h0 : 0 < s.size) (h1 : digB (bAt s 0) = false) (h2 : letB (bAt s 0) = false) (h3 : bAt s 0 ≠ 39) (h4 : ¬ (bAt s 0 = 47 ∧ rex = true)) : tokI s rex = ⟨5, 0, markS s, (markS s).size⟩ := by
  unfold tokI oneR
  simp only [h1, h2, h3, h4, if_false, Bool.false_eq_true, or_self, Nat.zero_add]
  unfold markS
  by_cases hs : 1 < s.size ∧ markB (cutB s 0 2) = true
  · have h6 := zx13 (s := s) (by omega)
    have hz := zy2 (s := s) (a := 0) (b := 2) (by omega) (by omega)
    have hm := hs.2
    rw [h6] at hm
    rw [if_pos hs, if_pos (show 2 ≤ s.size ∧ sixB (bAt s 0) (bAt s 1) = true from ⟨by omega, hm⟩), if_pos (show (Tk.mk 5 0 (cutB s 0 2) 2).ok = true by simp [Tk.ok, tokOk, hs.2]), hz]
  · rw [if_neg hs]
    have h6 : ¬ (2 ≤ s.size ∧ sixB (bAt s 0) (bAt s 1) = true) := fun ⟨a, b⟩ => hs ⟨by omega, by rw [zx13 a]; exact b⟩
    rw [if_neg h6]
    have h7 := zm22 (s := s) (by omega)
    have hz := zy2 (s := s) (a := 0) (b := 1) (by omega) (by omega)
    cases h8 : oneB (bAt s 0) with
    | true =>
      rw [h8] at h7
      rw [if_pos (show 1 ≤ s.size ∧ true = true from ⟨by omega, rfl⟩), if_pos (show (Tk.mk 5 0 (cutB s 0 1) 1).ok = true by simp [Tk.ok, tokOk, h7]), hz]
    | false =>
      rw [h8] at h7
      rw [if_neg (show ¬ (1 ≤ s.size ∧ false = true) by simp), if_neg (show ¬ (Tk.mk 5 0 (cutB s 0 1) 1).ok = true by simp [Tk.ok, tokOk, h7])]
      rfl
theorem zj19 {s : ByteArray} {rex : Bool} (h : (oneR s 0 rex).ok = true) : tokI s rex = oneR s 0 rex := if_pos h
theorem zn22 {s : ByteArray} {rex : Bool} (h : ¬ (oneR s 0 rex).ok = true) : (tokI s rex).e = 0 := by
  unfold tokI
  rw [if_neg h]
  split <;> rfl
end Go.Proofs.YtnlgmojciplnoaaDoor
