/- The plain law of new cells: what Alloc, Hold and Let do to a list of cells. -/
import Derived.Test.YtjgmdbhbnpafgaaDraw4
namespace Go.Proofs.Ytjgmdbhbnpafgaa
open Go.RowKit

theorem allocL_len (ds : List GCell) (v : GVal) : allocAt ds < (allocL ds v).length := by
  unfold allocL
  have := allocAt_le ds
  split
  · rw [List.length_set]; assumption
  · rw [List.length_append]; simp; omega
theorem allocL_at (ds : List GCell) (v : GVal) : (allocL ds v)[allocAt ds]'(allocL_len ds v) = ⟨1, v⟩ := by
  have hle := allocAt_le ds
  unfold allocL
  split
  · simp
  · have e : allocAt ds = ds.length := by omega
    simp [e]
theorem allocL_old (ds : List GCell) (v : GVal) {i : Nat} (hi : i < ds.length) (hk : i ≠ allocAt ds) : ∃ h : i < (allocL ds v).length, (allocL ds v)[i] = ds[i] := by
  unfold allocL
  split
  · exact ⟨by rw [List.length_set]; exact hi, by rw [List.getElem_set_ne (fun h => hk h.symm)]⟩
  · exact ⟨by rw [List.length_append]; omega, by rw [List.getElem_append_left hi]⟩
theorem allocL_length_le (ds : List GCell) (v : GVal) : ds.length ≤ (allocL ds v).length ∧ (allocL ds v).length ≤ ds.length + 1 := by
  unfold allocL
  split
  · simp
  · simp
theorem heldOf_set (ds : List GCell) (i : Nat) (hi : i < ds.length) (d : GCell) : heldOf (ds.set i d) = heldOf ds - (if 0 < ds[i].refs then 1 else 0) + (if 0 < d.refs then 1 else 0) := by
  induction ds generalizing i with
  | nil => cases hi
  | cons a ds ih =>
    unfold heldOf at ih ⊢
    cases i with
    | zero =>
      simp only [List.set_cons_zero, List.filter_cons, List.getElem_cons_zero]
      by_cases h1 : 0 < a.refs <;> by_cases h2 : 0 < d.refs <;> simp [h1, h2] <;> omega
    | succ i =>
      have hi' : i < ds.length := by simp at hi; omega
      have := ih i hi'
      simp only [List.set_cons_succ, List.filter_cons, List.getElem_cons_succ]
      by_cases h1 : 0 < a.refs <;> simp [h1] <;> omega
theorem heldOf_app (ds : List GCell) (d : GCell) : heldOf (ds ++ [d]) = heldOf ds + (if 0 < d.refs then 1 else 0) := by
  unfold heldOf
  rw [List.filter_append, List.length_append]
  by_cases h : 0 < d.refs <;> simp [h]
theorem allocL_held (ds : List GCell) (v : GVal) : heldOf (allocL ds v) = heldOf ds + 1 := by
  unfold allocL
  split
  · next h =>
    rw [heldOf_set _ _ h, allocAt_is h]
    simp
  · rw [heldOf_app]; simp
theorem allocL_heldB (ds : List GCell) (v : GVal) : heldB (allocL ds v) (allocAt ds) = true := by
  have h := allocL_len ds v
  unfold heldB
  rw [Bool.and_eq_true, decide_eq_true_eq, decide_eq_true_eq, Int.toNat_natCast, List.getD, List.getElem?_eq_getElem h, allocL_at]
  exact ⟨⟨by omega, by omega⟩, by simp⟩
theorem addRef1 (v : GVal) : addRef ⟨1, v⟩ = ⟨2, v⟩ := by unfold addRef; rw [wrap64_small (by decide : (-9223372036854775808 : Int) ≤ 1 + 1 ∧ (1 + 1 : Int) ≤ 9223372036854775807)]; rfl
theorem subRef2 (v : GVal) : subRef ⟨2, v⟩ = ⟨1, v⟩ := by unfold subRef; rw [wrap64_small (by decide : (-9223372036854775808 : Int) ≤ 2 - 1 ∧ (2 - 1 : Int) ≤ 9223372036854775807)]; rfl
theorem subRef1 (v : GVal) : subRef ⟨1, v⟩ = ⟨0, gzero⟩ := by unfold subRef; rw [wrap64_small (by decide : (-9223372036854775808 : Int) ≤ 1 - 1 ∧ (1 - 1 : Int) ≤ 9223372036854775807)]; rfl
theorem hold_alloc (ds : List GCell) (v : GVal) : holdL (allocL ds v) (allocAt ds) = (allocL ds v).set (allocAt ds) ⟨2, v⟩ := by
  have h := allocL_len ds v
  unfold holdL
  rw [if_pos (allocL_heldB ds v), Int.toNat_natCast, List.getD, List.getElem?_eq_getElem h, allocL_at]
  show (allocL ds v).set (allocAt ds) (addRef ⟨1, v⟩) = _
  rw [addRef1]
theorem let_hold (ds : List GCell) (v : GVal) : letL (holdL (allocL ds v) (allocAt ds)) (allocAt ds) = allocL ds v := by
  have h := allocL_len ds v
  have h2 : allocAt ds < ((allocL ds v).set (allocAt ds) ⟨2, v⟩).length := by rw [List.length_set]; exact h
  have hb : heldB ((allocL ds v).set (allocAt ds) ⟨2, v⟩) (allocAt ds) = true := by
    unfold heldB
    rw [Bool.and_eq_true, decide_eq_true_eq, decide_eq_true_eq, Int.toNat_natCast, List.getD, List.getElem?_eq_getElem h2, List.getElem_set_self]
    exact ⟨⟨by omega, by omega⟩, by simp⟩
  rw [hold_alloc]
  unfold letL
  rw [if_pos hb, Int.toNat_natCast, List.getD, List.getElem?_eq_getElem h2, List.getElem_set_self, List.set_set]
  have e : subRef ⟨2, v⟩ = (allocL ds v)[allocAt ds] := by rw [allocL_at, subRef2]
  show (allocL ds v).set (allocAt ds) (subRef ⟨2, v⟩) = _
  rw [e, List.set_getElem_self]
theorem let_alloc (ds : List GCell) (v : GVal) : letL (allocL ds v) (allocAt ds) = (allocL ds v).set (allocAt ds) ⟨0, gzero⟩ := by
  have h := allocL_len ds v
  unfold letL
  rw [if_pos (allocL_heldB ds v), Int.toNat_natCast, List.getD, List.getElem?_eq_getElem h, allocL_at]
  show (allocL ds v).set (allocAt ds) (subRef ⟨1, v⟩) = _
  rw [subRef1]
theorem let_held (ds : List GCell) (v : GVal) : heldOf (letL (allocL ds v) (allocAt ds)) = heldOf ds := by
  rw [let_alloc, heldOf_set _ _ (allocL_len ds v), allocL_at, allocL_held]
  simp
theorem valAt_at {ds : List GCell} {i : Nat} (h : i < ds.length) : valAt ds i = ds[i].v := by
  unfold valAt
  rw [if_pos (by omega), Int.toNat_natCast, List.getD, List.getElem?_eq_getElem h]; rfl
theorem alloc_valAt (ds : List GCell) (v : GVal) : valAt (allocL ds v) (allocAt ds) = v := by rw [valAt_at (allocL_len ds v), allocL_at]
theorem let_valAt (ds : List GCell) (v : GVal) : valAt (letL (allocL ds v) (allocAt ds)) (allocAt ds) = gzero := by
  have h := allocL_len ds v
  rw [let_alloc, valAt_at (by rw [List.length_set]; exact h), List.getElem_set_self]
theorem goodAll_alloc {ds : List GCell} {v : GVal} (h : ∀ d ∈ ds, cellOk d = true ∧ goodC d) (hv : okV v) : ∀ d ∈ allocL ds v, cellOk d = true ∧ goodC d := by
  have hnew : cellOk ⟨1, v⟩ = true ∧ goodC ⟨1, v⟩ := ⟨(cellOk_iff _).2 ⟨(by decide : (0 : Int) ≤ 1), hv.1, fun h => absurd h (by decide : ¬ (1 : Int) = 0)⟩, (by unfold i64r; decide : i64r 1), hv.2⟩
  unfold allocL
  split
  · intro d hd
    rcases List.mem_or_eq_of_mem_set hd with hd | rfl
    · exact h d hd
    · exact hnew
  · intro d hd
    rcases List.mem_append.1 hd with hd | hd
    · exact h d hd
    · obtain rfl := List.mem_singleton.1 hd; exact hnew
theorem goodAll_let {ds : List GCell} {v : GVal} (h : ∀ d ∈ ds, cellOk d = true ∧ goodC d) (hv : okV v) : ∀ d ∈ letL (allocL ds v) (allocAt ds), cellOk d = true ∧ goodC d := by
  rw [let_alloc]
  intro d hd
  rcases List.mem_or_eq_of_mem_set hd with hd | rfl
  · exact goodAll_alloc h hv d hd
  · exact ⟨(cellOk_iff _).2 ⟨(by decide : (0 : Int) ≤ 0), okV_zero.1, fun _ => isZero_gzero⟩, (by unfold i64r; decide : i64r 0), okV_zero.2⟩
theorem heapOk_of {ds : List GCell} (h : ∀ d ∈ ds, cellOk d = true ∧ goodC d) : heapOk ds = true := by
  unfold heapOk
  rw [List.all_eq_true]
  exact fun d hd => (h d hd).1
end Go.Proofs.Ytjgmdbhbnpafgaa
