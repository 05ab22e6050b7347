/- A drawn heap: few cells, each right. -/
import Derived.Test.YtjgmdbhbnpafgaaDraw3
import Derived.Test.YtjgmdbhbnpafgaaHold2
namespace Go.Proofs.Ytjgmdbhbnpafgaa
open Go.RowKit

def invH (n : Nat) (ds : List GCell) : Prop := ds.length + n ≤ 7 ∧ ∀ d ∈ ds, cellOk d = true ∧ goodC d ∧ d.refs + n ≤ 9
theorem cellOk_iff (c : GCell) : cellOk c = true ↔ 0 ≤ c.refs ∧ valOk c.v.k c.v.n c.v.s = true ∧ (c.refs = 0 → isZero c.v = true) := by
  unfold cellOk
  simp only [Bool.and_eq_true, decide_eq_true_eq, Bool.not_eq_true', Bool.and_eq_false_iff, beq_eq_false_iff_ne, Bool.not_eq_false']
  constructor
  · rintro ⟨h1, h2, h3⟩
    exact ⟨h1, h2, fun h => h3.resolve_left (fun g => g h)⟩
  · rintro ⟨h1, h2, h3⟩
    refine ⟨h1, h2, ?_⟩
    by_cases h : c.refs = 0
    · exact .inr (h3 h)
    · exact .inl h
theorem isZero_gzero : isZero gzero = true := by
  have : (⟨#[]⟩ : ByteArray).toList = [] := by rw [ByteArray.toList_eq]
  simp [isZero, gzero, this]
theorem invH_alloc {n : Nat} {ds : List GCell} {v : GVal} (h : invH (n + 1) ds) (hv : okV v) : invH n (allocL ds v) := by
  have hnew : cellOk ⟨1, v⟩ = true ∧ goodC ⟨1, v⟩ ∧ (1 : Int) + n ≤ 9 := by
    refine ⟨(cellOk_iff _).2 ⟨(by decide : (0 : Int) ≤ 1), hv.1, fun h => absurd h (by decide : ¬ (1 : Int) = 0)⟩, ⟨(by unfold i64r; decide : i64r 1), hv.2⟩, by have := h.1; omega⟩
  unfold allocL
  split
  · refine ⟨by rw [List.length_set]; have := h.1; omega, fun d hd => ?_⟩
    rcases List.mem_or_eq_of_mem_set hd with hd | rfl
    · have := h.2 d hd; exact ⟨this.1, this.2.1, by omega⟩
    · exact hnew
  · refine ⟨by rw [List.length_append]; have := h.1; simp; omega, fun d hd => ?_⟩
    rcases List.mem_append.1 hd with hd | hd
    · have := h.2 d hd; exact ⟨this.1, this.2.1, by omega⟩
    · obtain rfl := List.mem_singleton.1 hd; exact hnew
theorem held_at {ds : List GCell} {k : Int} (h : heldB ds k = true) : ∃ i : Nat, ∃ hi : i < ds.length, k = i ∧ 0 < ds[i].refs := by
  unfold heldB at h
  rw [Bool.and_eq_true, decide_eq_true_eq, decide_eq_true_eq] at h
  have hi : k.toNat < ds.length := by omega
  refine ⟨k.toNat, hi, by omega, ?_⟩
  have := h.2
  rw [List.getD, List.getElem?_eq_getElem hi] at this
  exact this
theorem wrap64_small {x : Int} (h : -9223372036854775808 ≤ x ∧ x ≤ 9223372036854775807) : wrap64 x = x := by unfold wrap64; omega
theorem invH_hold {n : Nat} {ds : List GCell} {k : Int} (h : invH (n + 1) ds) : invH n (holdL ds k) := by
  cases hh : heldB ds k
  · have e : holdL ds k = ds := by unfold holdL; rw [if_neg (by rw [hh]; decide)]
    rw [e]
    exact ⟨by have := h.1; omega, fun d hd => by have := h.2 d hd; exact ⟨this.1, this.2.1, by omega⟩⟩
  · obtain ⟨i, hi, rfl, hp⟩ := held_at hh
    have e : holdL ds (i : Int) = ds.set i (addRef ds[i]) := by
      unfold holdL; rw [if_pos hh, Int.toNat_natCast, List.getD, List.getElem?_eq_getElem hi]; rfl
    rw [e]
    obtain ⟨h1, h2, h3⟩ := h.2 ds[i] (List.getElem_mem _)
    have hw : wrap64 (ds[i].refs + 1) = ds[i].refs + 1 := wrap64_small (by omega)
    refine ⟨by rw [List.length_set]; have := h.1; omega, fun d hd => ?_⟩
    rcases List.mem_or_eq_of_mem_set hd with hd | rfl
    · have := h.2 d hd; exact ⟨this.1, this.2.1, by omega⟩
    · have c := (cellOk_iff _).1 h1
      unfold addRef
      rw [hw]
      exact ⟨(cellOk_iff _).2 ⟨by show 0 ≤ ds[i].refs + 1; omega, c.2.1, fun g => by have g' : ds[i].refs + 1 = 0 := g; omega⟩, ⟨by unfold i64r; show _ ≤ ds[i].refs + 1 ∧ ds[i].refs + 1 ≤ _; omega, h2.2⟩, by show ds[i].refs + 1 + n ≤ 9; omega⟩
theorem invH_let {n : Nat} {ds : List GCell} {k : Int} (h : invH (n + 1) ds) : invH n (letL ds k) := by
  cases hh : heldB ds k
  · have e : letL ds k = ds := by unfold letL; rw [if_neg (by rw [hh]; decide)]
    rw [e]
    exact ⟨by have := h.1; omega, fun d hd => by have := h.2 d hd; exact ⟨this.1, this.2.1, by omega⟩⟩
  · obtain ⟨i, hi, rfl, hp⟩ := held_at hh
    have e : letL ds (i : Int) = ds.set i (subRef ds[i]) := by
      unfold letL; rw [if_pos hh, Int.toNat_natCast, List.getD, List.getElem?_eq_getElem hi]; rfl
    rw [e]
    obtain ⟨h1, h2, h3⟩ := h.2 ds[i] (List.getElem_mem _)
    have hw : wrap64 (ds[i].refs - 1) = ds[i].refs - 1 := wrap64_small (by omega)
    refine ⟨by rw [List.length_set]; have := h.1; omega, fun d hd => ?_⟩
    rcases List.mem_or_eq_of_mem_set hd with hd | rfl
    · have := h.2 d hd; exact ⟨this.1, this.2.1, by omega⟩
    · have c := (cellOk_iff _).1 h1
      unfold subRef
      rw [hw]
      by_cases hz : ds[i].refs - 1 = 0
      · rw [if_pos hz]
        exact ⟨(cellOk_iff _).2 ⟨by show 0 ≤ ds[i].refs - 1; omega, okV_zero.1, fun _ => isZero_gzero⟩, ⟨by unfold i64r; show _ ≤ ds[i].refs - 1 ∧ ds[i].refs - 1 ≤ _; omega, okV_zero.2⟩, by show ds[i].refs - 1 + n ≤ 9; omega⟩
      · rw [if_neg hz]
        exact ⟨(cellOk_iff _).2 ⟨by show 0 ≤ ds[i].refs - 1; omega, c.2.1, fun g => absurd g hz⟩, ⟨by unfold i64r; show _ ≤ ds[i].refs - 1 ∧ ds[i].refs - 1 ≤ _; omega, h2.2⟩, by show ds[i].refs - 1 + n ≤ 9; omega⟩
end Go.Proofs.Ytjgmdbhbnpafgaa
