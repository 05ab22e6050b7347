/- Data that say the same. -/
import Derived.Test.YtkhioiehcaaejaaU2
namespace Go.Proofs.Ytkhioiehcaaejaa
open Go.RowKit
open Classical in
noncomputable def eqD (x y : E) : Bool := decide (x.d = y.d)
open Classical in
noncomputable def eqDL (x y : List E) : Bool := decide (E.dL x = E.dL y)
theorem eqD_iff {x y : E} : eqD x y = true ↔ x.d = y.d := by unfold eqD; exact @decide_eq_true_iff _ (Classical.propDecidable _)
open Classical in
theorem eqDL_iff {x y : List E} : eqDL x y = true ↔ E.dL x = E.dL y := by unfold eqDL; exact decide_eq_true_iff
theorem bool_ext {a b : Bool} (h : a = true ↔ b = true) : a = b := by cases a <;> cases b <;> simp_all
theorem eqD_int {k : IntKind} {a b : Int} : eqD (.int k a) (.int k b) = (a == b) := bool_ext (by rw [eqD_iff]; simp [E.d])
theorem eqD_bool {a b : Bool} : eqD (.bool a) (.bool b) = (a == b) := bool_ext (by rw [eqD_iff]; simp [E.d])
theorem eqD_str {a b : ByteArray} : eqD (.str a) (.str b) = (a.toList == b.toList) := bool_ext (by
  rw [eqD_iff]
  simp only [E.d, E.str.injEq, beq_iff_eq]
  exact ⟨fun h => by rw [h], fun h => by
    have h1 : a.data.toList = b.data.toList := by simpa [ByteArray.toList_eq] using h
    cases a; cases b
    simp only at h1
    congr 1
    exact Array.toList_inj.1 h1⟩)
theorem eqD_agg {l m : List E} : eqD (.agg l) (.agg m) = eqDL l m := bool_ext (by rw [eqD_iff, eqDL_iff]; simp [E.d])
theorem eqD_lst {k k' c c' : Nat} {T T' : TypeId} {A A' : Option Addr} {l m : List E} : eqD (.lst k T A c l) (.lst k' T' A' c' m) = eqDL l m := bool_ext (by rw [eqD_iff, eqDL_iff]; simp [E.d])
theorem eqDL_nil : eqDL [] [] = true := eqDL_iff.2 rfl
theorem eqDL_cons {x y : E} {l m : List E} : eqDL (x :: l) (y :: m) = (eqD x y && eqDL l m) := bool_ext (by rw [eqDL_iff, Bool.and_eq_true, eqD_iff, eqDL_iff]; simp [E.dL])
theorem eqDL_len : ∀ {a b : List E}, a.length ≠ b.length → eqDL a b = false := by
  intro a b h
  rw [Bool.eq_false_iff]
  intro h'
  rw [eqDL_iff, E.dL_eq, E.dL_eq] at h'
  exact h (by simpa using congrArg List.length h')
theorem eqDL_no : ∀ {a b : List E} {k : Nat} {x y : E}, a[k]? = some x → b[k]? = some y → eqD x y = false → eqDL a b = false := by
  intro a b k x y hx hy h
  rw [Bool.eq_false_iff]
  intro h'
  rw [eqDL_iff, E.dL_eq, E.dL_eq] at h'
  have := congrArg (fun l => l[k]?) h'
  simp only [List.getElem?_map, hx, hy, Option.map_some, Option.some.injEq] at this
  rw [eqD_iff.2 this] at h
  cases h
theorem eqDL_yes : ∀ {a b : List E}, a.length = b.length → (∀ (j : Nat) x y, j < a.length → a[j]? = some x → b[j]? = some y → eqD x y = true) → eqDL a b = true
  | [], [], _, _ => eqDL_nil
  | [], _ :: _, h, _ => by simp at h
  | _ :: _, [], h, _ => by simp at h
  | x :: a, y :: b, h, hh => by
    rw [eqDL_cons, Bool.and_eq_true]
    exact ⟨hh 0 x y (by simp) rfl rfl, eqDL_yes (by simpa using h) fun j p q hj hp hq => hh (j + 1) p q (by simpa using hj) (by simpa using hp) (by simpa using hq)⟩
end Go.Proofs.Ytkhioiehcaaejaa
