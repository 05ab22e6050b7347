/- FnExactHeldOf: for all arguments the law returns true (its sentence: the program's HeldOf is as the document's reference has it). No condition. -/
import Derived.Test.YtjgmdbhbnpafgaaOpenHeap
import Derived.Test.YtjgmdbhbnpafgaaLHeldOf
namespace Go.Proofs.Ytjgmdbhbnpafgaa
open Go.ChangeShapes Go.WideShapes Go.ChangeAt Go.RowKit Go.Joins
open Go.ChangeMaps (open_string)

set_option maxRecDepth 100000 in
theorem heldOf_lifted (os : Os) (started : os.Started) (H : Type) (enc : TypeId × Value → H) :
    ReturnsInHanded {} Try.checked os 8 .any (Rows.fnExactHeldOfSpec.pre6 enc Try.prog Try.f8 Rows.fnExactHeldOfRow.domain false) (Rows.fnExactHeldOfSpec.post enc Try.prog Try.f8 false true false false) := by
  refine law_lifted (fn := Try.f8) started H enc (by kernel_rfl) Try.func8 (by kernel_rfl) rfl Try.underlying4 (isLaw1 rfl fun _ _ => rfl)
    (ChangeSpec.witness6 (enc := enc) (C := Try.checked) false ⟨#[], #[.agg #[.slice none 0 0]], []⟩ 8 (by kernel_rfl) (by kernel_rfl) (by kernel_rfl) (by kernel_rfl)) ?_
  intro W base args ds ps hval hA _
  rw [Try.params8] at hA hval
  obtain ⟨v0, vs0, d0, ds0, p0, q0, hargs, rfl, rfl, h0, r0⟩ := trodAll_cons hA
  obtain ⟨rfl, rfl, rfl⟩ := trodAll_nil r0
  obtain rfl : args = #[v0] := by cases args; simp_all
  obtain ⟨u0, m0, y0, rfl, hy0⟩ := open_heap Try.underlying47 ⟨rfl, by kernel_rfl⟩ (by kernel_rfl) (hval 0 47 v0 rfl rfl) h0
  obtain ⟨a0, s0, k0⟩ := sl_cells hy0
  obtain ⟨A0, c0, rfl, _, _⟩ := s0.form
  exact heldOf_law W A0 c0 a0 s0 k0

theorem heldOf_holds : Rows.FnExactHeldOfSaid :=
  OpenClaim.holds_of_wide 8 Try.f8 rfl rfl rfl rfl rfl rfl rfl ⟨rfl, rfl, rfl, rfl, rfl⟩ rfl rfl rfl rfl rfl (by kernel_rfl) Try.func8 (by kernel_rfl)
    (of_decide_eq_true (by kernel_rfl)) (by unfold Func.isWrapper; first | (rw [if_pos (by decide +kernel)]; kernel_rfl) | (rw [if_neg (by decide +kernel)]; exact ⟨rfl, rfl⟩))
    (fun os started H enc _ => heldOf_lifted os started H enc)
#print axioms heldOf_holds
end Go.Proofs.Ytjgmdbhbnpafgaa
