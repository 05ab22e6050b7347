/- FnExactRecOf: for all arguments the law returns true (its sentence: the program's RecOf is as the document's reference has it). No condition. -/
import Derived.Test.YtjgmdbhbnpafgaaOpen
import Derived.Test.YtjgmdbhbnpafgaaLRecOf
namespace Go.Proofs.Ytjgmdbhbnpafgaa
open Go.ChangeShapes Go.WideShapes Go.ChangeAt Go.RowKit Go.Joins
open Go.ChangeMaps (open_string)

set_option maxRecDepth 100000 in
theorem recOf_lifted (os : Os) (started : os.Started) (H : Type) (enc : TypeId × Value → H) :
    ReturnsInHanded {} Try.checked os 10 .any (Rows.fnExactRecOfSpec.pre6 enc Try.prog Try.f10 Rows.fnExactRecOfRow.domain false) (Rows.fnExactRecOfSpec.post enc Try.prog Try.f10 false true false false) := by
  refine law_lifted (fn := Try.f10) started H enc (by kernel_rfl) Try.func10 (by kernel_rfl) rfl Try.underlying4 (isLaw1 rfl fun _ _ => rfl)
    (ChangeSpec.witness6 (enc := enc) (C := Try.checked) false ⟨#[], #[.string ByteArray.empty], []⟩ 8 (by kernel_rfl) (by kernel_rfl) (by kernel_rfl) (by kernel_rfl)) ?_
  intro W base args ds ps hval hA _
  rw [Try.params10] at hA hval
  obtain ⟨v0, vs0, d0, ds0, p0, q0, hargs, rfl, rfl, h0, r0⟩ := trodAll_cons hA
  obtain ⟨rfl, rfl, rfl⟩ := trodAll_nil r0
  obtain rfl : args = #[v0] := by cases args; simp_all
  obtain ⟨a0, rfl, rfl, rfl, g0⟩ := open_string Try.underlying9 (hval 0 9 v0 rfl rfl) h0
  unfold maxLen at g0
  exact recOf_law W a0 g0

theorem recOf_holds : Rows.FnExactRecOfSaid :=
  OpenClaim.holds_of_wide 10 Try.f10 rfl rfl rfl rfl rfl rfl rfl ⟨rfl, rfl, rfl, rfl, rfl⟩ rfl rfl rfl rfl rfl (by kernel_rfl) Try.func10 (by kernel_rfl)
    (of_decide_eq_true (by kernel_rfl)) (by unfold Func.isWrapper; first | (rw [if_pos (by decide +kernel)]; kernel_rfl) | (rw [if_neg (by decide +kernel)]; exact ⟨rfl, rfl⟩))
    (fun os started H enc _ => recOf_lifted os started H enc)
#print axioms recOf_holds
end Go.Proofs.Ytjgmdbhbnpafgaa
