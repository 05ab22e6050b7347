/- FnExactSameProg: for all arguments the law returns true (its sentence: the program's SameProg is as the document's reference has it). No condition. -/
import Derived.Test.YtkhioiehcaaejaaURow
import Derived.Test.YtkhioiehcaaejaaMSameProg
namespace Go.Proofs.Ytkhioiehcaaejaa
open Go.ChangeShapes Go.WideShapes Go.ChangeAt Go.RowKit Go.Joins
open Go.ChangeMaps (open_string)

def types_sameProg : List TypeId := [49, 47, 138, 133, 189, 130, 132, 9, 3, 22, 46, 135]
theorem closed_sameProg : ∀ t ∈ types_sameProg, closedAt Try.prog types_sameProg t = true := List.all_eq_true.1 (by kernel_rfl)
set_option maxRecDepth 100000 in
theorem sameProg_lifted (os : Os) (started : os.Started) (H : Type) (enc : TypeId × Value → H) :
    ReturnsInHanded {} Try.checked os 5 .any (Rows.fnExactSameProgSpec.pre6 enc Try.prog Try.f5 Rows.fnExactSameProgRow.domain false) (Rows.fnExactSameProgSpec.post enc Try.prog Try.f5 false true false false) := by
  refine law_lifted (fn := Try.f5) started H enc (by kernel_rfl) Try.func5 (by kernel_rfl) rfl Try.underlying4 (isLaw2 rfl fun _ _ _ => rfl)
    (ChangeSpec.witness6 (enc := enc) (C := Try.checked) false ⟨#[], #[.agg #[.slice none 0 0, .slice none 0 0], .agg #[.slice none 0 0, .slice none 0 0]], []⟩ 8 (by kernel_rfl) (by kernel_rfl) (by kernel_rfl) (by kernel_rfl)) ?_
  intro W base args ds ps hval hA _
  rw [Try.params5] at hA hval
  obtain ⟨v0, vs0, d0, ds0, p0, q0, hargs, rfl, rfl, h0, r0⟩ := trodAll_cons hA
  obtain ⟨v1, vs1, d1, ds1, p1, q1, rfl, rfl, rfl, h1, r1⟩ := trodAll_cons r0
  obtain ⟨rfl, rfl, rfl⟩ := trodAll_nil r1
  obtain rfl : args = #[v0, v1] := by cases args; simp_all
  obtain ⟨e0, rfl, t0, n0⟩ := open_struct closed_sameProg (by decide) Try.underlying49 (hval 0 49 v0 rfl rfl) h0
  obtain ⟨e1, rfl, t1, n1⟩ := open_struct closed_sameProg (by decide) Try.underlying49 (hval 1 49 v1 rfl rfl) h1
  exact sameProg_law W t0 n0 t1 n1

theorem sameProg_holds : Rows.FnExactSameProgSaid :=
  OpenClaim.holds_of_wide 5 Try.f5 rfl rfl rfl rfl rfl rfl rfl ⟨rfl, rfl, rfl, rfl, rfl⟩ rfl rfl rfl rfl rfl (by kernel_rfl) Try.func5 (by kernel_rfl)
    (of_decide_eq_true (by kernel_rfl)) (by unfold Func.isWrapper; first | (rw [if_pos (by decide +kernel)]; kernel_rfl) | (rw [if_neg (by decide +kernel)]; exact ⟨rfl, rfl⟩))
    (fun os started H enc _ => sameProg_lifted os started H enc)
#print axioms sameProg_holds
end Go.Proofs.Ytkhioiehcaaejaa
