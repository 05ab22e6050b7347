/- FnExactSetField: for all arguments the law returns true (its sentence: the program's SetField is as the document's reference has it). No condition. -/
import Derived.Test.YtfdjognmechcfaaURow
import Derived.Test.YtfdjognmechcfaaMSetField
namespace Go.Proofs.Ytfdjognmechcfaa
open Go.ChangeShapes Go.WideShapes Go.ChangeAt Go.RowKit Go.Joins
open Go.ChangeMaps (open_string)

def types_setField : List TypeId := [24, 22, 9]
theorem closed_setField : ∀ t ∈ types_setField, closedAt Try.prog types_setField t = true := List.all_eq_true.1 (by kernel_rfl)
set_option maxRecDepth 100000 in
theorem setField_lifted (os : Os) (started : os.Started) (H : Type) (enc : TypeId × Value → H) :
    ReturnsInHanded {} Try.checked os 3 .any (Rows.fnExactSetFieldSpec.pre6 enc Try.prog Try.f3 Rows.fnExactSetFieldRow.domain false) (Rows.fnExactSetFieldSpec.post enc Try.prog Try.f3 false true false false) := by
  refine law_lifted (fn := Try.f3) started H enc (by kernel_rfl) Try.func3 (by kernel_rfl) rfl Try.underlying4 (isLaw3 rfl fun _ _ _ _ => rfl)
    (ChangeSpec.witness6 (enc := enc) (C := Try.checked) false ⟨#[], #[.agg #[.string ByteArray.empty, .slice none 0 0], .int .i64 0, .string ByteArray.empty], []⟩ 8 (by kernel_rfl) (by kernel_rfl) (by kernel_rfl) (by kernel_rfl)) ?_
  intro W base args ds ps hval hA _
  rw [Try.params3] at hA hval
  obtain ⟨v0, vs0, d0, ds0, p0, q0, hargs, rfl, rfl, h0, r0⟩ := trodAll_cons hA
  obtain ⟨v1, vs1, d1, ds1, p1, q1, rfl, rfl, rfl, h1, r1⟩ := trodAll_cons r0
  obtain ⟨v2, vs2, d2, ds2, p2, q2, rfl, rfl, rfl, h2, r2⟩ := trodAll_cons r1
  obtain ⟨rfl, rfl, rfl⟩ := trodAll_nil r2
  obtain rfl : args = #[v0, v1, v2] := by cases args; simp_all
  obtain ⟨e0, rfl, t0, n0⟩ := open_struct closed_setField (by decide) Try.underlying24 (hval 0 24 v0 rfl rfl) h0
  obtain ⟨a1, rfl, rfl, rfl, g1⟩ := open_int Try.underlying3 (hval 1 3 v1 rfl rfl) h1
  obtain ⟨a2, rfl, rfl, rfl, g2⟩ := open_string Try.underlying9 (hval 2 9 v2 rfl rfl) h2
  unfold maxLen at g2
  exact setField_law W t0 n0 a1 g1 a2 g2

theorem setField_holds : Rows.FnExactSetFieldSaid :=
  OpenClaim.holds_of_wide 3 Try.f3 rfl rfl rfl rfl rfl rfl rfl ⟨rfl, rfl, rfl, rfl, rfl⟩ rfl rfl rfl rfl rfl (by kernel_rfl) Try.func3 (by kernel_rfl)
    (of_decide_eq_true (by kernel_rfl)) (by unfold Func.isWrapper; first | (rw [if_pos (by decide +kernel)]; kernel_rfl) | (rw [if_neg (by decide +kernel)]; exact ⟨rfl, rfl⟩))
    (fun os started H enc _ => setField_lifted os started H enc)
#print axioms setField_holds
end Go.Proofs.Ytfdjognmechcfaa
