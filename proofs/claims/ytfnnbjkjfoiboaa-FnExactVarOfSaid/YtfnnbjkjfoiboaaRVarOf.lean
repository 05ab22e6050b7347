/- FnExactVarOf: for all arguments the law returns true (its sentence: the program's VarOf is as the document's reference has it). No condition. -/
import Derived.Test.YtfnnbjkjfoiboaaOpenEnv
import Derived.Test.YtfnnbjkjfoiboaaLVarOf
namespace Go.Proofs.Ytfnnbjkjfoiboaa
open Go.ChangeShapes Go.WideShapes Go.ChangeAt Go.RowKit Go.Joins
open Go.ChangeMaps (open_string)

set_option maxRecDepth 100000 in
theorem varOf_lifted (os : Os) (started : os.Started) (H : Type) (enc : TypeId × Value → H) :
    ReturnsInHanded {} Try.checked os 6 .any (Rows.fnExactVarOfSpec.pre6 enc Try.prog Try.f6 Rows.fnExactVarOfRow.domain false) (Rows.fnExactVarOfSpec.post enc Try.prog Try.f6 false true false false) := by
  refine law_lifted (fn := Try.f6) started H enc (by kernel_rfl) Try.func6 (by kernel_rfl) rfl Try.underlying4 (isLaw2 rfl fun _ _ _ => rfl)
    (ChangeSpec.witness6 (enc := enc) (C := Try.checked) false ⟨#[], #[.agg #[.slice none 0 0, .slice none 0 0], .string ByteArray.empty], []⟩ 8 (by kernel_rfl) (by kernel_rfl) (by kernel_rfl) (by kernel_rfl)) ?_
  intro W base args ds ps hval hA _
  rw [Try.params6] at hA hval
  obtain ⟨v0, vs0, d0, ds0, p0, q0, hargs, rfl, rfl, h0, r0⟩ := trodAll_cons hA
  obtain ⟨v1, vs1, d1, ds1, p1, q1, rfl, rfl, rfl, h1, r1⟩ := trodAll_cons r0
  obtain ⟨rfl, rfl, rfl⟩ := trodAll_nil r1
  obtain rfl : args = #[v0, v1] := by cases args; simp_all
  obtain ⟨x0, y0, z0, u0, m0, rfl, rfl, rfl, hx0, hy0⟩ := open_agg2 Try.underlying63 (by kernel_rfl) (by kernel_rfl) (hval 0 63 v0 rfl rfl) h0
  obtain ⟨a0, s0, k0⟩ := sl_nameds hx0
  obtain ⟨A0, c0, rfl, _, _⟩ := s0.form
  obtain ⟨b0, t0, g0⟩ := sl_tables hy0
  obtain ⟨B0, d0, rfl, _, _⟩ := t0.form
  obtain ⟨a1, rfl, rfl, rfl, g1⟩ := open_string Try.underlying9 (hval 1 9 v1 rfl rfl) h1
  unfold maxLen at g1
  exact varOf_law W A0 c0 a0 B0 d0 b0 s0 t0 (fun t ht => (g0 t ht).2) k0 (fun t ht => (g0 t ht).1) a1 g1

theorem varOf_holds : Rows.FnExactVarOfSaid :=
  OpenClaim.holds_of_wide 6 Try.f6 rfl rfl rfl rfl rfl rfl rfl ⟨rfl, rfl, rfl, rfl, rfl⟩ rfl rfl rfl rfl rfl (by kernel_rfl) Try.func6 (by kernel_rfl)
    (of_decide_eq_true (by kernel_rfl)) (by unfold Func.isWrapper; first | (rw [if_pos (by decide +kernel)]; kernel_rfl) | (rw [if_neg (by decide +kernel)]; exact ⟨rfl, rfl⟩))
    (fun os started H enc _ => varOf_lifted os started H enc)
#print axioms varOf_holds
end Go.Proofs.Ytfnnbjkjfoiboaa
