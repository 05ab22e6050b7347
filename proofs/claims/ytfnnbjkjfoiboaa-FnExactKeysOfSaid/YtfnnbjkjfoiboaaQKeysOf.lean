/- FnExactKeysOf: for all arguments the law returns true (its sentence: the program's KeysOf is as the document's reference has it). No condition. -/
import Derived.Test.YtfnnbjkjfoiboaaURow
import Derived.Test.YtfnnbjkjfoiboaaMKeysOf
namespace Go.Proofs.Ytfnnbjkjfoiboaa
open Go.ChangeShapes Go.WideShapes Go.ChangeAt Go.RowKit Go.Joins
open Go.ChangeMaps (open_string)

def types_keysOf : List TypeId := [63, 61, 176, 174, 203, 26, 9, 3, 60, 172]
theorem closed_keysOf : ∀ t ∈ types_keysOf, closedAt Try.prog types_keysOf t = true := List.all_eq_true.1 (by kernel_rfl)
set_option maxRecDepth 100000 in
theorem keysOf_lifted (os : Os) (started : os.Started) (H : Type) (enc : TypeId × Value → H) :
    ReturnsInHanded {} Try.checked os 10 .any (Rows.fnExactKeysOfSpec.pre6 enc Try.prog Try.f10 Rows.fnExactKeysOfRow.domain false) (Rows.fnExactKeysOfSpec.post enc Try.prog Try.f10 false true false false) := by
  refine law_lifted (fn := Try.f10) started H enc (by kernel_rfl) Try.func10 (by kernel_rfl) rfl Try.underlying4 (isLaw2 rfl fun _ _ _ => rfl)
    (ChangeSpec.witness6 (enc := enc) (C := Try.checked) false ⟨#[], #[.agg #[.slice none 0 0, .slice none 0 0], .string ByteArray.empty], []⟩ 8 (by kernel_rfl) (by kernel_rfl) (by kernel_rfl) (by kernel_rfl)) ?_
  intro W base args ds ps hval hA _
  rw [Try.params10] at hA hval
  obtain ⟨v0, vs0, d0, ds0, p0, q0, hargs, rfl, rfl, h0, r0⟩ := trodAll_cons hA
  obtain ⟨v1, vs1, d1, ds1, p1, q1, rfl, rfl, rfl, h1, r1⟩ := trodAll_cons r0
  obtain ⟨rfl, rfl, rfl⟩ := trodAll_nil r1
  obtain rfl : args = #[v0, v1] := by cases args; simp_all
  obtain ⟨e0, rfl, t0, n0⟩ := open_struct closed_keysOf (by decide) Try.underlying63 (hval 0 63 v0 rfl rfl) h0
  obtain ⟨a1, rfl, rfl, rfl, g1⟩ := open_string Try.underlying9 (hval 1 9 v1 rfl rfl) h1
  unfold maxLen at g1
  exact keysOf_law W t0 n0 a1 g1

theorem keysOf_holds : Rows.FnExactKeysOfSaid :=
  OpenClaim.holds_of_wide 10 Try.f10 rfl rfl rfl rfl rfl rfl rfl ⟨rfl, rfl, rfl, rfl, rfl⟩ rfl rfl rfl rfl rfl (by kernel_rfl) Try.func10 (by kernel_rfl)
    (of_decide_eq_true (by kernel_rfl)) (by unfold Func.isWrapper; first | (rw [if_pos (by decide +kernel)]; kernel_rfl) | (rw [if_neg (by decide +kernel)]; exact ⟨rfl, rfl⟩))
    (fun os started H enc _ => keysOf_lifted os started H enc)
#print axioms keysOf_holds
end Go.Proofs.Ytfnnbjkjfoiboaa
