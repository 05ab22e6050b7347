/- FnExactAlloc: for all arguments the law returns true (its sentence: the program's Alloc is as the document's reference has it). No condition. -/
import Derived.Test.YtfnnbjkjfoiboaaURow
import Derived.Test.YtfnnbjkjfoiboaaMAlloc
namespace Go.Proofs.Ytfnnbjkjfoiboaa
open Go.ChangeShapes Go.WideShapes Go.ChangeAt Go.RowKit Go.Joins
open Go.ChangeMaps (open_string)

def types_alloc : List TypeId := [24, 22, 155, 26, 9, 3]
theorem closed_alloc : ∀ t ∈ types_alloc, closedAt Try.prog types_alloc t = true := List.all_eq_true.1 (by kernel_rfl)
set_option maxRecDepth 100000 in
theorem alloc_lifted (os : Os) (started : os.Started) (H : Type) (enc : TypeId × Value → H) :
    ReturnsInHanded {} Try.checked os 3 .any (Rows.fnExactAllocSpec.pre6 enc Try.prog Try.f3 Rows.fnExactAllocRow.domain false) (Rows.fnExactAllocSpec.post enc Try.prog Try.f3 false true false false) := by
  refine law_lifted (fn := Try.f3) started H enc (by kernel_rfl) Try.func3 (by kernel_rfl) rfl Try.underlying4 (isLaw2 rfl fun _ _ _ => rfl)
    (ChangeSpec.witness6 (enc := enc) (C := Try.checked) false ⟨#[], #[.agg #[.slice none 0 0], .agg #[.int .i64 0, .int .i64 0, .string ByteArray.empty]], []⟩ 8 (by kernel_rfl) (by kernel_rfl) (by kernel_rfl) (by kernel_rfl)) ?_
  intro W base args ds ps hval hA _
  rw [Try.params3] at hA hval
  obtain ⟨v0, vs0, d0, ds0, p0, q0, hargs, rfl, rfl, h0, r0⟩ := trodAll_cons hA
  obtain ⟨v1, vs1, d1, ds1, p1, q1, rfl, rfl, rfl, h1, r1⟩ := trodAll_cons r0
  obtain ⟨rfl, rfl, rfl⟩ := trodAll_nil r1
  obtain rfl : args = #[v0, v1] := by cases args; simp_all
  obtain ⟨e0, rfl, t0, n0⟩ := open_struct closed_alloc (by decide) Try.underlying24 (hval 0 24 v0 rfl rfl) h0
  obtain ⟨e1, rfl, t1, n1⟩ := open_struct closed_alloc (by decide) Try.underlying26 (hval 1 26 v1 rfl rfl) h1
  exact alloc_law W t0 n0 t1 n1

theorem alloc_holds : Rows.FnExactAllocSaid :=
  OpenClaim.holds_of_wide 3 Try.f3 rfl rfl rfl rfl rfl rfl rfl ⟨rfl, rfl, rfl, rfl, rfl⟩ rfl rfl rfl rfl rfl (by kernel_rfl) Try.func3 (by kernel_rfl)
    (of_decide_eq_true (by kernel_rfl)) (by unfold Func.isWrapper; first | (rw [if_pos (by decide +kernel)]; kernel_rfl) | (rw [if_neg (by decide +kernel)]; exact ⟨rfl, rfl⟩))
    (fun os started H enc _ => alloc_lifted os started H enc)
#print axioms alloc_holds
end Go.Proofs.Ytfnnbjkjfoiboaa
