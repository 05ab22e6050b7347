/- FnExactEntryOf: for all arguments the law returns true (its sentence: the program's EntryOf is as the document's reference has it). No condition. -/
import Derived.Test.YtfnnbjkjfoiboaaOpenEnv
import Derived.Test.YtfnnbjkjfoiboaaLEntryOf
namespace Go.Proofs.Ytfnnbjkjfoiboaa
open Go.ChangeShapes Go.WideShapes Go.ChangeAt Go.RowKit Go.Joins
open Go.ChangeMaps (open_string)

set_option maxRecDepth 100000 in
theorem entryOf_lifted (os : Os) (started : os.Started) (H : Type) (enc : TypeId × Value → H) :
    ReturnsInHanded {} Try.checked os 8 .any (Rows.fnExactEntryOfSpec.pre6 enc Try.prog Try.f8 Rows.fnExactEntryOfRow.domain false) (Rows.fnExactEntryOfSpec.post enc Try.prog Try.f8 false true false false) := by
  refine law_lifted (fn := Try.f8) started H enc (by kernel_rfl) Try.func8 (by kernel_rfl) rfl Try.underlying4 (isLaw3 rfl fun _ _ _ _ => rfl)
    (ChangeSpec.witness6 (enc := enc) (C := Try.checked) false ⟨#[], #[.agg #[.slice none 0 0, .slice none 0 0], .string ByteArray.empty, .string ByteArray.empty], []⟩ 8 (by kernel_rfl) (by kernel_rfl) (by kernel_rfl) (by kernel_rfl)) ?_
  intro W base args ds ps hval hA _
  rw [Try.params8] at hA hval
  obtain ⟨v0, vs0, d0, ds0, p0, q0, hargs, rfl, rfl, h0, r0⟩ := trodAll_cons hA
  obtain ⟨v1, vs1, d1, ds1, p1, q1, rfl, rfl, rfl, h1, r1⟩ := trodAll_cons r0
  obtain ⟨v2, vs2, d2, ds2, p2, q2, rfl, rfl, rfl, h2, r2⟩ := trodAll_cons r1
  obtain ⟨rfl, rfl, rfl⟩ := trodAll_nil r2
  obtain rfl : args = #[v0, v1, v2] := by cases args; simp_all
  obtain ⟨x0, y0, z0, u0, m0, rfl, rfl, rfl, hx0, hy0⟩ := open_agg2 Try.underlying63 (by kernel_rfl) (by kernel_rfl) (hval 0 63 v0 rfl rfl) h0
  obtain ⟨a0, s0, k0⟩ := sl_nameds hx0
  obtain ⟨A0, c0, rfl, _, _⟩ := s0.form
  obtain ⟨b0, t0, g0⟩ := sl_tables hy0
  obtain ⟨B0, d0, rfl, _, _⟩ := t0.form
  obtain ⟨a1, rfl, rfl, rfl, g1⟩ := open_string Try.underlying9 (hval 1 9 v1 rfl rfl) h1
  unfold maxLen at g1
  obtain ⟨a2, rfl, rfl, rfl, g2⟩ := open_string Try.underlying9 (hval 2 9 v2 rfl rfl) h2
  unfold maxLen at g2
  exact entryOf_law W A0 c0 a0 B0 d0 b0 s0 t0 (fun t ht => (g0 t ht).2) k0 (fun t ht => (g0 t ht).1) a1 g1 a2 g2

theorem entryOf_holds : Rows.FnExactEntryOfSaid :=
  OpenClaim.holds_of_wide 8 Try.f8 rfl rfl rfl rfl rfl rfl rfl ⟨rfl, rfl, rfl, rfl, rfl⟩ rfl rfl rfl rfl rfl (by kernel_rfl) Try.func8 (by kernel_rfl)
    (of_decide_eq_true (by kernel_rfl)) (by unfold Func.isWrapper; first | (rw [if_pos (by decide +kernel)]; kernel_rfl) | (rw [if_neg (by decide +kernel)]; exact ⟨rfl, rfl⟩))
    (fun os started H enc _ => entryOf_lifted os started H enc)
#print axioms entryOf_holds
end Go.Proofs.Ytfnnbjkjfoiboaa
