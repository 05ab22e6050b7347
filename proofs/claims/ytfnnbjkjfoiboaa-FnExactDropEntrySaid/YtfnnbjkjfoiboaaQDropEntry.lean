/- FnExactDropEntry: for all arguments the law returns true (its sentence: the program's DropEntry is as the document's reference has it). No condition. -/
import Derived.Test.YtfnnbjkjfoiboaaURow
import Derived.Test.YtfnnbjkjfoiboaaMDropEntry
namespace Go.Proofs.Ytfnnbjkjfoiboaa
open Go.ChangeShapes Go.WideShapes Go.ChangeAt Go.RowKit Go.Joins
open Go.ChangeMaps (open_string)

def types_dropEntry : List TypeId := [63, 61, 176, 174, 203, 26, 9, 3, 60, 172]
theorem closed_dropEntry : ∀ t ∈ types_dropEntry, closedAt Try.prog types_dropEntry t = true := List.all_eq_true.1 (by kernel_rfl)
set_option maxRecDepth 100000 in
theorem dropEntry_lifted (os : Os) (started : os.Started) (H : Type) (enc : TypeId × Value → H) :
    ReturnsInHanded {} Try.checked os 12 .any (Rows.fnExactDropEntrySpec.pre6 enc Try.prog Try.f12 Rows.fnExactDropEntryRow.domain false) (Rows.fnExactDropEntrySpec.post enc Try.prog Try.f12 false true false false) := by
  refine law_lifted (fn := Try.f12) started H enc (by kernel_rfl) Try.func12 (by kernel_rfl) rfl Try.underlying4 (isLaw3 rfl fun _ _ _ _ => rfl)
    (ChangeSpec.witness6 (enc := enc) (C := Try.checked) false ⟨#[], #[.agg #[.slice none 0 0, .slice none 0 0], .string ByteArray.empty, .string ByteArray.empty], []⟩ 8 (by kernel_rfl) (by kernel_rfl) (by kernel_rfl) (by kernel_rfl)) ?_
  intro W base args ds ps hval hA _
  rw [Try.params12] at hA hval
  obtain ⟨v0, vs0, d0, ds0, p0, q0, hargs, rfl, rfl, h0, r0⟩ := trodAll_cons hA
  obtain ⟨v1, vs1, d1, ds1, p1, q1, rfl, rfl, rfl, h1, r1⟩ := trodAll_cons r0
  obtain ⟨v2, vs2, d2, ds2, p2, q2, rfl, rfl, rfl, h2, r2⟩ := trodAll_cons r1
  obtain ⟨rfl, rfl, rfl⟩ := trodAll_nil r2
  obtain rfl : args = #[v0, v1, v2] := by cases args; simp_all
  obtain ⟨e0, rfl, t0, n0⟩ := open_struct closed_dropEntry (by decide) Try.underlying63 (hval 0 63 v0 rfl rfl) h0
  obtain ⟨a1, rfl, rfl, rfl, g1⟩ := open_string Try.underlying9 (hval 1 9 v1 rfl rfl) h1
  unfold maxLen at g1
  obtain ⟨a2, rfl, rfl, rfl, g2⟩ := open_string Try.underlying9 (hval 2 9 v2 rfl rfl) h2
  unfold maxLen at g2
  exact dropEntry_law W t0 n0 a1 g1 a2 g2

theorem dropEntry_holds : Rows.FnExactDropEntrySaid :=
  OpenClaim.holds_of_wide 12 Try.f12 rfl rfl rfl rfl rfl rfl rfl ⟨rfl, rfl, rfl, rfl, rfl⟩ rfl rfl rfl rfl rfl (by kernel_rfl) Try.func12 (by kernel_rfl)
    (of_decide_eq_true (by kernel_rfl)) (by unfold Func.isWrapper; first | (rw [if_pos (by decide +kernel)]; kernel_rfl) | (rw [if_neg (by decide +kernel)]; exact ⟨rfl, rfl⟩))
    (fun os started H enc _ => dropEntry_lifted os started H enc)
#print axioms dropEntry_holds
end Go.Proofs.Ytfnnbjkjfoiboaa
