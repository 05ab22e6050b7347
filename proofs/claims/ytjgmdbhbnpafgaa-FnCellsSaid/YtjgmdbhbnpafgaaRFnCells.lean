/- FnCells: for all arguments the law returns true (its sentence: the program's FnCells is as the document's reference has it). No condition. -/
import Derived.Test.YtjgmdbhbnpafgaaOpen
import Derived.Test.YtjgmdbhbnpafgaaLFnCells
namespace Go.Proofs.Ytjgmdbhbnpafgaa
open Go.ChangeShapes Go.WideShapes Go.ChangeAt Go.RowKit Go.Joins
open Go.ChangeMaps (open_string)

set_option maxRecDepth 100000 in
theorem cells_lifted (os : Os) (started : os.Started) (H : Type) (enc : TypeId × Value → H) :
    ReturnsInHanded {} Try.checked os 12 .any (Rows.fnCellsSpec.pre6 enc Try.prog Try.f12 Rows.fnCellsRow.domain false) (Rows.fnCellsSpec.post enc Try.prog Try.f12 false true false false) := by
  refine law_lifted (fn := Try.f12) started H enc (by kernel_rfl) Try.func12 (by kernel_rfl) rfl Try.underlying4 (isLaw1 rfl fun _ _ => rfl)
    (ChangeSpec.witness6 (enc := enc) (C := Try.checked) false ⟨#[], #[.slice none 0 0], []⟩ 8 (by kernel_rfl) (by kernel_rfl) (by kernel_rfl) (by kernel_rfl)) ?_
  intro W base args ds ps hval hA _
  rw [Try.params12] at hA hval
  obtain ⟨v0, vs0, d0, ds0, p0, q0, hargs, rfl, rfl, h0, r0⟩ := trodAll_cons hA
  obtain ⟨rfl, rfl, rfl⟩ := trodAll_nil r0
  obtain rfl : args = #[v0] := by cases args; simp_all
  obtain ⟨A0, l0, c0, rfl⟩ := okWide_slice Try.underlying39 (hval 0 39 v0 rfl rfl)
  obtain ⟨fu0, hf0⟩ := h0
  obtain ⟨a0, s0, _⟩ := sl_bytes Try.underlying39 Try.underlying5 (by kernel_rfl) (v := .slice A0 l0 c0) hf0
  obtain rfl := s0.len_eq
  exact cells_law W A0 c0 a0 s0

theorem cells_holds : Rows.FnCellsSaid :=
  OpenClaim.holds_of_wide 12 Try.f12 rfl rfl rfl rfl rfl rfl rfl ⟨rfl, rfl, rfl, rfl, rfl⟩ rfl rfl rfl rfl rfl (by kernel_rfl) Try.func12 (by kernel_rfl)
    (of_decide_eq_true (by kernel_rfl)) (by unfold Func.isWrapper; first | (rw [if_pos (by decide +kernel)]; kernel_rfl) | (rw [if_neg (by decide +kernel)]; exact ⟨rfl, rfl⟩))
    (fun os started H enc _ => cells_lifted os started H enc)
#print axioms cells_holds
end Go.Proofs.Ytjgmdbhbnpafgaa
