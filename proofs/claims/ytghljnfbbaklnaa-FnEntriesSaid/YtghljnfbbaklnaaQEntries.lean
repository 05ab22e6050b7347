/- FnEntries: for all arguments the law returns true (its sentence: the program's FnEntries is as the document's reference has it). No condition. -/
import Derived.Test.YtghljnfbbaklnaaEntriesW
namespace Go.Proofs.Ytghljnfbbaklnaa
open Go.ChangeShapes Go.WideShapes Go.ChangeAt Go.RowKit Go.Joins
open Go.ChangeMaps (open_string)
set_option maxRecDepth 100000 in
theorem zs8 (os : Os) (started : os.Started) (H : Type) (enc : TypeId × Value → H) :
    ReturnsInHanded {} Try.checked os 5 .any (Rows.fnEntriesSpec.pre6 enc Try.prog Try.f5 Rows.fnEntriesRow.domain false) (Rows.fnEntriesSpec.post enc Try.prog Try.f5 false true false false) := by
  refine zz12 (fn := Try.f5) started H enc (by kernel_rfl) Try.func5 (by kernel_rfl) rfl Try.underlying4 (zu20 rfl fun _ _ => rfl)
    (ChangeSpec.witness6 (enc := enc) (C := Try.checked) false ⟨#[], #[.slice none 0 0], []⟩ 8 (by kernel_rfl) (by kernel_rfl) (by kernel_rfl) (by kernel_rfl)) ?_
  intro W base args ds ps hval hA _
  rw [Try.params5] at hA hval
  obtain ⟨v0, vs0, d0, ds0, p0, q0, hargs, rfl, rfl, h0, r0⟩ := trodAll_cons hA
  obtain ⟨rfl, rfl, rfl⟩ := trodAll_nil r0
  obtain rfl : args = #[v0] := by cases args; simp_all
  obtain ⟨A0, l0, c0, rfl⟩ := okWide_slice Try.underlying22 (hval 0 22 v0 rfl rfl)
  obtain ⟨fu0, hf0⟩ := h0
  obtain ⟨a0, s0, _⟩ := zz16 Try.underlying22 Try.underlying5 (by kernel_rfl) (v := .slice A0 l0 c0) hf0
  obtain rfl := s0.len_eq
  exact zx16 (zw16 s0.len_le) s0
theorem entries_holds : Rows.FnEntriesSaid :=
  OpenClaim.holds_of_wide 5 Try.f5 rfl rfl rfl rfl rfl rfl rfl ⟨rfl, rfl, rfl, rfl, rfl⟩ rfl rfl rfl rfl rfl (by kernel_rfl) Try.func5 (by kernel_rfl)
    (of_decide_eq_true (by kernel_rfl)) (by unfold Func.isWrapper; first | (rw [if_pos (by decide +kernel)]; kernel_rfl) | (rw [if_neg (by decide +kernel)]; exact ⟨rfl, rfl⟩))
    (fun os started H enc _ => zs8 os started H enc)
#print axioms entries_holds
end Go.Proofs.Ytghljnfbbaklnaa
