/- FnExactModuleOk: for all arguments the law returns true (its sentence: the program's ModuleOk is as the document's reference has it). No condition. -/
import Derived.Test.YtghljnfbbaklnaaModuleOkZ
namespace Go.Proofs.Ytghljnfbbaklnaa
open Go.ChangeShapes Go.WideShapes Go.ChangeAt Go.RowKit Go.Joins
open Go.ChangeMaps (open_string)
def types_moduleOk : List TypeId := [61, 59, 138, 136, 171, 3, 55, 9, 58, 134]
theorem zu10 : ∀ t ∈ types_moduleOk, closedAt Try.prog types_moduleOk t = true := List.all_eq_true.1 (by kernel_rfl)
set_option maxRecDepth 100000 in
theorem zv10 (os : Os) (started : os.Started) (H : Type) (enc : TypeId × Value → H) :
    ReturnsInHanded {} Try.checked os 6 .any (Rows.fnExactModuleOkSpec.pre6 enc Try.prog Try.f6 Rows.fnExactModuleOkRow.domain false) (Rows.fnExactModuleOkSpec.post enc Try.prog Try.f6 false true false false) := by
  refine zy16 (fn := Try.f6) started H enc (by kernel_rfl) Try.func6 (by kernel_rfl) rfl Try.underlying4 (isLaw1 rfl fun _ _ => rfl)
    (ChangeSpec.witness6 (enc := enc) (C := Try.checked) false ⟨#[], #[.agg #[.slice none 0 0, .slice none 0 0, .int .i64 0, .int .i64 0, .slice none 0 0]], []⟩ 8 (by kernel_rfl) (by kernel_rfl) (by kernel_rfl) (by kernel_rfl)) ?_
  intro W base args ds ps hval hA _
  rw [Try.params6] at hA hval
  obtain ⟨v0, vs0, d0, ds0, p0, q0, hargs, rfl, rfl, h0, r0⟩ := trodAll_cons hA
  obtain ⟨rfl, rfl, rfl⟩ := trodAll_nil r0
  obtain rfl : args = #[v0] := by cases args; simp_all
  obtain ⟨e0, rfl, t0, n0⟩ := zt14 zu10 (by decide) Try.underlying61 (hval 0 61 v0 rfl rfl) h0
  exact zq14 W t0 n0
theorem moduleOk_holds : Rows.FnExactModuleOkSaid :=
  OpenClaim.holds_of_wide 6 Try.f6 rfl rfl rfl rfl rfl rfl rfl ⟨rfl, rfl, rfl, rfl, rfl⟩ rfl rfl rfl rfl rfl (by kernel_rfl) Try.func6 (by kernel_rfl)
    (of_decide_eq_true (by kernel_rfl)) (by unfold Func.isWrapper; first | (rw [if_pos (by decide +kernel)]; kernel_rfl) | (rw [if_neg (by decide +kernel)]; exact ⟨rfl, rfl⟩))
    (fun os started H enc _ => zv10 os started H enc)
#print axioms moduleOk_holds
end Go.Proofs.Ytghljnfbbaklnaa
