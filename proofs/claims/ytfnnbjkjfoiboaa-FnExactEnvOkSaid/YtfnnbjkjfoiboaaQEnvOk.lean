/- FnExactEnvOk: for all arguments the law returns true (its sentence: the program's EnvOk is as the document's reference has it). No condition. -/
import Derived.Test.YtfnnbjkjfoiboaaURow
import Derived.Test.YtfnnbjkjfoiboaaMEnvOk
namespace Go.Proofs.Ytfnnbjkjfoiboaa
open Go.ChangeShapes Go.WideShapes Go.ChangeAt Go.RowKit Go.Joins
open Go.ChangeMaps (open_string)

def types_envOk : List TypeId := [63, 61, 176, 174, 203, 26, 9, 3, 60, 172]
theorem closed_envOk : ∀ t ∈ types_envOk, closedAt Try.prog types_envOk t = true := List.all_eq_true.1 (by kernel_rfl)
set_option maxRecDepth 100000 in
theorem envOk_lifted (os : Os) (started : os.Started) (H : Type) (enc : TypeId × Value → H) :
    ReturnsInHanded {} Try.checked os 9 .any (Rows.fnExactEnvOkSpec.pre6 enc Try.prog Try.f9 Rows.fnExactEnvOkRow.domain false) (Rows.fnExactEnvOkSpec.post enc Try.prog Try.f9 false true false false) := by
  refine law_lifted (fn := Try.f9) started H enc (by kernel_rfl) Try.func9 (by kernel_rfl) rfl Try.underlying4 (isLaw1 rfl fun _ _ => rfl)
    (ChangeSpec.witness6 (enc := enc) (C := Try.checked) false ⟨#[], #[.agg #[.slice none 0 0, .slice none 0 0]], []⟩ 8 (by kernel_rfl) (by kernel_rfl) (by kernel_rfl) (by kernel_rfl)) ?_
  intro W base args ds ps hval hA _
  rw [Try.params9] at hA hval
  obtain ⟨v0, vs0, d0, ds0, p0, q0, hargs, rfl, rfl, h0, r0⟩ := trodAll_cons hA
  obtain ⟨rfl, rfl, rfl⟩ := trodAll_nil r0
  obtain rfl : args = #[v0] := by cases args; simp_all
  obtain ⟨e0, rfl, t0, n0⟩ := open_struct closed_envOk (by decide) Try.underlying63 (hval 0 63 v0 rfl rfl) h0
  exact envOk_law W t0 n0

theorem envOk_holds : Rows.FnExactEnvOkSaid :=
  OpenClaim.holds_of_wide 9 Try.f9 rfl rfl rfl rfl rfl rfl rfl ⟨rfl, rfl, rfl, rfl, rfl⟩ rfl rfl rfl rfl rfl (by kernel_rfl) Try.func9 (by kernel_rfl)
    (of_decide_eq_true (by kernel_rfl)) (by unfold Func.isWrapper; first | (rw [if_pos (by decide +kernel)]; kernel_rfl) | (rw [if_neg (by decide +kernel)]; exact ⟨rfl, rfl⟩))
    (fun os started H enc _ => envOk_lifted os started H enc)
#print axioms envOk_holds
end Go.Proofs.Ytfnnbjkjfoiboaa
