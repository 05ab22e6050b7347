/- FnExactOutcome: for all arguments the law returns true (its sentence: the program's Outcome is as the document's reference has it). Conditions: the library's three tables stand as their own initialisers lay them, which the card ties to the program's text. -/
import Derived.Test.YtkhioiehcaaejaaDoorURow
import Derived.Test.YtkhioiehcaaejaaDoorLawL
import Derived.Test.YtkhioiehcaaejaaDoorMOutcome
import Derived.Test.YtkhioiehcaaejaaDoorTie
import Derived.Test.YtkhioiehcaaejaaDoorCards
import Derived.SevenTiedAt
namespace Go.Proofs.YtkhioiehcaaejaaDoor
open Go.ChangeShapes Go.WideShapes Go.ChangeAt Go.RowKit Go.Joins
open Go.ChangeMaps (open_string)

def types_outcome : List TypeId := [60, 3, 28, 5, 58, 40, 9, 56, 54, 211, 209, 269, 159, 53, 207]
theorem closed_outcome : ∀ t ∈ types_outcome, closedAt Tryd.prog types_outcome t = true := List.all_eq_true.1 (by kernel_rfl)
set_option maxRecDepth 100000 in
theorem outcome_lifted (os : Os) (started : os.Started) (H : Type) (enc : TypeId × Value → H) :
    ReturnsInHanded {} Tryd.checked os 6 .any (fun w args => (Rows.fnExactOutcomeSpec.pre enc Tryd.prog Tryd.f6 [] false w args ∧ laidMetH Tryd.prog laidL w) ∧ sizedMet enc Tryd.prog Tryd.f6 (OpenSpec.ofChange Rows.fnExactOutcomeSpec) false w args) (Rows.fnExactOutcomeSpec.post enc Tryd.prog Tryd.f6 false true false false) := by
  refine law_lifted_laid (fn := Tryd.f6) started H enc (by kernel_rfl) Tryd.func6 (by kernel_rfl) rfl Tryd.underlying4 (isLaw1 rfl fun _ _ => rfl)
    #[.agg #[.slice none 0 0, .slice none 0 0, .string ByteArray.empty, .slice none 0 0, .int .i64 0, .slice none 0 0, .int .i64 0, .int .i64 0, .int .i64 0, .int .i64 0, .int .i64 0]] (by kernel_rfl) (by kernel_rfl) (by kernel_rfl) ?_
  intro W base args ds ps gw hval hA _
  rw [Tryd.params6] at hA hval
  obtain ⟨v0, vs0, d0, ds0, p0, q0, hargs, rfl, rfl, h0, r0⟩ := trodAll_cons hA
  obtain ⟨rfl, rfl, rfl⟩ := trodAll_nil r0
  obtain rfl : args = #[v0] := by cases args; simp_all
  obtain ⟨e0, rfl, t0, n0⟩ := open_struct closed_outcome (by decide) Tryd.underlying60 (hval 0 60 v0 rfl rfl) h0
  exact outcome_law W t0 n0 gw

theorem outcome_row : Rows.FnExactOutcomeSaid :=
  OpenClaim.holds_of_wide 6 Tryd.f6 rfl rfl rfl rfl rfl rfl rfl ⟨rfl, rfl, rfl, rfl, rfl⟩ rfl rfl rfl rfl rfl (by kernel_rfl) Tryd.func6 (by kernel_rfl)
    (of_decide_eq_true (by kernel_rfl)) (by unfold Func.isWrapper; first | (rw [if_pos (by decide +kernel)]; kernel_rfl) | (rw [if_neg (by decide +kernel)]; exact ⟨rfl, rfl⟩))
    (fun os started H enc _ => outcome_lifted os started H enc)
theorem outcome_holds : Rows.FnExactOutcomeCardSaid :=
  Claim7.holds_tied_plain_at .later [] [.data, .data, .data] true (true, "ece89c24e6271392544bb32dc906ff951d15201f8c2f6e997e8b5b2f74f6a275") false
    outcome_row (fun _ h => by cases h) (by kernel_rfl) (fun _ h => by cases h) fnExactOutcome_row_tie rfl ⟨rfl, rfl⟩ (by kernel_rfl) rfl
    (fun f fn hf hfn => by
      obtain rfl : f = 6 := Option.some.inj ((show Tryd.prog.funcNamed "loop.example/g00288/laws.FnExactOutcome" = some 6 by kernel_rfl).symm.trans hf) |>.symm
      obtain rfl : fn = Tryd.f6 := (Option.some.inj (Tryd.func6.symm.trans hfn)).symm
      exact ⟨by kernel_rfl, fun j t ht => by
        rw [Tryd.params6] at ht
        have hm : t ∈ [60] := by simpa using Array.mem_of_getElem? ht
        have hall : ([60].all fun u => !Tryd.prog.wantsStandIn u) = true := by kernel_rfl
        exact (show Tryd.prog.wantsStandIn t = false by simpa using List.all_eq_true.1 hall t hm)⟩)
    (by kernel_rfl)
#print axioms outcome_holds
end Go.Proofs.YtkhioiehcaaejaaDoor
