/- FnExactMachOutcome: for all arguments the law returns true (its sentence: the program's MachOutcome is as the document's reference has it). Conditions: the library's ze2 tables stand as their own initialisers lay them, which the card ties to the program's text. -/
import Derived.Test.YtghljnfbbaklnaaDoorTie
import Derived.Test.YtghljnfbbaklnaaDoorCards
import Derived.SevenTiedAt
import Derived.Test.YtghljnfbbaklnaaDoorMachOutcomeS
namespace Go.Proofs.YtghljnfbbaklnaaDoor
open Go.ChangeShapes Go.WideShapes Go.ChangeAt Go.RowKit Go.Joins
open Go.ChangeMaps (open_string)
def types_machOutcome : List TypeId := [33, 4, 3, 31, 5, 30, 28, 9, 27, 83, 81, 130, 25, 80, 141, 79, 137, 26, 77, 75, 127, 24, 22, 106, 104]
theorem zi3 : ∀ t ∈ types_machOutcome, closedAt Tryd.prog types_machOutcome t = true := List.all_eq_true.1 (by kernel_rfl)
set_option maxRecDepth 100000 in
theorem zj3 (os : Os) (started : os.Started) (H : Type) (enc : TypeId × Value → H) :
    ReturnsInHanded {} Tryd.checked os 3 .any (fun w args => (Rows.fnExactMachOutcomeSpec.pre enc Tryd.prog Tryd.f3 [] false w args ∧ laidMetH Tryd.prog laidL w) ∧ sizedMet enc Tryd.prog Tryd.f3 (OpenSpec.ofChange Rows.fnExactMachOutcomeSpec) false w args) (Rows.fnExactMachOutcomeSpec.post enc Tryd.prog Tryd.f3 false true false false) := by
  refine zg4 (fn := Tryd.f3) started H enc (by kernel_rfl) Tryd.func3 (by kernel_rfl) rfl Tryd.underlying4 (zm14 rfl fun _ _ => rfl)
    #[.agg #[.slice none 0 0, .slice none 0 0, .slice none 0 0, .slice none 0 0, .string ByteArray.empty, .slice none 0 0, .int .i64 0, .slice none 0 0, .int .i64 0, .int .i64 0, .int .i64 0, .int .i64 0, .bool false]] (by kernel_rfl) (by kernel_rfl) (by kernel_rfl) ?_
  intro W base args ds ps gw hval hA _
  rw [Tryd.params3] at hA hval
  obtain ⟨v0, vs0, d0, ds0, p0, q0, hargs, rfl, rfl, h0, r0⟩ := trodAll_cons hA
  obtain ⟨rfl, rfl, rfl⟩ := trodAll_nil r0
  obtain rfl : args = #[v0] := by cases args; simp_all
  obtain ⟨e0, rfl, t0, n0⟩ := zl7 zi3 (by decide) Tryd.underlying33 (hval 0 33 v0 rfl rfl) h0
  exact zu4 W t0 n0 gw
theorem zv4 : Rows.FnExactMachOutcomeSaid :=
  OpenClaim.holds_of_wide 3 Tryd.f3 rfl rfl rfl rfl rfl rfl rfl ⟨rfl, rfl, rfl, rfl, rfl⟩ rfl rfl rfl rfl rfl (by kernel_rfl) Tryd.func3 (by kernel_rfl)
    (of_decide_eq_true (by kernel_rfl)) (by unfold Func.isWrapper; first | (rw [if_pos (by decide +kernel)]; kernel_rfl) | (rw [if_neg (by decide +kernel)]; exact ⟨rfl, rfl⟩))
    (fun os started H enc _ => zj3 os started H enc)
theorem machOutcome_holds : Rows.FnExactMachOutcomeCardSaid :=
  Claim7.holds_tied_plain_at .later [] [.data, .data, .data] true (true, "054ff9bb9ea78ac44360be8403f593d32c1552638cdb894bcb77c0fa02119631") false
    zv4 (fun _ h => by cases h) (by kernel_rfl) (fun _ h => by cases h) fnExactMachOutcome_row_tie rfl ⟨rfl, rfl⟩ (by kernel_rfl) rfl
    (fun f fn hf hfn => by
      obtain rfl : f = 3 := Option.some.inj ((show Tryd.prog.funcNamed "loop.example/g00288/laws.FnExactMachOutcome" = some 3 by kernel_rfl).symm.trans hf) |>.symm
      obtain rfl : fn = Tryd.f3 := (Option.some.inj (Tryd.func3.symm.trans hfn)).symm
      exact ⟨by kernel_rfl, fun j t ht => by
        rw [Tryd.params3] at ht
        have hm : t ∈ [33] := by simpa using Array.mem_of_getElem? ht
        have hall : ([33].all fun u => !Tryd.prog.wantsStandIn u) = true := by kernel_rfl
        exact (show Tryd.prog.wantsStandIn t = false by simpa using List.all_eq_true.1 hall t hm)⟩)
    (by kernel_rfl)
#print axioms machOutcome_holds
end Go.Proofs.YtghljnfbbaklnaaDoor
