/- FnExactLinesOf: for all arguments the law returns true (its sentence: the program's LinesOf is as the document's reference has it). Conditions: the library's three tables stand as their own initialisers lay them, which the card ties to the program's text. -/
import Derived.Test.YtkhioiehcaaejaaDoorURow
import Derived.Test.YtkhioiehcaaejaaDoorLawL
import Derived.Test.YtkhioiehcaaejaaDoorMLinesOf
import Derived.Test.YtkhioiehcaaejaaDoorTie
import Derived.Test.YtkhioiehcaaejaaDoorCards
import Derived.SevenTiedAt
namespace Go.Proofs.YtkhioiehcaaejaaDoor
open Go.ChangeShapes Go.WideShapes Go.ChangeAt Go.RowKit Go.Joins
open Go.ChangeMaps (open_string)

def types_linesOf : List TypeId := [43, 41, 163, 161, 23, 3, 40, 9, 39, 159]
theorem closed_linesOf : ∀ t ∈ types_linesOf, closedAt Tryd.prog types_linesOf t = true := List.all_eq_true.1 (by kernel_rfl)
set_option maxRecDepth 100000 in
theorem linesOf_lifted (os : Os) (started : os.Started) (H : Type) (enc : TypeId × Value → H) :
    ReturnsInHanded {} Tryd.checked os 5 .any (fun w args => (Rows.fnExactLinesOfSpec.pre enc Tryd.prog Tryd.f5 [] false w args ∧ laidMetH Tryd.prog laidL w) ∧ sizedMet enc Tryd.prog Tryd.f5 (OpenSpec.ofChange Rows.fnExactLinesOfSpec) false w args) (Rows.fnExactLinesOfSpec.post enc Tryd.prog Tryd.f5 false true false false) := by
  refine law_lifted_laid (fn := Tryd.f5) started H enc (by kernel_rfl) Tryd.func5 (by kernel_rfl) rfl Tryd.underlying4 (isLaw2 rfl fun _ _ _ => rfl)
    #[.agg #[.slice none 0 0, .slice none 0 0, .int .i64 0, .int .i64 0, .slice none 0 0], .int .i64 0] (by kernel_rfl) (by kernel_rfl) (by kernel_rfl) ?_
  intro W base args ds ps gw hval hA _
  rw [Tryd.params5] at hA hval
  obtain ⟨v0, vs0, d0, ds0, p0, q0, hargs, rfl, rfl, h0, r0⟩ := trodAll_cons hA
  obtain ⟨v1, vs1, d1, ds1, p1, q1, rfl, rfl, rfl, h1, r1⟩ := trodAll_cons r0
  obtain ⟨rfl, rfl, rfl⟩ := trodAll_nil r1
  obtain rfl : args = #[v0, v1] := by cases args; simp_all
  obtain ⟨e0, rfl, t0, n0⟩ := open_struct closed_linesOf (by decide) Tryd.underlying43 (hval 0 43 v0 rfl rfl) h0
  obtain ⟨a1, rfl, rfl, rfl, g1⟩ := open_int Tryd.underlying3 (hval 1 3 v1 rfl rfl) h1
  exact linesOf_law W t0 n0 a1 g1 gw

theorem linesOf_row : Rows.FnExactLinesOfSaid :=
  OpenClaim.holds_of_wide 5 Tryd.f5 rfl rfl rfl rfl rfl rfl rfl ⟨rfl, rfl, rfl, rfl, rfl⟩ rfl rfl rfl rfl rfl (by kernel_rfl) Tryd.func5 (by kernel_rfl)
    (of_decide_eq_true (by kernel_rfl)) (by unfold Func.isWrapper; first | (rw [if_pos (by decide +kernel)]; kernel_rfl) | (rw [if_neg (by decide +kernel)]; exact ⟨rfl, rfl⟩))
    (fun os started H enc _ => linesOf_lifted os started H enc)
theorem linesOf_holds : Rows.FnExactLinesOfCardSaid :=
  Claim7.holds_tied_plain_at .later [] [.data, .data, .data] true (true, "ece89c24e6271392544bb32dc906ff951d15201f8c2f6e997e8b5b2f74f6a275") false
    linesOf_row (fun _ h => by cases h) (by kernel_rfl) (fun _ h => by cases h) fnExactLinesOf_row_tie rfl ⟨rfl, rfl⟩ (by kernel_rfl) rfl
    (fun f fn hf hfn => by
      obtain rfl : f = 5 := Option.some.inj ((show Tryd.prog.funcNamed "loop.example/g00288/laws.FnExactLinesOf" = some 5 by kernel_rfl).symm.trans hf) |>.symm
      obtain rfl : fn = Tryd.f5 := (Option.some.inj (Tryd.func5.symm.trans hfn)).symm
      exact ⟨by kernel_rfl, fun j t ht => by
        rw [Tryd.params5] at ht
        have hm : t ∈ [43, 3] := by simpa using Array.mem_of_getElem? ht
        have hall : ([43, 3].all fun u => !Tryd.prog.wantsStandIn u) = true := by kernel_rfl
        exact (show Tryd.prog.wantsStandIn t = false by simpa using List.all_eq_true.1 hall t hm)⟩)
    (by kernel_rfl)
#print axioms linesOf_holds
end Go.Proofs.YtkhioiehcaaejaaDoor
