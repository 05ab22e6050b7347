/- FnExactInsText: for all arguments the law returns true (its sentence: the program's InsText is as the document's reference has it). Conditions: the library's three tables stand as their own initialisers lay them, which the card ties to the program's text. -/
import Derived.Test.YtkhioiehcaaejaaDoorURow
import Derived.Test.YtkhioiehcaaejaaDoorLawL
import Derived.Test.YtkhioiehcaaejaaDoorMInsText
import Derived.Test.YtkhioiehcaaejaaDoorTie
import Derived.Test.YtkhioiehcaaejaaDoorCards
import Derived.SevenTiedAt
namespace Go.Proofs.YtkhioiehcaaejaaDoor
open Go.ChangeShapes Go.WideShapes Go.ChangeAt Go.RowKit Go.Joins
open Go.ChangeMaps (open_string)

def types_insText : List TypeId := [23, 3]
theorem closed_insText : ∀ t ∈ types_insText, closedAt Tryd.prog types_insText t = true := List.all_eq_true.1 (by kernel_rfl)
set_option maxRecDepth 100000 in
theorem insText_lifted (os : Os) (started : os.Started) (H : Type) (enc : TypeId × Value → H) :
    ReturnsInHanded {} Tryd.checked os 3 .any (fun w args => (Rows.fnExactInsTextSpec.pre enc Tryd.prog Tryd.f3 [] false w args ∧ laidMetH Tryd.prog laidL w) ∧ sizedMet enc Tryd.prog Tryd.f3 (OpenSpec.ofChange Rows.fnExactInsTextSpec) false w args) (Rows.fnExactInsTextSpec.post enc Tryd.prog Tryd.f3 false true false false) := by
  refine law_lifted_laid (fn := Tryd.f3) started H enc (by kernel_rfl) Tryd.func3 (by kernel_rfl) rfl Tryd.underlying4 (isLaw1 rfl fun _ _ => rfl)
    #[.agg #[.int .i64 0, .int .i64 0]] (by kernel_rfl) (by kernel_rfl) (by kernel_rfl) ?_
  intro W base args ds ps gw hval hA _
  rw [Tryd.params3] at hA hval
  obtain ⟨v0, vs0, d0, ds0, p0, q0, hargs, rfl, rfl, h0, r0⟩ := trodAll_cons hA
  obtain ⟨rfl, rfl, rfl⟩ := trodAll_nil r0
  obtain rfl : args = #[v0] := by cases args; simp_all
  obtain ⟨e0, rfl, t0, n0⟩ := open_struct closed_insText (by decide) Tryd.underlying23 (hval 0 23 v0 rfl rfl) h0
  exact insText_law W t0 n0 gw

theorem insText_row : Rows.FnExactInsTextSaid :=
  OpenClaim.holds_of_wide 3 Tryd.f3 rfl rfl rfl rfl rfl rfl rfl ⟨rfl, rfl, rfl, rfl, rfl⟩ rfl rfl rfl rfl rfl (by kernel_rfl) Tryd.func3 (by kernel_rfl)
    (of_decide_eq_true (by kernel_rfl)) (by unfold Func.isWrapper; first | (rw [if_pos (by decide +kernel)]; kernel_rfl) | (rw [if_neg (by decide +kernel)]; exact ⟨rfl, rfl⟩))
    (fun os started H enc _ => insText_lifted os started H enc)
theorem insText_holds : Rows.FnExactInsTextCardSaid :=
  Claim7.holds_tied_plain_at .later [] [.data, .data, .data] true (true, "ece89c24e6271392544bb32dc906ff951d15201f8c2f6e997e8b5b2f74f6a275") false
    insText_row (fun _ h => by cases h) (by kernel_rfl) (fun _ h => by cases h) fnExactInsText_row_tie rfl ⟨rfl, rfl⟩ (by kernel_rfl) rfl
    (fun f fn hf hfn => by
      obtain rfl : f = 3 := Option.some.inj ((show Tryd.prog.funcNamed "loop.example/g00288/laws.FnExactInsText" = some 3 by kernel_rfl).symm.trans hf) |>.symm
      obtain rfl : fn = Tryd.f3 := (Option.some.inj (Tryd.func3.symm.trans hfn)).symm
      exact ⟨by kernel_rfl, fun j t ht => by
        rw [Tryd.params3] at ht
        have hm : t ∈ [23] := by simpa using Array.mem_of_getElem? ht
        have hall : ([23].all fun u => !Tryd.prog.wantsStandIn u) = true := by kernel_rfl
        exact (show Tryd.prog.wantsStandIn t = false by simpa using List.all_eq_true.1 hall t hm)⟩)
    (by kernel_rfl)
#print axioms insText_holds
end Go.Proofs.YtkhioiehcaaejaaDoor
