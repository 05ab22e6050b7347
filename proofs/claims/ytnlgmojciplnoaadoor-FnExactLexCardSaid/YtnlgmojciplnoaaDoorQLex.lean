/- FnExactLex: for all arguments the law returns true (its sentence: the program's Lex is as the document's reference has it). Conditions: the library's three tables stand as their own initialisers lay them, which the card ties to the program's text. -/
import Derived.Test.YtnlgmojciplnoaaDoorTie
import Derived.Test.YtnlgmojciplnoaaDoorCards
import Derived.SevenTiedAt
import Derived.Test.YtnlgmojciplnoaaDoorLexPW
namespace Go.Proofs.YtnlgmojciplnoaaDoor
open Go.ChangeShapes Go.WideShapes Go.ChangeAt Go.RowKit Go.Joins
open Go.ChangeMaps (open_string)
def types_lex : List TypeId := []
theorem zs19 : ∀ t ∈ types_lex, closedAt Tryd.prog types_lex t = true := List.all_eq_true.1 (by kernel_rfl)
set_option maxRecDepth 100000 in
theorem zj12 (os : Os) (started : os.Started) (H : Type) (enc : TypeId × Value → H) :
    ReturnsInHanded {} Tryd.checked os 4 .any (fun w args => (Rows.fnExactLexSpec.pre enc Tryd.prog Tryd.f4 [] false w args ∧ laidMetH Tryd.prog laidL w) ∧ sizedMet enc Tryd.prog Tryd.f4 (OpenSpec.ofChange Rows.fnExactLexSpec) false w args) (Rows.fnExactLexSpec.post enc Tryd.prog Tryd.f4 false true false false) := by
  refine zp6 (fn := Tryd.f4) started H enc (by kernel_rfl) Tryd.func4 (by kernel_rfl) rfl Tryd.underlying4 (zu19 rfl fun _ _ => rfl)
    #[.string ByteArray.empty] (by kernel_rfl) (by kernel_rfl) (by kernel_rfl) ?_
  intro W base args ds ps gw hval hA _
  rw [Tryd.params4] at hA hval
  obtain ⟨v0, vs0, d0, ds0, p0, q0, hargs, rfl, rfl, h0, r0⟩ := trodAll_cons hA
  obtain ⟨rfl, rfl, rfl⟩ := trodAll_nil r0
  obtain rfl : args = #[v0] := by cases args; simp_all
  obtain ⟨a0, rfl, rfl, rfl, g0⟩ := open_string Tryd.underlying9 (hval 0 9 v0 rfl rfl) h0
  unfold maxLen at g0
  exact zq19 W a0 g0 gw
theorem zr19 : Rows.FnExactLexSaid :=
  OpenClaim.holds_of_wide 4 Tryd.f4 rfl rfl rfl rfl rfl rfl rfl ⟨rfl, rfl, rfl, rfl, rfl⟩ rfl rfl rfl rfl rfl (by kernel_rfl) Tryd.func4 (by kernel_rfl)
    (of_decide_eq_true (by kernel_rfl)) (by unfold Func.isWrapper; first | (rw [if_pos (by decide +kernel)]; kernel_rfl) | (rw [if_neg (by decide +kernel)]; exact ⟨rfl, rfl⟩))
    (fun os started H enc _ => zj12 os started H enc)
theorem lex_holds : Rows.FnExactLexCardSaid :=
  Claim7.holds_tied_plain_at .later [] [.data, .data, .data, .sentinel, .sentinel] true (true, "dcfee7ae3f49e49709b6a8e6aea217711adefcebe9dff5bc2200de6c9ea9bab3") true
    zr19 (fun _ h => by cases h) (by kernel_rfl) (fun _ h => by cases h) fnExactLex_row_tie rfl ⟨rfl, rfl⟩ (by kernel_rfl) rfl
    (fun f fn hf hfn => by
      obtain rfl : f = 4 := Option.some.inj ((show Tryd.prog.funcNamed "loop.example/g00288/laws.FnExactLex" = some 4 by kernel_rfl).symm.trans hf) |>.symm
      obtain rfl : fn = Tryd.f4 := (Option.some.inj (Tryd.func4.symm.trans hfn)).symm
      exact ⟨by kernel_rfl, fun j t ht => by
        rw [Tryd.params4] at ht
        have hm : t ∈ [9] := by simpa using Array.mem_of_getElem? ht
        have hall : ([9].all fun u => !Tryd.prog.wantsStandIn u) = true := by kernel_rfl
        exact (show Tryd.prog.wantsStandIn t = false by simpa using List.all_eq_true.1 hall t hm)⟩)
    (by kernel_rfl)
#print axioms lex_holds
end Go.Proofs.YtnlgmojciplnoaaDoor
