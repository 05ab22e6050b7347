/- FnLex: for all arguments the law returns true (its sentence: of a drawn text all tokens are right, and are read again of their own text; where there is none nothing is told). Conditions: the library's three tables stand as their own initialisers lay them, which the card ties to the program's text. -/
import Derived.Test.YtnlgmojciplnoaaDoorTie
import Derived.Test.YtnlgmojciplnoaaDoorCards
import Derived.SevenTiedAt
import Derived.Test.YtnlgmojciplnoaaDoorFlxPAB
namespace Go.Proofs.YtnlgmojciplnoaaDoor
open Go.ChangeShapes Go.WideShapes Go.ChangeAt Go.RowKit Go.Joins
open Go.ChangeMaps (open_string)
set_option maxRecDepth 100000 in
theorem zt11 (os : Os) (started : os.Started) (H : Type) (enc : TypeId × Value → H) :
    ReturnsInHanded {} Tryd.checked os 5 .any (fun w args => (Rows.fnLexSpec.pre enc Tryd.prog Tryd.f5 [] false w args ∧ laidMetH Tryd.prog laidL w) ∧ sizedMet enc Tryd.prog Tryd.f5 (OpenSpec.ofChange Rows.fnLexSpec) false w args) (Rows.fnLexSpec.post enc Tryd.prog Tryd.f5 false true false false) := by
  refine zl8 (fn := Tryd.f5) started H enc (by kernel_rfl) Tryd.func5 (by kernel_rfl) rfl Tryd.underlying4 (zt22 rfl fun _ _ => rfl)
    #[.slice none 0 0] (by kernel_rfl) (by kernel_rfl) (by kernel_rfl) ?_
  intro W base args ds ps gw hval hA _
  rw [Tryd.params5] at hA hval
  obtain ⟨v0, vs0, d0, ds0, p0, q0, hargs, rfl, rfl, h0, r0⟩ := trodAll_cons hA
  obtain ⟨rfl, rfl, rfl⟩ := trodAll_nil r0
  obtain rfl : args = #[v0] := by cases args; simp_all
  obtain ⟨A0, l0, c0, rfl⟩ := okWide_slice Tryd.underlying22 (hval 0 22 v0 rfl rfl)
  obtain ⟨fu0, hf0⟩ := h0
  obtain ⟨a0, s0, _⟩ := zb18 Tryd.underlying22 Tryd.underlying5 (by kernel_rfl) (v := .slice A0 l0 c0) hf0
  obtain rfl := s0.len_eq
  exact zy17 (zs22 s0.len_le) s0 gw
theorem zz17 : Rows.FnLexSaid :=
  OpenClaim.holds_of_wide 5 Tryd.f5 rfl rfl rfl rfl rfl rfl rfl ⟨rfl, rfl, rfl, rfl, rfl⟩ rfl rfl rfl rfl rfl (by kernel_rfl) Tryd.func5 (by kernel_rfl)
    (of_decide_eq_true (by kernel_rfl)) (by unfold Func.isWrapper; first | (rw [if_pos (by decide +kernel)]; kernel_rfl) | (rw [if_neg (by decide +kernel)]; exact ⟨rfl, rfl⟩))
    (fun os started H enc _ => zt11 os started H enc)
theorem fnLex_holds : Rows.FnLexCardSaid :=
  Claim7.holds_tied_plain_at .later [] [.data, .data, .data, .sentinel, .sentinel] true (true, "dcfee7ae3f49e49709b6a8e6aea217711adefcebe9dff5bc2200de6c9ea9bab3") true
    zz17 (fun _ h => by cases h) (by kernel_rfl) (fun _ h => by cases h) fnLex_row_tie rfl ⟨rfl, rfl⟩ (by kernel_rfl) rfl
    (fun f fn hf hfn => by
      obtain rfl : f = 5 := Option.some.inj ((show Tryd.prog.funcNamed "loop.example/g00288/laws.FnLex" = some 5 by kernel_rfl).symm.trans hf) |>.symm
      obtain rfl : fn = Tryd.f5 := (Option.some.inj (Tryd.func5.symm.trans hfn)).symm
      exact ⟨by kernel_rfl, fun j t ht => by
        rw [Tryd.params5] at ht
        have hm : t ∈ [22] := by simpa using Array.mem_of_getElem? ht
        have hall : ([22].all fun u => !Tryd.prog.wantsStandIn u) = true := by kernel_rfl
        exact (show Tryd.prog.wantsStandIn t = false by simpa using List.all_eq_true.1 hall t hm)⟩)
    (by kernel_rfl)
#print axioms fnLex_holds
end Go.Proofs.YtnlgmojciplnoaaDoor
