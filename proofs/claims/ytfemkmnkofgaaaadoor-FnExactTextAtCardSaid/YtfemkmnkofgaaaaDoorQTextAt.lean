/- FnExactTextAt: for all arguments the law returns true (its sentence: the program's TextAt is as the document's reference has it). Conditions: the library's zt2 tables stand as their own initialisers lay them, which the card ties to the program's text. -/
import Derived.Test.YtfemkmnkofgaaaaDoorTie
import Derived.Test.YtfemkmnkofgaaaaDoorCards
import Derived.SevenTiedAt
import Derived.Test.YtfemkmnkofgaaaaDoorTextAtV
namespace Go.Proofs.YtfemkmnkofgaaaaDoor
open Go.ChangeShapes Go.WideShapes Go.ChangeAt Go.RowKit Go.Joins
open Go.ChangeMaps (open_string)
def types_textAt : List TypeId := [58, 4, 3, 22, 5, 56, 54, 9, 53, 158, 156, 215, 51, 155, 222, 154, 60, 52, 152, 150, 212, 50, 48, 184, 182]
theorem zz3 : ∀ t ∈ types_textAt, closedAt Tryd.prog types_textAt t = true := List.all_eq_true.1 (by kernel_rfl)
set_option maxRecDepth 100000 in
theorem zz6 (os : Os) (started : os.Started) (H : Type) (enc : TypeId × Value → H) :
    ReturnsInHanded {} Tryd.checked os 6 .any (fun w args => (Rows.fnExactTextAtSpec.pre enc Tryd.prog Tryd.f6 [] false w args ∧ laidMetH Tryd.prog laidL w) ∧ sizedMet enc Tryd.prog Tryd.f6 (OpenSpec.ofChange Rows.fnExactTextAtSpec) false w args) (Rows.fnExactTextAtSpec.post enc Tryd.prog Tryd.f6 false true false false) := by
  refine zy4 (fn := Tryd.f6) started H enc (by kernel_rfl) Tryd.func6 (by kernel_rfl) rfl Tryd.underlying4 (zc17 rfl fun _ _ _ => rfl)
    #[.agg #[.slice none 0 0, .slice none 0 0, .slice none 0 0, .slice none 0 0, .string ByteArray.empty, .slice none 0 0, .int .i64 0, .slice none 0 0, .int .i64 0, .int .i64 0, .int .i64 0, .int .i64 0, .bool false], .agg #[.bool false, .int .i64 0]] (by kernel_rfl) (by kernel_rfl) (by kernel_rfl) ?_
  intro W base args ds ps gw hval hA _
  rw [Tryd.params6] at hA hval
  obtain ⟨v0, vs0, d0, ds0, p0, q0, hargs, rfl, rfl, h0, r0⟩ := trodAll_cons hA
  obtain ⟨v1, vs1, d1, ds1, p1, q1, rfl, rfl, rfl, h1, r1⟩ := trodAll_cons r0
  obtain ⟨rfl, rfl, rfl⟩ := trodAll_nil r1
  obtain rfl : args = #[v0, v1] := by cases args; simp_all
  obtain ⟨e0, rfl, t0, n0⟩ := zx4 zz3 (by decide) Tryd.underlying58 (hval 0 58 v0 rfl rfl) h0
  obtain ⟨e1, rfl, t1, n1⟩ := zx4 zz3 (by decide) Tryd.underlying60 (hval 1 60 v1 rfl rfl) h1
  exact zv11 W t0 n0 t1 n1 gw
theorem zw11 : Rows.FnExactTextAtSaid :=
  OpenClaim.holds_of_wide 6 Tryd.f6 rfl rfl rfl rfl rfl rfl rfl ⟨rfl, rfl, rfl, rfl, rfl⟩ rfl rfl rfl rfl rfl (by kernel_rfl) Tryd.func6 (by kernel_rfl)
    (of_decide_eq_true (by kernel_rfl)) (by unfold Func.isWrapper; first | (rw [if_pos (by decide +kernel)]; kernel_rfl) | (rw [if_neg (by decide +kernel)]; exact ⟨rfl, rfl⟩))
    (fun os started H enc _ => zz6 os started H enc)
theorem textAt_holds : Rows.FnExactTextAtCardSaid :=
  Claim7.holds_tied_plain_at .later [] [.data, .data, .data] true (true, "16f5ca7a09163505d8b854dd969d887836f49d3e5e48d7013fbb0b3447b1f2ac") true
    zw11 (fun _ h => by cases h) (by kernel_rfl) (fun _ h => by cases h) fnExactTextAt_row_tie rfl ⟨rfl, rfl⟩ (by kernel_rfl) rfl
    (fun f fn hf hfn => by
      obtain rfl : f = 6 := Option.some.inj ((show Tryd.prog.funcNamed "loop.example/g00288/laws.FnExactTextAt" = some 6 by kernel_rfl).symm.trans hf) |>.symm
      obtain rfl : fn = Tryd.f6 := (Option.some.inj (Tryd.func6.symm.trans hfn)).symm
      exact ⟨by kernel_rfl, fun j t ht => by
        rw [Tryd.params6] at ht
        have hm : t ∈ [58, 60] := by simpa using Array.mem_of_getElem? ht
        have hall : ([58, 60].all fun u => !Tryd.prog.wantsStandIn u) = true := by kernel_rfl
        exact (show Tryd.prog.wantsStandIn t = false by simpa using List.all_eq_true.1 hall t hm)⟩)
    (by kernel_rfl)
#print axioms textAt_holds
end Go.Proofs.YtfemkmnkofgaaaaDoor
