/- FnExactPutIns: for all arguments the law returns true (its sentence: the program's PutIns is as the document's reference has it). No condition. -/
import Derived.Test.YtjgmdbhbnpafgaaOpen
import Derived.Test.YtjgmdbhbnpafgaaPutLaw
namespace Go.Proofs.Ytjgmdbhbnpafgaa
open Go.ChangeShapes Go.WideShapes Go.ChangeAt Go.RowKit Go.Joins
open Go.ChangeMaps (open_string)

set_option maxRecDepth 100000 in
theorem putIns_lifted (os : Os) (started : os.Started) (H : Type) (enc : TypeId × Value → H) :
    ReturnsInHanded {} Try.checked os 6 .any (Rows.fnExactPutInsSpec.pre6 enc Try.prog Try.f6 Rows.fnExactPutInsRow.domain false) (Rows.fnExactPutInsSpec.post enc Try.prog Try.f6 false true false false) := by
  refine law_lifted (fn := Try.f6) started H enc (by kernel_rfl) Try.func6 (by kernel_rfl) rfl Try.underlying4 (isLaw2 rfl fun _ _ _ => rfl)
    (ChangeSpec.witness6 (enc := enc) (C := Try.checked) false ⟨#[], #[.slice none 0 0, .agg #[.int .i64 0, .int .i64 0]], []⟩ 8 (by kernel_rfl) (by kernel_rfl) (by kernel_rfl) (by kernel_rfl)) ?_
  intro W base args ds ps hval hA _
  rw [Try.params6] at hA hval
  obtain ⟨v0, vs0, d0, ds0, p0, q0, hargs, rfl, rfl, h0, r0⟩ := trodAll_cons hA
  obtain ⟨v1, vs1, d1, ds1, p1, q1, rfl, rfl, rfl, h1, r1⟩ := trodAll_cons r0
  obtain ⟨rfl, rfl, rfl⟩ := trodAll_nil r1
  obtain rfl : args = #[v0, v1] := by cases args; simp_all
  obtain ⟨A0, l0, c0, rfl⟩ := okWide_slice Try.underlying39 (hval 0 39 v0 rfl rfl)
  obtain ⟨fu0, hf0⟩ := h0
  obtain ⟨a0, s0, _⟩ := sl_bytes Try.underlying39 Try.underlying5 (by kernel_rfl) (v := .slice A0 l0 c0) hf0
  obtain rfl := s0.len_eq
  obtain ⟨x1, y1, z1, u1, m1, rfl, rfl, rfl, hx1, hy1⟩ := open_agg2 Try.underlying23 (by kernel_rfl) (by kernel_rfl) (hval 1 23 v1 rfl rfl) h1
  obtain ⟨a1, e1, _, g1⟩ := DataW.trod_int Try.underlying3 hx1
  obtain ⟨b1, f1, _, k1⟩ := DataW.trod_int Try.underlying3 hy1
  simp at e1 f1
  subst e1 f1
  have g1 := i64_bounds g1
  have k1 := i64_bounds k1
  exact putIns_law W A0 c0 a0 s0 a1 b1 g1 k1

theorem putIns_holds : Rows.FnExactPutInsSaid :=
  OpenClaim.holds_of_wide 6 Try.f6 rfl rfl rfl rfl rfl rfl rfl ⟨rfl, rfl, rfl, rfl, rfl⟩ rfl rfl rfl rfl rfl (by kernel_rfl) Try.func6 (by kernel_rfl)
    (of_decide_eq_true (by kernel_rfl)) (by unfold Func.isWrapper; first | (rw [if_pos (by decide +kernel)]; kernel_rfl) | (rw [if_neg (by decide +kernel)]; exact ⟨rfl, rfl⟩))
    (fun os started H enc _ => putIns_lifted os started H enc)
#print axioms putIns_holds
end Go.Proofs.Ytjgmdbhbnpafgaa
