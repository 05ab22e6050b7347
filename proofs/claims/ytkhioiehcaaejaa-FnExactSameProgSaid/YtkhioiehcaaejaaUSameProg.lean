/- SameProg of both sides, over data with places. -/
import Derived.Test.YtkhioiehcaaejaaLift
import Derived.Test.YtkhioiehcaaejaaT21
namespace Go.Proofs.Ytkhioiehcaaejaa
open Go.RowKit
noncomputable def sameProgP (a : E) (b : E) : Bool := liftS (fun q : E × E => (q.1.Ty Try.prog 55 ∧ q.1.d = a) ∧ (q.2.Ty Try.prog 55 ∧ q.2.d = b)) (fun q => (eqD q.1 q.2)) false
noncomputable def sameProgD (a : E) (b : E) : Bool := (sameProgP a b)
theorem sameProg_own {f : FuncId} (hf : ∀ {a b : E} (_ : a.Ty Try.prog 55) (_ : b.Ty Try.prog 55) (_ : a.sz ≤ 1048576) (_ : b.sz ≤ 1048576), Ctr Try.prog f [avI a, avI b] [] (.c (.v (.bool (eqD a b)))) []) {a b : E} (ha : a.Ty Try.prog 55) (hb : b.Ty Try.prog 55) (w : World) (ia : a.In w) (ib : b.In w) (za : a.sz ≤ 1048576) (zb : b.sz ≤ 1048576) :
    Calls Try.prog f #[a.val, b.val] w fun r w' => r = .returned (.bool (sameProgD a.d b.d)) ∧ Below w.heap.size w w' := by
  obtain ⟨q, hq, hl⟩ := liftS_to (R := fun q : E × E => (q.1.Ty Try.prog 55 ∧ q.1.d = a.d) ∧ (q.2.Ty Try.prog 55 ∧ q.2.d = b.d)) (f := fun q => (eqD q.1 q.2)) (z := false) (a := ⟨a, b⟩) ⟨⟨ha, rfl⟩, ⟨hb, rfl⟩⟩
  obtain ⟨a', b'⟩ := q
  obtain ⟨⟨ta, da⟩, ⟨tb, db⟩⟩ := hq
  try dsimp only at hl ta da tb db
  have hc := hf ta tb (by rw [← E.sz_d, da, E.sz_d]; exact za) (by rw [← E.sz_d, db, E.sz_d]; exact zb)
  rw [avI_of_d ta ha da, avI_of_d tb hb db] at hc
  have hP : sameProgP a.d b.d = (eqD a' b') := hl
  have hr0 : sameProgD a.d b.d = (eqD a' b') := by unfold sameProgD; rw [hP]
  rw [hr0]
  exact ctr_val hc (us := [a.val, b.val]) (VRL_cons (avI_VR ha ia) (VRL_cons (avI_VR hb ib) VRL_nil))
theorem specSameProg_u {a b : E} (ha : a.Ty Try.prog 55) (hb : b.Ty Try.prog 55) (w : World) (ia : a.In w) (ib : b.In w) (za : a.sz ≤ 1048576) (zb : b.sz ≤ 1048576) :
    Calls Try.prog 19 #[a.val, b.val] w fun r w' => r = .returned (.bool (sameProgD a.d b.d)) ∧ Below w.heap.size w w' :=
  (sameProg_own (f := 19) (fun ha hb za zb => by have hcc := specSameProg_c ha hb za zb; obtain ⟨aF, rfl, -⟩ := ha.agg_ Try.underlying55; obtain ⟨bF, rfl, -⟩ := hb.agg_ Try.underlying55; exact hcc) ha hb w ia ib za zb).mono fun _ _ h => h
theorem implSameProg_u {a b : E} (ha : a.Ty Try.prog 55) (hb : b.Ty Try.prog 55) (w : World) (ia : a.In w) (ib : b.In w) (za : a.sz ≤ 1048576) (zb : b.sz ≤ 1048576) :
    Calls Try.prog 21 #[a.val, b.val] w fun r w' => r = .returned (.bool (sameProgD a.d b.d)) ∧ Below w.heap.size w w' :=
  (sameProg_own (f := 21) (fun ha hb za zb => by have hcc := implSameProg_c ha hb za zb; obtain ⟨aF, rfl, -⟩ := ha.agg_ Try.underlying55; obtain ⟨bF, rfl, -⟩ := hb.agg_ Try.underlying55; exact hcc) ha hb w ia ib za zb).mono fun _ _ h => h
end Go.Proofs.Ytkhioiehcaaejaa
