/- Outcome of both sides, over data with places. -/
import Derived.Test.YtkhioiehcaaejaaDoorLift
import Derived.Test.YtkhioiehcaaejaaDoorT26
namespace Go.Proofs.YtkhioiehcaaejaaDoor
open Go.RowKit
set_option maxRecDepth 100000
noncomputable def outcP (s : E) : ByteArray := liftS (fun q : E => (q.Ty Tryd.prog 69 ∧ q.d = s)) (fun q => (outE q)) ByteArray.empty
noncomputable def outcD (s : E) : ByteArray := (outcP s)
theorem outc_own {f : FuncId} (hf : ∀ {s : E} (_ : s.Ty Tryd.prog 69) (_ : s.sz ≤ 1048576), Ctr Tryd.prog f [avI s] [] (.c (.v (.string (outE s)))) []) {s : E} (hs : s.Ty Tryd.prog 69) (w : World) (is : s.In w) (zs : s.sz ≤ 1048576) (gw : Gl w := by (first | assumption | exact gl_any _ | exact Gl.below_ gl0 (by exact (by repeat (first | (with_reducible refine Below.setCell ?_ (by first | omega | (· simp) | (· (simp; omega))) _) | (with_reducible refine Below.alloc ?_ (by first | omega | (· simp) | (· (simp; omega))) _) | (with_reducible refine Below.drew ?_) | (with_reducible refine bdrewN ?_ _) | (with_reducible exact Below.refl _ _) | (with_reducible assumption) | (with_reducible refine Below.trans ?_ (Below.mono (by assumption) (by first | omega | (· simp) | (· (simp; omega))))) | (with_reducible refine Below.trans ?_ (Kp.below (by assumption) (by first | omega | (· simp) | (· (simp; omega))) (by first | omega | (· simp) | (· (simp; omega)))))))))) :
    Calls Tryd.prog f #[s.val] w fun r w' => r = .returned (.string (outcD s.d)) ∧ Below w.heap.size w w' := by
  obtain ⟨q, hq, hl⟩ := liftS_to (R := fun q : E => (q.Ty Tryd.prog 69 ∧ q.d = s.d)) (f := fun q => (outE q)) (z := ByteArray.empty) (a := s) ⟨hs, rfl⟩
  obtain ⟨ts, ds⟩ := hq
  try dsimp only at hl ts ds
  have hc := hf ts (by rw [← E.sz_d, ds, E.sz_d]; exact zs)
  rw [avI_of_d ts hs ds] at hc
  have hP : outcP s.d = (outE q) := hl
  have hr0 : outcD s.d = (outE q) := by unfold outcD; rw [hP]
  rw [hr0]
  exact ctr_val hc (us := [s.val]) (VRL_cons (avI_VR hs is) VRL_nil)
theorem specOutcome_u {s : E} (hs : s.Ty Tryd.prog 69) (w : World) (is : s.In w) (zs : s.sz ≤ 1048576) (gw : Gl w := by (first | assumption | exact gl_any _ | exact Gl.below_ gl0 (by exact (by repeat (first | (with_reducible refine Below.setCell ?_ (by first | omega | (· simp) | (· (simp; omega))) _) | (with_reducible refine Below.alloc ?_ (by first | omega | (· simp) | (· (simp; omega))) _) | (with_reducible refine Below.drew ?_) | (with_reducible refine bdrewN ?_ _) | (with_reducible exact Below.refl _ _) | (with_reducible assumption) | (with_reducible refine Below.trans ?_ (Below.mono (by assumption) (by first | omega | (· simp) | (· (simp; omega))))) | (with_reducible refine Below.trans ?_ (Kp.below (by assumption) (by first | omega | (· simp) | (· (simp; omega))) (by first | omega | (· simp) | (· (simp; omega)))))))))) :
    Calls Tryd.prog 27 #[s.val] w fun r w' => r = .returned (.string (outcD s.d)) ∧ Below w.heap.size w w' :=
  (outc_own (f := 27) (fun hs zs => by have hcc := specOutcome_c hs zs; obtain ⟨sF, rfl, -⟩ := hs.agg_ Tryd.underlying69; exact hcc) hs w is zs gw).mono fun _ _ h => h
theorem implOutcome_u {s : E} (hs : s.Ty Tryd.prog 69) (w : World) (is : s.In w) (zs : s.sz ≤ 1048576) (gw : Gl w := by (first | assumption | exact gl_any _ | exact Gl.below_ gl0 (by exact (by repeat (first | (with_reducible refine Below.setCell ?_ (by first | omega | (· simp) | (· (simp; omega))) _) | (with_reducible refine Below.alloc ?_ (by first | omega | (· simp) | (· (simp; omega))) _) | (with_reducible refine Below.drew ?_) | (with_reducible refine bdrewN ?_ _) | (with_reducible exact Below.refl _ _) | (with_reducible assumption) | (with_reducible refine Below.trans ?_ (Below.mono (by assumption) (by first | omega | (· simp) | (· (simp; omega))))) | (with_reducible refine Below.trans ?_ (Kp.below (by assumption) (by first | omega | (· simp) | (· (simp; omega))) (by first | omega | (· simp) | (· (simp; omega)))))))))) :
    Calls Tryd.prog 29 #[s.val] w fun r w' => r = .returned (.string (outcD s.d)) ∧ Below w.heap.size w w' :=
  (outc_own (f := 29) (fun hs zs => by have hcc := implOutcome_c hs zs; obtain ⟨sF, rfl, -⟩ := hs.agg_ Tryd.underlying69; exact hcc) hs w is zs gw).mono fun _ _ h => h
end Go.Proofs.YtkhioiehcaaejaaDoor
