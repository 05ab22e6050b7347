/- LinesOf of both sides, over data with places. -/
import Derived.Test.YtkhioiehcaaejaaDoorLift
import Derived.Test.YtkhioiehcaaejaaDoorT25
namespace Go.Proofs.YtkhioiehcaaejaaDoor
open Go.RowKit
set_option maxRecDepth 100000
noncomputable def linesP (m : E) (i : Int) : ByteArray := liftS (fun q : E => (q.Ty Tryd.prog 49 ∧ q.d = m)) (fun q => (linesE q i)) ByteArray.empty
noncomputable def linesD (m : E) (i : Int) : ByteArray := (linesP m i)
theorem lines_own {f : FuncId} (hf : ∀ {m : E} (_ : m.Ty Tryd.prog 49) (i : Int) (_ : m.sz ≤ 1048576), Ctr Tryd.prog f [avI m, .c (.v (.int .i64 i))] [] (.c (.v (.string (linesE m i)))) []) {m : E} (hm : m.Ty Tryd.prog 49) (i : Int) (w : World) (im : m.In w) (zm : m.sz ≤ 1048576) (gw : Gl w := by (first | assumption | exact gl_any _ | exact Gl.below_ gl0 (by exact (by repeat (first | (with_reducible refine Below.setCell ?_ (by first | omega | (· simp) | (· (simp; omega))) _) | (with_reducible refine Below.alloc ?_ (by first | omega | (· simp) | (· (simp; omega))) _) | (with_reducible refine Below.drew ?_) | (with_reducible refine bdrewN ?_ _) | (with_reducible exact Below.refl _ _) | (with_reducible assumption) | (with_reducible refine Below.trans ?_ (Below.mono (by assumption) (by first | omega | (· simp) | (· (simp; omega))))) | (with_reducible refine Below.trans ?_ (Kp.below (by assumption) (by first | omega | (· simp) | (· (simp; omega))) (by first | omega | (· simp) | (· (simp; omega)))))))))) :
    Calls Tryd.prog f #[m.val, .int .i64 i] w fun r w' => r = .returned (.string (linesD m.d i)) ∧ Below w.heap.size w w' := by
  obtain ⟨q, hq, hl⟩ := liftS_to (R := fun q : E => (q.Ty Tryd.prog 49 ∧ q.d = m.d)) (f := fun q => (linesE q i)) (z := ByteArray.empty) (a := m) ⟨hm, rfl⟩
  obtain ⟨tm, dm⟩ := hq
  try dsimp only at hl tm dm
  have hc := hf tm i (by rw [← E.sz_d, dm, E.sz_d]; exact zm)
  rw [avI_of_d tm hm dm] at hc
  have hP : linesP m.d i = (linesE q i) := hl
  have hr0 : linesD m.d i = (linesE q i) := by unfold linesD; rw [hP]
  rw [hr0]
  exact ctr_val hc (us := [m.val, .int .i64 i]) (VRL_cons (avI_VR hm im) (VRL_cons (VR_int .i64 i) VRL_nil))
theorem specLinesOf_u {m : E} (hm : m.Ty Tryd.prog 49) (i : Int) (w : World) (im : m.In w) (zm : m.sz ≤ 1048576) (gw : Gl w := by (first | assumption | exact gl_any _ | exact Gl.below_ gl0 (by exact (by repeat (first | (with_reducible refine Below.setCell ?_ (by first | omega | (· simp) | (· (simp; omega))) _) | (with_reducible refine Below.alloc ?_ (by first | omega | (· simp) | (· (simp; omega))) _) | (with_reducible refine Below.drew ?_) | (with_reducible refine bdrewN ?_ _) | (with_reducible exact Below.refl _ _) | (with_reducible assumption) | (with_reducible refine Below.trans ?_ (Below.mono (by assumption) (by first | omega | (· simp) | (· (simp; omega))))) | (with_reducible refine Below.trans ?_ (Kp.below (by assumption) (by first | omega | (· simp) | (· (simp; omega))) (by first | omega | (· simp) | (· (simp; omega)))))))))) :
    Calls Tryd.prog 22 #[m.val, .int .i64 i] w fun r w' => r = .returned (.string (linesD m.d i)) ∧ Below w.heap.size w w' :=
  (lines_own (f := 22) (fun hm i zm => by have hcc := specLinesOf_c hm i zm; obtain ⟨mF, rfl, -⟩ := hm.agg_ Tryd.underlying49; exact hcc) hm i w im zm gw).mono fun _ _ h => h
theorem implLinesOf_u {m : E} (hm : m.Ty Tryd.prog 49) (i : Int) (w : World) (im : m.In w) (zm : m.sz ≤ 1048576) (gw : Gl w := by (first | assumption | exact gl_any _ | exact Gl.below_ gl0 (by exact (by repeat (first | (with_reducible refine Below.setCell ?_ (by first | omega | (· simp) | (· (simp; omega))) _) | (with_reducible refine Below.alloc ?_ (by first | omega | (· simp) | (· (simp; omega))) _) | (with_reducible refine Below.drew ?_) | (with_reducible refine bdrewN ?_ _) | (with_reducible exact Below.refl _ _) | (with_reducible assumption) | (with_reducible refine Below.trans ?_ (Below.mono (by assumption) (by first | omega | (· simp) | (· (simp; omega))))) | (with_reducible refine Below.trans ?_ (Kp.below (by assumption) (by first | omega | (· simp) | (· (simp; omega))) (by first | omega | (· simp) | (· (simp; omega)))))))))) :
    Calls Tryd.prog 24 #[m.val, .int .i64 i] w fun r w' => r = .returned (.string (linesD m.d i)) ∧ Below w.heap.size w w' :=
  (lines_own (f := 24) (fun hm i zm => by have hcc := implLinesOf_c hm i zm; obtain ⟨mF, rfl, -⟩ := hm.agg_ Tryd.underlying49; exact hcc) hm i w im zm gw).mono fun _ _ h => h
end Go.Proofs.YtkhioiehcaaejaaDoor
