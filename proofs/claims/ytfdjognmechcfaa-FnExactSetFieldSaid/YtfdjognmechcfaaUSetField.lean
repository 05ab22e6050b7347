/- SetField of both sides, over data with places. -/
import Derived.Test.YtfdjognmechcfaaLift
import Derived.Test.YtfdjognmechcfaaSI
namespace Go.Proofs.Ytfdjognmechcfaa
open Go.RowKit
set_option maxRecDepth 100000
noncomputable def setFP (e : E) (n : Int) (s : ByteArray) : E × Bool := liftS (fun q : E => (q.Ty Try.prog 26 ∧ q.d = e)) (fun q => ((setFE q n s).d, (setFB q n s))) (e, false)
noncomputable def setFD (e : E) (n : Int) (s : ByteArray) : E := (setFP e n s).1
noncomputable def setFD1 (e : E) (n : Int) (s : ByteArray) : Bool := (setFP e n s).2
theorem setF_own {f : FuncId} (hf : ∀ {e : E} (_ : e.Ty Try.prog 26) (n : Int) (s : ByteArray) (_ : e.sz ≤ 1048576) (_ : s.size ≤ 1048576), Ctr Try.prog f [avI e, .c (.v (.int .i64 n)), .c (.v (.string s))] [] (.tu [avO (setFE e n s), .c (.v (.bool (setFB e n s)))]) []) {e : E} (he : e.Ty Try.prog 26) (n : Int) (s : ByteArray) (w : World) (ie : e.In w) (ze : e.sz ≤ 1048576) (hss : s.size ≤ 1048576) :
    Calls Try.prog f #[e.val, .int .i64 n, .string s] w fun r w' => ∃ x : E, r = .returned (.tuple #[x.val, .bool (setFD1 e.d n s)]) ∧ x.d = setFD e.d n s ∧ x.Ty Try.prog 26 ∧ x.Ho w' w.heap.size w'.heap.size ∧ x.fp.Nodup ∧ Below w.heap.size w w' := by
  obtain ⟨q, hq, hl⟩ := liftS_to (R := fun q : E => (q.Ty Try.prog 26 ∧ q.d = e.d)) (f := fun q => ((setFE q n s).d, (setFB q n s))) (z := (e.d, false)) (a := e) ⟨he, rfl⟩
  obtain ⟨te, de⟩ := hq
  try dsimp only at hl te de
  have hc := hf te n s (by rw [← E.sz_d, de, E.sz_d]; exact ze) hss
  rw [avI_of_d te he de] at hc
  have hP : setFP e.d n s = ((setFE q n s).d, (setFB q n s)) := hl
  have hr0 : setFD e.d n s = (setFE q n s).d := by unfold setFD; rw [hP]
  have hr1 : setFD1 e.d n s = (setFB q n s) := by unfold setFD1; rw [hP]
  rw [hr0, hr1]
  exact ctr_own2 (t := 26) (D := setFE q n s) rfl hc (setFE_Ty te n s (by rw [← E.sz_d, de, E.sz_d]; exact ze) hss) (us := [e.val, .int .i64 n, .string s]) (VRL_cons (avI_VR he ie) (VRL_cons (VR_int .i64 n) (VRL_cons (VR_str s) VRL_nil)))
theorem setFD_sz {e : E} {n : Int} {s : ByteArray} (ze : e.sz ≤ 1048576) (hss : s.size ≤ 1048576) : (setFD e n s).sz ≤ 1073741824 := by
  unfold setFD setFP
  refine liftS_prop (fun r : E × Bool => (r.1).sz ≤ 1073741824) (fun q hq => ?_) (by show E.sz e ≤ _; omega)
  show E.sz (E.d _) ≤ _
  rw [E.sz_d]
  obtain ⟨te, de⟩ := hq
  exact setFE_sz te n s (by rw [← E.sz_d, de]; exact ze) hss
theorem specSetField_u {e : E} (he : e.Ty Try.prog 26) (n : Int) (s : ByteArray) (w : World) (ie : e.In w) (ze : e.sz ≤ 1048576) (hss : s.size ≤ 1048576) :
    Calls Try.prog 6 #[e.val, .int .i64 n, .string s] w fun r w' => ∃ x : E, r = .returned (.tuple #[x.val, .bool (setFD1 e.d n s)]) ∧ Hid (x.d = setFD e.d n s) ∧ x.Ty Try.prog 26 ∧ x.Re w' w.heap.size w'.heap.size ∧ Below w.heap.size w w' :=
  (setF_own (f := 6) (fun he n s ze hss => by have hcc := setF_cast (specSetField_c he n s ze hss) (setFE_Ty he n s ze hss); obtain ⟨eF, rfl, -⟩ := he.agg_ Try.underlying26; exact hcc) he n s w ie ze hss).mono fun _ _ ⟨x, h1, h2, h3, h4, h5, h6⟩ => ⟨x, h1, h2, h3, h4.re, h6⟩
theorem implSetField_u {e : E} (he : e.Ty Try.prog 26) (n : Int) (s : ByteArray) (w : World) (ie : e.In w) (ze : e.sz ≤ 1048576) (hss : s.size ≤ 1048576) :
    Calls Try.prog 8 #[e.val, .int .i64 n, .string s] w fun r w' => ∃ x : E, r = .returned (.tuple #[x.val, .bool (setFD1 e.d n s)]) ∧ Hid (x.d = setFD e.d n s) ∧ x.Ty Try.prog 26 ∧ x.Ho w' w.heap.size w'.heap.size ∧ x.fp.Nodup ∧ Below w.heap.size w w' :=
  (setF_own (f := 8) (fun he n s ze hss => by have hcc := setF_cast (implSetField_c he n s ze hss) (setFE_Ty he n s ze hss); obtain ⟨eF, rfl, -⟩ := he.agg_ Try.underlying26; exact hcc) he n s w ie ze hss).mono fun _ _ ⟨x, h1, h2, h3, h4, h5, h6⟩ => ⟨x, h1, h2, h3, h4, h5, h6⟩
end Go.Proofs.Ytfdjognmechcfaa
