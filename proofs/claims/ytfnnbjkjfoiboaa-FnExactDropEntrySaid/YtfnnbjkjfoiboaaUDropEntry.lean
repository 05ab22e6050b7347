/- DropEntry of both sides, over data with places. -/
import Derived.Test.YtfnnbjkjfoiboaaLift
import Derived.Test.YtfnnbjkjfoiboaaDropU
namespace Go.Proofs.Ytfnnbjkjfoiboaa
open Go.RowKit
noncomputable def dropP (e : E) (nm : ByteArray) (s : ByteArray) : E := liftS (fun q : E => (q.Ty Try.prog 45 ∧ q.d = e)) (fun q => (dropE q nm s).d) e
noncomputable def dropD (e : E) (nm : ByteArray) (s : ByteArray) : E := (dropP e nm s)
theorem drop_own {f : FuncId} (hf : ∀ {e : E} (_ : e.Ty Try.prog 45) (nm : ByteArray) (s : ByteArray) (_ : e.sz ≤ 1048576), Ctr Try.prog f [avI e, .c (.v (.string nm)), .c (.v (.string s))] [] (avO (dropE e nm s)) []) {e : E} (he : e.Ty Try.prog 45) (nm : ByteArray) (s : ByteArray) (w : World) (ie : e.In w) (ze : e.sz ≤ 1048576) :
    Calls Try.prog f #[e.val, .string nm, .string s] w fun r w' => ∃ x : E, r = .returned (x.val) ∧ x.d = dropD e.d nm s ∧ x.Ty Try.prog 45 ∧ x.Ho w' w.heap.size w'.heap.size ∧ x.fp.Nodup ∧ Below w.heap.size w w' := by
  obtain ⟨q, hq, hl⟩ := liftS_to (R := fun q : E => (q.Ty Try.prog 45 ∧ q.d = e.d)) (f := fun q => (dropE q nm s).d) (z := e.d) (a := e) ⟨he, rfl⟩
  obtain ⟨te, de⟩ := hq
  try dsimp only at hl te de
  have hc := hf te nm s (by rw [← E.sz_d, de, E.sz_d]; exact ze)
  rw [avI_of_d te he de] at hc
  have hP : dropP e.d nm s = (dropE q nm s).d := hl
  have hr0 : dropD e.d nm s = (dropE q nm s).d := by unfold dropD; rw [hP]
  rw [hr0]
  exact ctr_own (t := 45) (D := dropE q nm s) hc (dropE_Ty te nm s (by rw [← E.sz_d, de, E.sz_d]; exact ze)) (us := [e.val, .string nm, .string s]) (VRL_cons (avI_VR he ie) (VRL_cons (VR_str nm) (VRL_cons (VR_str s) VRL_nil)))
theorem dropD_sz {e : E} {nm : ByteArray} {s : ByteArray} (ze : e.sz ≤ 1048576)  : (dropD e nm s).sz ≤ 1073741824 := by
  unfold dropD dropP
  refine liftS_prop (fun r : E => (r).sz ≤ 1073741824) (fun q hq => ?_) (by show E.sz e ≤ _; omega)
  show E.sz (E.d _) ≤ _
  rw [E.sz_d]
  obtain ⟨te, de⟩ := hq
  exact dropE_sz te nm s (by rw [← E.sz_d, de]; exact ze)
theorem specDropEntry_u {e : E} (he : e.Ty Try.prog 45) (nm : ByteArray) (s : ByteArray) (w : World) (ie : e.In w) (ze : e.sz ≤ 1048576) :
    Calls Try.prog 62 #[e.val, .string nm, .string s] w fun r w' => ∃ x : E, r = .returned (x.val) ∧ Hid (x.d = dropD e.d nm s) ∧ x.Ty Try.prog 45 ∧ x.Re w' w.heap.size w'.heap.size ∧ Below w.heap.size w w' :=
  (drop_own (f := 62) (fun he nm s ze => by have hcc := specDropEntry_c he nm s ze; obtain ⟨eF, rfl, -⟩ := he.agg_ Try.underlying45; exact hcc) he nm s w ie ze).mono fun _ _ ⟨x, h1, h2, h3, h4, h5, h6⟩ => ⟨x, h1, h2, h3, h4.re, h6⟩
theorem implDropEntry_u {e : E} (he : e.Ty Try.prog 45) (nm : ByteArray) (s : ByteArray) (w : World) (ie : e.In w) (ze : e.sz ≤ 1048576) :
    Calls Try.prog 50 #[e.val, .string nm, .string s] w fun r w' => ∃ x : E, r = .returned (x.val) ∧ Hid (x.d = dropD e.d nm s) ∧ x.Ty Try.prog 45 ∧ x.Ho w' w.heap.size w'.heap.size ∧ x.fp.Nodup ∧ Below w.heap.size w w' :=
  (drop_own (f := 50) (fun he nm s ze => by have hcc := implDropEntry_c he nm s ze; obtain ⟨eF, rfl, -⟩ := he.agg_ Try.underlying45; exact hcc) he nm s w ie ze).mono fun _ _ ⟨x, h1, h2, h3, h4, h5, h6⟩ => ⟨x, h1, h2, h3, h4, h5, h6⟩
end Go.Proofs.Ytfnnbjkjfoiboaa
