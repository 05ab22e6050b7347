/- EnvOk of both sides, over data with places. -/
import Derived.Test.YtfnnbjkjfoiboaaT9
namespace Go.Proofs.Ytfnnbjkjfoiboaa
open Go.RowKit
noncomputable def envOkD (D : E) : Bool := liftD Try.prog 45 envOk false D
theorem envOk_own {f : FuncId} (hf : ∀ {e : E} (_ : e.Ty Try.prog 45) (_ : e.sz ≤ 1048576), Ctr Try.prog f [.ag (acE e)] [] (.c (.v (.bool (envOk e)))) []) {e : E} (he : e.Ty Try.prog 45) (w : World) (ie : e.In w) (hs : e.sz ≤ 1048576) :
    Calls Try.prog f #[e.val] w fun r w' => r = .returned (.bool (envOkD e.d)) ∧ Below w.heap.size w w' := by
  obtain ⟨e', te, de, ae, le⟩ := liftD_to (f := envOk) (z := false) he
  have hc := hf te (by rw [← E.sz_d, de, E.sz_d]; exact hs)
  rw [ae] at hc
  rw [show envOkD e.d = envOk e' from le]
  have e1 : avI e = .ag (acE e) := by obtain ⟨x0A, x0c, l, x1A, x1c, l2, rfl, -⟩ := shape_impl_Env he; rfl
  exact ctr_val hc (us := [e.val]) (VRL_cons (by rw [← e1]; exact avI_VR he ie) VRL_nil)
theorem specEnvOk_u {e : E} (he : e.Ty Try.prog 45) (w : World) (ie : e.In w) (hs : e.sz ≤ 1048576) :
    Calls Try.prog 54 #[e.val] w fun r w' => r = .returned (.bool (envOkD e.d)) ∧ Below w.heap.size w w' := envOk_own specEnvOk_c he w ie hs
theorem implEnvOk_u {e : E} (he : e.Ty Try.prog 45) (w : World) (ie : e.In w) (hs : e.sz ≤ 1048576) :
    Calls Try.prog 55 #[e.val] w fun r w' => r = .returned (.bool (envOkD e.d)) ∧ Below w.heap.size w w' := envOk_own implEnvOk_c he w ie hs
end Go.Proofs.Ytfnnbjkjfoiboaa
