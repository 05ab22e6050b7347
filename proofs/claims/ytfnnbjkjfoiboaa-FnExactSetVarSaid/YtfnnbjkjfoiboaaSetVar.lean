/- SetVar of both sides, over data with places. -/
import Derived.Test.YtfnnbjkjfoiboaaAB
import Derived.Test.YtfnnbjkjfoiboaaT5
namespace Go.Proofs.Ytfnnbjkjfoiboaa
open Go.RowKit
noncomputable def setVarD (D : E) (s : ByteArray) (V : E) : E := liftD Try.prog 45 (fun e => liftD Try.prog 35 (fun v => (setVarE e s v).d) V V) D D
theorem nmE_le (e : E) : (nmE e).size ≤ e.sz := by
  unfold nmE
  split
  · simp [E.sz, E.szL]
  · have : ByteArray.empty.size = 0 := rfl
    omega
theorem setVarL_sz (l : List E) (s : ByteArray) (v : E) : E.szL (setVarL l s v) ≤ 2 * E.szL l + 2 * v.sz ∧ (setVarL l s v).length = l.length := by
  unfold setVarL
  split
  · rename_i k hk
    refine ⟨?_, by simp⟩
    have h1 := szL_set_le l k (.agg [.str (nmE (l[k]?.getD v)), v])
    have h2 := nmE_le (l[k]?.getD v)
    have h3 : (l[k]?.getD v).sz ≤ E.szL l + v.sz := by
      cases h : l[k]? with
      | none => simp
      | some x => have := E.szL_mem (List.mem_of_getElem? h); simp; omega
    simp only [E.sz, E.szL] at h1 ⊢
    omega
  · exact ⟨by omega, rfl⟩
theorem setVarD_sz {D v : E} {s : ByteArray} (h : D.sz ≤ 1048576) (h2 : v.sz ≤ 1048576) : (setVarD D s v).sz ≤ 1073741824 := by
  refine liftD_prop (fun x : E => x.sz ≤ 1073741824) (fun e he hd => liftD_prop (fun x : E => x.sz ≤ 1073741824) (fun v' hv' hvd => ?_) (by omega)) (by omega)
  rw [E.sz_d]
  have e1 : e.sz ≤ 1048576 := by rw [← E.sz_d, hd]; exact h
  have e2 : v'.sz ≤ 1048576 := by rw [← E.sz_d, hvd]; exact h2
  obtain ⟨x0A, x0c, l, x1A, x1c, l2, rfl, -⟩ := shape_impl_Env he
  have := setVarL_sz l s v'
  simp only [setVarE, varsE, tabsE, E.sz, E.szL] at e1 ⊢
  omega
theorem setVarE_Ty {e v : E} (he : e.Ty Try.prog 45) (hv : v.Ty Try.prog 35) (s : ByteArray) : (setVarE e s v).Ty Try.prog 45 := by
  obtain ⟨x0A, x0c, l, x1A, x1c, l2, rfl, ⟨hl, hk⟩, ⟨hl2, hk2⟩, -⟩ := shape_impl_Env he
  have key : ∀ y ∈ setVarL l s v, y.Ty Try.prog 50 ∧ y.enc.length = 4 := by
    intro y hy
    unfold setVarL at hy
    split at hy
    · rename_i k hk'
      obtain ⟨hlt, _⟩ := List.findIdx?_eq_some_iff_getElem.1 hk'
      rcases List.mem_or_eq_of_mem_set hy with h | rfl
      · exact ⟨hl y h, hk y h⟩
      · have hx := hl _ (List.getElem_mem hlt)
        rw [List.getElem?_eq_getElem hlt]
        obtain ⟨y0, y1, y2, y3, e1, hy0, -⟩ := shape_impl_Named hx
        obtain ⟨v0, v1, v2, rfl, -⟩ := shape_impl_Val hv
        rw [e1]
        refine ⟨E.Ty.mk_agg Try.underlying50 (E.TyF.mk_cons (by simp only [Option.getD_some, nmE, E.Ty]; exact ⟨Try.underlying9, hy0⟩) (E.TyF.mk_cons hv E.TyF.mk_nil)), rfl⟩
    · exact ⟨hl y hy, hk y hy⟩
  exact E.Ty.mk_agg Try.underlying45 (E.TyF.mk_cons (E.Ty.mk_lst Try.underlying42 (by kernel_rfl) (fun y hy => (key y hy).1) (fun y hy => (key y hy).2)) (E.TyF.mk_cons (E.Ty.mk_lst Try.underlying43 (by kernel_rfl) hl2 hk2) E.TyF.mk_nil))
theorem setVar_own {f : FuncId} (hf : ∀ {e v : E} (_ : e.Ty Try.prog 45) (_ : v.Ty Try.prog 35) (s : ByteArray) (_ : e.sz ≤ 1048576), Ctr Try.prog f [.ag (acE e), .c (.v (.string s)), .ag (acE v)] [] (.ag (owE (setVarE e s v))) []) {e v : E} (he : e.Ty Try.prog 45) (hv : v.Ty Try.prog 35) (s : ByteArray) (w : World) (ie : e.In w) (hs : e.sz ≤ 1048576) :
    Calls Try.prog f #[e.val, .string s, v.val] w fun r w' => ∃ x : E, r = .returned x.val ∧ x.d = setVarD e.d s v.d ∧ x.Ty Try.prog 45 ∧ x.Ho w' w.heap.size w'.heap.size ∧ x.fp.Nodup ∧ Below w.heap.size w w' := by
  obtain ⟨v', tv, dv, av, lv⟩ := liftD_to (f := fun v : E => (setVarE e s v).d) (z := v.d) hv
  obtain ⟨e', te, de, ae, le⟩ := liftD_to (f := fun e : E => liftD Try.prog 35 (fun v => (setVarE e s v).d) v.d v.d) (z := e.d) he
  obtain ⟨v', tv, dv, av, lv⟩ := liftD_to (f := fun v : E => (setVarE e' s v).d) (z := v.d) hv
  have hc := hf te tv s (by rw [← E.sz_d, de, E.sz_d]; exact hs)
  rw [ae, av] at hc
  have hD : (setVarE e' s v').d = setVarD e.d s v.d := by unfold setVarD; rw [le, lv]
  have iv : v.In w := by
    obtain ⟨v0, v1, v2, rfl, -⟩ := shape_impl_Val hv
    simp [E.In, E.Re, E.ReL]
  rw [← hD]
  have e1 : avI e = .ag (acE e) := by obtain ⟨x0A, x0c, l, x1A, x1c, l2, rfl, -⟩ := shape_impl_Env he; rfl
  have e2 : avI v = .ag (acE v) := by obtain ⟨v0, v1, v2, rfl, -⟩ := shape_impl_Val hv; rfl
  exact ctr_own (t := 45) (D := setVarE e' s v') hc (setVarE_Ty te tv s) (us := [e.val, .string s, v.val]) (VRL_cons (by rw [← e1]; exact avI_VR he ie) (VRL_cons (VR_str s) (VRL_cons (by rw [← e2]; exact avI_VR hv iv) VRL_nil)))
theorem specSetVar_u {e v : E} (he : e.Ty Try.prog 45) (hv : v.Ty Try.prog 35) (s : ByteArray) (w : World) (ie : e.In w) (hs : e.sz ≤ 1048576) :
    Calls Try.prog 29 #[e.val, .string s, v.val] w fun r w' => ∃ x : E, r = .returned x.val ∧ Hid (x.d = setVarD e.d s v.d) ∧ x.Ty Try.prog 45 ∧ x.Re w' w.heap.size w'.heap.size ∧ Below w.heap.size w w' :=
  (setVar_own specSetVar_c he hv s w ie hs).mono fun _ _ ⟨x, h1, h2, h3, h4, _, h6⟩ => ⟨x, h1, h2, h3, h4.re, h6⟩
theorem implSetVar_u {e v : E} (he : e.Ty Try.prog 45) (hv : v.Ty Try.prog 35) (s : ByteArray) (w : World) (ie : e.In w) (hs : e.sz ≤ 1048576) :
    Calls Try.prog 26 #[e.val, .string s, v.val] w fun r w' => ∃ x : E, r = .returned x.val ∧ Hid (x.d = setVarD e.d s v.d) ∧ x.Ty Try.prog 45 ∧ x.Ho w' w.heap.size w'.heap.size ∧ x.fp.Nodup ∧ Below w.heap.size w w' :=
  (setVar_own implSetVar_c he hv s w ie hs).mono fun _ _ ⟨x, h1, h2, h3, h4, h5, h6⟩ => ⟨x, h1, h2, h3, h4, h5, h6⟩
end Go.Proofs.Ytfnnbjkjfoiboaa
