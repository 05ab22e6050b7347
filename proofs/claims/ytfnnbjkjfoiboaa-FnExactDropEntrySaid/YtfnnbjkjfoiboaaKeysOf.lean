/- KeysOf of both sides, over data with places. -/
import Derived.Test.YtfnnbjkjfoiboaaT6
namespace Go.Proofs.Ytfnnbjkjfoiboaa
open Go.RowKit
def keysE (e : E) (s : ByteArray) : E := .lst 1 9 none 0 (keysL e s)
noncomputable def keysD (D : E) (s : ByteArray) : E := liftD Try.prog 45 (fun e => (keysE e s).d) D D
theorem keys_sz (l : List E) : E.szL (l.map keyE) ≤ E.szL l := by
  induction l with
  | nil => exact Nat.le_refl _
  | cons x r ih =>
    have : (keyE x).sz ≤ x.sz := by
      unfold keyE nmE
      split
      · simp [E.sz, E.szL]
      · have : ByteArray.empty.size = 0 := rfl
        simp only [E.sz]; omega
    simp only [List.map_cons, E.szL]
    omega
theorem tabsE_sz (e : E) : E.szL (tabsE e) ≤ e.sz := by
  unfold tabsE
  split
  · simp only [E.sz, E.szL]; omega
  · simp [E.szL]
theorem keysD_sz {D : E} {s : ByteArray} (h : D.sz ≤ 1048576) : (keysD D s).sz ≤ 1073741824 := by
  refine liftD_prop (fun x : E => x.sz ≤ 1073741824) (fun e he hd => ?_) (by omega)
  rw [E.sz_d]
  have e1 : e.sz ≤ 1048576 := by rw [← E.sz_d, hd]; exact h
  have key : E.szL (keysL e s) ≤ 1048576 ∧ (keysL e s).length ≤ 1048576 := by
    unfold keysL
    split
    · rename_i k hk
      have h1 := keys_sz (tabsE ((tabsE e)[k]?.getD e))
      have h2 := tabsE_sz ((tabsE e)[k]?.getD e)
      have h3 : ((tabsE e)[k]?.getD e).sz ≤ e.sz := by
        cases h : (tabsE e)[k]? with
        | none => simp
        | some x => have := E.szL_mem (List.mem_of_getElem? h); have := tabsE_sz e; simp; omega
      have h4 : (tabsE ((tabsE e)[k]?.getD e)).length ≤ ((tabsE e)[k]?.getD e).sz := by
        generalize (tabsE e)[k]?.getD e = x
        unfold tabsE
        split
        · simp only [E.sz, E.szL]; omega
        · simp
      rw [List.length_map]
      omega
    · simp [E.szL]
  simp only [keysE, E.sz]
  omega
theorem keysE_Ty {e : E} (he : e.Ty Try.prog 45) (s : ByteArray) : (keysE e s).Ty Try.prog 75 := by
  obtain ⟨x0A, x0c, l, x1A, x1c, l2, rfl, ⟨hl, hk⟩, ⟨hl2, hk2⟩, -⟩ := shape_impl_Env he
  have key : ∀ y ∈ keysL (.agg [.lst 4 50 x0A x0c l, .lst 2 114 x1A x1c l2]) s, y.Ty Try.prog 9 ∧ y.enc.length = 1 := by
    intro y hy
    unfold keysL at hy
    split at hy
    · rename_i k hk'
      change l2.findIdx? (isNm s) = some k at hk'
      obtain ⟨hlt, _⟩ := List.findIdx?_eq_some_iff_getElem.1 hk'
      obtain ⟨z, hz, rfl⟩ := List.mem_map.1 hy
      change z ∈ tabsE ((l2[k]?).getD _) at hz
      have hx := hl2 _ (List.getElem_mem hlt)
      rw [List.getElem?_eq_getElem hlt] at hz
      obtain ⟨y0, y1A, y1c, y1, e1, hy0, ⟨hy1, hy1k⟩, -⟩ := shape_impl_Table hx
      change z ∈ tabsE l2[k] at hz
      rw [e1] at hz
      obtain ⟨z0, z1, z2, z3, rfl, hz0, -⟩ := shape_impl_Entry (hy1 z hz)
      exact ⟨⟨Try.underlying9, hz0⟩, rfl⟩
    · cases hy
  exact E.Ty.mk_lst Try.underlying75 (by kernel_rfl) (fun y hy => (key y hy).1) (fun y hy => (key y hy).2)
theorem keys_own {f : FuncId} (hf : ∀ {e : E} (_ : e.Ty Try.prog 45) (s : ByteArray) (_ : e.sz ≤ 1048576), Ctr Try.prog f [.ag (acE e), .c (.v (.string s))] [] (.c (.ow 9 (keysL e s).length 1 (owL (keysL e s)))) []) {e : E} (he : e.Ty Try.prog 45) (s : ByteArray) (w : World) (ie : e.In w) (hs : e.sz ≤ 1048576) :
    Calls Try.prog f #[e.val, .string s] w fun r w' => ∃ x : E, r = .returned x.val ∧ x.d = keysD e.d s ∧ x.Ty Try.prog 75 ∧ x.Ho w' w.heap.size w'.heap.size ∧ x.fp.Nodup ∧ Below w.heap.size w w' := by
  obtain ⟨e', te, de, ae, le⟩ := liftD_to (f := fun e : E => (keysE e s).d) (z := e.d) he
  have hc := hf te s (by rw [← E.sz_d, de, E.sz_d]; exact hs)
  rw [ae] at hc
  have hD : (keysE e' s).d = keysD e.d s := by unfold keysD; rw [le]
  rw [← hD]
  have e1 : avI e = .ag (acE e) := by obtain ⟨x0A, x0c, l, x1A, x1c, l2, rfl, -⟩ := shape_impl_Env he; rfl
  exact ctr_own (t := 75) (D := keysE e' s) hc (keysE_Ty te s) (us := [e.val, .string s]) (VRL_cons (by rw [← e1]; exact avI_VR he ie) (VRL_cons (VR_str s) VRL_nil))
theorem specKeysOf_u {e : E} (he : e.Ty Try.prog 45) (s : ByteArray) (w : World) (ie : e.In w) (hs : e.sz ≤ 1048576) :
    Calls Try.prog 56 #[e.val, .string s] w fun r w' => ∃ x : E, r = .returned x.val ∧ Hid (x.d = keysD e.d s) ∧ x.Ty Try.prog 75 ∧ x.Re w' w.heap.size w'.heap.size ∧ Below w.heap.size w w' :=
  (keys_own specKeysOf_c he s w ie hs).mono fun _ _ ⟨x, h1, h2, h3, h4, _, h6⟩ => ⟨x, h1, h2, h3, h4.re, h6⟩
theorem implKeysOf_u {e : E} (he : e.Ty Try.prog 45) (s : ByteArray) (w : World) (ie : e.In w) (hs : e.sz ≤ 1048576) :
    Calls Try.prog 51 #[e.val, .string s] w fun r w' => ∃ x : E, r = .returned x.val ∧ Hid (x.d = keysD e.d s) ∧ x.Ty Try.prog 75 ∧ x.Ho w' w.heap.size w'.heap.size ∧ x.fp.Nodup ∧ Below w.heap.size w w' :=
  (keys_own implKeysOf_c he s w ie hs).mono fun _ _ ⟨x, h1, h2, h3, h4, h5, h6⟩ => ⟨x, h1, h2, h3, h4, h5, h6⟩
end Go.Proofs.Ytfnnbjkjfoiboaa
