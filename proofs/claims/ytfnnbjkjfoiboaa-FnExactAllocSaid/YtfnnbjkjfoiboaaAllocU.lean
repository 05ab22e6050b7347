/- Alloc of both sides, over data with places. -/
import Derived.Test.YtfnnbjkjfoiboaaT13
namespace Go.Proofs.Ytfnnbjkjfoiboaa
open Go.RowKit
noncomputable def allP (D V : E) : E × Nat := liftD Try.prog 31 (fun e => liftD Try.prog 35 (fun v => ((allE e v).d, allI (varsE e))) (V, 0) V) (D, 0) D
noncomputable def allD (D V : E) : E := (allP D V).1
noncomputable def allID (D V : E) : Nat := (allP D V).2
theorem allL_sz (l : List E) (v : E) : E.szL (allL l v) ≤ E.szL l + v.sz ∧ (allL l v).length ≤ l.length + 1 := by
  unfold allL
  split
  · rename_i k hk
    have h1 := szL_set_le l k (.agg [.int .i64 1, v])
    simp only [E.sz, E.szL, List.length_set] at h1 ⊢
    omega
  · rw [E.szL_app]
    simp only [E.sz, E.szL, List.length_append, List.length_cons, List.length_nil]
    omega
theorem allD_sz {D V : E} (h : D.sz ≤ 1048576) (h2 : V.sz ≤ 1048576) : (allD D V).sz ≤ 1073741824 := by
  refine liftD_prop (fun x : E × Nat => x.1.sz ≤ 1073741824) (fun e he hd => liftD_prop (fun x : E × Nat => x.1.sz ≤ 1073741824) (fun v hv hvd => ?_) (by show V.sz ≤ _; omega)) (by show D.sz ≤ _; omega)
  show (allE e v).d.sz ≤ _
  rw [E.sz_d]
  have e1 : e.sz ≤ 1048576 := by rw [← E.sz_d, hd]; exact h
  have e2 : v.sz ≤ 1048576 := by rw [← E.sz_d, hvd]; exact h2
  obtain ⟨x0A, x0c, l, rfl, -⟩ := shape_impl_Heap he
  have := allL_sz l v
  simp only [allE, varsE, E.sz, E.szL] at e1 ⊢
  omega
theorem allE_Ty {e v : E} (he : e.Ty Try.prog 31) (hv : v.Ty Try.prog 35) : (allE e v).Ty Try.prog 31 := by
  obtain ⟨x0A, x0c, l, rfl, ⟨hl, hk⟩, -⟩ := shape_impl_Heap he
  have mkCell : (E.agg [.int .i64 1, v]).Ty Try.prog 58 ∧ (E.agg [.int .i64 1, v]).enc.length = 4 := by
    obtain ⟨v0, v1, v2, rfl, -⟩ := shape_impl_Val hv
    exact ⟨E.Ty.mk_agg Try.underlying58 (E.TyF.mk_cons (by simp only [E.Ty]; exact ⟨Try.underlying3, by decide⟩) (E.TyF.mk_cons hv E.TyF.mk_nil)), rfl⟩
  have key : ∀ y ∈ allL l v, y.Ty Try.prog 58 ∧ y.enc.length = 4 := by
    intro y hy
    unfold allL at hy
    split at hy
    · rcases List.mem_or_eq_of_mem_set hy with h | rfl
      · exact ⟨hl y h, hk y h⟩
      · exact mkCell
    · rcases List.mem_append.1 hy with h | h
      · exact ⟨hl y h, hk y h⟩
      · rw [List.mem_singleton] at h
        subst h
        exact mkCell
  exact E.Ty.mk_agg Try.underlying31 (E.TyF.mk_cons (E.Ty.mk_lst Try.underlying29 (by kernel_rfl) (fun y hy => (key y hy).1) (fun y hy => (key y hy).2)) E.TyF.mk_nil)
theorem all_own {f : FuncId} (hf : ∀ {e v : E} (_ : e.Ty Try.prog 31) (_ : v.Ty Try.prog 35) (_ : e.sz ≤ 1048576), Ctr Try.prog f [.ag (acE e), .ag (acE v)] [] (.tu [.ag (owE (allE e v)), .c (.v (.int .i64 (allI (varsE e))))]) []) {e v : E} (he : e.Ty Try.prog 31) (hv : v.Ty Try.prog 35) (w : World) (ie : e.In w) (hs : e.sz ≤ 1048576) :
    Calls Try.prog f #[e.val, v.val] w fun r w' => ∃ x : E, r = .returned (.tuple #[x.val, .int .i64 (allID e.d v.d)]) ∧ x.d = allD e.d v.d ∧ x.Ty Try.prog 31 ∧ x.Ho w' w.heap.size w'.heap.size ∧ x.fp.Nodup ∧ Below w.heap.size w w' := by
  obtain ⟨e', te, de, ae, le⟩ := liftD_to (f := fun e : E => liftD Try.prog 35 (fun v => ((allE e v).d, allI (varsE e))) (v.d, 0) v.d) (z := (e.d, 0)) he
  obtain ⟨v', tv, dv, av, lv⟩ := liftD_to (f := fun v : E => ((allE e' v).d, allI (varsE e'))) (z := (v.d, 0)) hv
  have hc := hf te tv (by rw [← E.sz_d, de, E.sz_d]; exact hs)
  rw [ae, av] at hc
  have hD : allP e.d v.d = ((allE e' v').d, allI (varsE e')) := by unfold allP; rw [le, lv]
  have iv : v.In w := by
    obtain ⟨v0, v1, v2, rfl, -⟩ := shape_impl_Val hv
    simp [E.In, E.Re, E.ReL]
  unfold allID allD
  rw [hD]
  have e1 : avI e = .ag (acE e) := by obtain ⟨x0A, x0c, l, rfl, -⟩ := shape_impl_Heap he; rfl
  have e2 : avI v = .ag (acE v) := by obtain ⟨v0, v1, v2, rfl, -⟩ := shape_impl_Val hv; rfl
  exact ctr_own2 (t := 31) (D := allE e' v') rfl hc (allE_Ty te tv) (us := [e.val, v.val]) (VRL_cons (by rw [← e1]; exact avI_VR he ie) (VRL_cons (by rw [← e2]; exact avI_VR hv iv) VRL_nil))
theorem specAlloc_u {e v : E} (he : e.Ty Try.prog 31) (hv : v.Ty Try.prog 35) (w : World) (ie : e.In w) (hs : e.sz ≤ 1048576) :
    Calls Try.prog 17 #[e.val, v.val] w fun r w' => ∃ x : E, r = .returned (.tuple #[x.val, .int .i64 (allID e.d v.d)]) ∧ Hid (x.d = allD e.d v.d) ∧ x.Ty Try.prog 31 ∧ x.Re w' w.heap.size w'.heap.size ∧ Below w.heap.size w w' :=
  (all_own specAlloc_c he hv w ie hs).mono fun _ _ ⟨x, h1, h2, h3, h4, _, h6⟩ => ⟨x, h1, h2, h3, h4.re, h6⟩
theorem implAlloc_u {e v : E} (he : e.Ty Try.prog 31) (hv : v.Ty Try.prog 35) (w : World) (ie : e.In w) (hs : e.sz ≤ 1048576) :
    Calls Try.prog 20 #[e.val, v.val] w fun r w' => ∃ x : E, r = .returned (.tuple #[x.val, .int .i64 (allID e.d v.d)]) ∧ Hid (x.d = allD e.d v.d) ∧ x.Ty Try.prog 31 ∧ x.Ho w' w.heap.size w'.heap.size ∧ x.fp.Nodup ∧ Below w.heap.size w w' :=
  (all_own implAlloc_c he hv w ie hs).mono fun _ _ ⟨x, h1, h2, h3, h4, h5, h6⟩ => ⟨x, h1, h2, h3, h4, h5, h6⟩
end Go.Proofs.Ytfnnbjkjfoiboaa
