/- PutEntry of both sides, over data with places. -/
import Derived.Test.YtfnnbjkjfoiboaaT12
import Derived.Test.YtfnnbjkjfoiboaaKeysOf
namespace Go.Proofs.Ytfnnbjkjfoiboaa
open Go.RowKit
noncomputable def putP (D : E) (nm s : ByteArray) (V : E) : E × Bool := liftD Try.prog 45 (fun e => liftD Try.prog 35 (fun v => ((putE e nm s v).d, putOk e nm s)) (V, false) V) (D, false) D
noncomputable def putD (D : E) (nm s : ByteArray) (V : E) : E := (putP D nm s V).1
noncomputable def putOkD (D : E) (nm s : ByteArray) (V : E) : Bool := (putP D nm s V).2
theorem nmE_sz (e : E) : (nmE e).size ≤ e.sz := by
  unfold nmE
  split
  · simp [E.sz, E.szL]
  · have : ByteArray.empty.size = 0 := rfl
    omega
theorem putL_sz (l : List E) (s : ByteArray) (v : E) : E.szL (putL l s v) ≤ 2 * E.szL l + 2 * v.sz + s.size ∧ (putL l s v).length ≤ l.length + 1 := by
  unfold putL
  split
  · rename_i k hk
    refine ⟨?_, by simp⟩
    have h1 := szL_set_le l k (.agg [.str (nmE (l[k]?.getD v)), v])
    have h2 := nmE_sz (l[k]?.getD v)
    have h3 : (l[k]?.getD v).sz ≤ E.szL l + v.sz := by
      cases h : l[k]? with
      | none => simp
      | some x => have := E.szL_mem (List.mem_of_getElem? h); simp; omega
    simp only [E.sz, E.szL] at h1 ⊢
    omega
  · split
    · exact ⟨by omega, by omega⟩
    · rw [E.szL_app]
      simp only [E.sz, E.szL, List.length_append, List.length_cons, List.length_nil]
      omega
theorem tabsE_len (e : E) : (tabsE e).length ≤ e.sz := by
  unfold tabsE
  split
  · simp only [E.sz, E.szL]; omega
  · simp
theorem putE_sz {e v : E} {nm s : ByteArray} (h : e.sz ≤ 1048576) (h2 : v.sz ≤ 1048576) (hs : s.size ≤ 1048576) (he : e.Ty Try.prog 45) : (putE e nm s v).sz ≤ 1073741824 := by
  obtain ⟨x0A, x0c, l, x1A, x1c, l2, rfl, ⟨hl, hk⟩, ⟨hl2, hk2⟩, -⟩ := shape_impl_Env he
  simp only [E.sz, E.szL] at h
  rcases idxF_cases (isNm nm) l2 with h0 | ⟨k, h0, hlt⟩
  · rw [(putE_none h0).1]
    simp only [E.sz, E.szL]; omega
  · obtain ⟨x, hx⟩ : ∃ x, l2[k]? = some x := ⟨_, List.getElem?_eq_getElem hlt⟩
    have hxm := E.szL_mem (List.mem_of_getElem? hx)
    obtain ⟨y0, y1A, y1c, y1, rfl, hy0, ⟨hy1, hy1k⟩, -⟩ := shape_impl_Table (hl2 x (List.mem_of_getElem? hx))
    rw [(putE_some h0 hx).1]
    have h3 := putL_sz y1 s v
    have h8 := szL_set_le l2 k (E.agg [.str y0, .lst 4 116 none 0 (putL y1 s v)])
    simp only [E.sz, E.szL, List.length_set] at hxm h8 ⊢
    omega
theorem putD_sz {D V : E} {nm s : ByteArray} (h : D.sz ≤ 1048576) (h2 : V.sz ≤ 1048576) (hs : s.size ≤ 1048576) : (putD D nm s V).sz ≤ 1073741824 := by
  refine liftD_prop (fun x : E × Bool => x.1.sz ≤ 1073741824) (fun e he hd => liftD_prop (fun x : E × Bool => x.1.sz ≤ 1073741824) (fun v hv hvd => ?_) (by show V.sz ≤ _; omega)) (by show D.sz ≤ _; omega)
  show (putE e nm s v).d.sz ≤ _
  rw [E.sz_d]
  exact putE_sz (by rw [← E.sz_d, hd]; exact h) (by rw [← E.sz_d, hvd]; exact h2) hs he
theorem putE_Ty {e v : E} (he : e.Ty Try.prog 45) (hv : v.Ty Try.prog 35) (nm s : ByteArray) (hs : s.size ≤ 1048576) : (putE e nm s v).Ty Try.prog 45 := by
  obtain ⟨x0A, x0c, l, x1A, x1c, l2, rfl, ⟨hl, hk⟩, ⟨hl2, hk2⟩, -⟩ := shape_impl_Env he
  obtain ⟨v0, v1, v2, rfl, -⟩ := shape_impl_Val hv
  have mkEntry : ∀ q : ByteArray, q.size ≤ 9223372036854775807 → (E.agg [.str q, .agg [.int .i64 v0, .int .i64 v1, .str v2]]).Ty Try.prog 116 := fun q hq =>
    E.Ty.mk_agg Try.underlying116 (E.TyF.mk_cons (by simp only [E.Ty]; exact ⟨Try.underlying9, hq⟩) (E.TyF.mk_cons hv E.TyF.mk_nil))
  have mkTab : ∀ (q : ByteArray) (m : List E), q.size ≤ 9223372036854775807 → (∀ y ∈ m, y.Ty Try.prog 116 ∧ y.enc.length = 4) → (E.agg [.str q, .lst 4 116 none 0 m]).Ty Try.prog 114 := fun q m hq hm =>
    E.Ty.mk_agg Try.underlying114 (E.TyF.mk_cons (by simp only [E.Ty]; exact ⟨Try.underlying9, hq⟩) (E.TyF.mk_cons (E.Ty.mk_lst Try.underlying112 (by kernel_rfl) (fun y hy => (hm y hy).1) (fun y hy => (hm y hy).2)) E.TyF.mk_nil))
  have tabs : ∀ m : List E, (∀ y ∈ m, y.Ty Try.prog 114 ∧ y.enc.length = 2) → (E.agg [.lst 4 50 none 0 l, .lst 2 114 none 0 m]).Ty Try.prog 45 := fun m hm =>
    E.Ty.mk_agg Try.underlying45 (E.TyF.mk_cons (E.Ty.mk_lst Try.underlying42 (by kernel_rfl) hl hk) (E.TyF.mk_cons (E.Ty.mk_lst Try.underlying43 (by kernel_rfl) (fun y hy => (hm y hy).1) (fun y hy => (hm y hy).2)) E.TyF.mk_nil))
  rcases idxF_cases (isNm nm) l2 with h0 | ⟨k, h0, hlt⟩
  · rw [(putE_none h0).1]
    exact tabs _ fun y hy => ⟨hl2 y hy, hk2 y hy⟩
  · obtain ⟨x, hx⟩ : ∃ x, l2[k]? = some x := ⟨_, List.getElem?_eq_getElem hlt⟩
    obtain ⟨y0, y1A, y1c, y1, rfl, hy0, ⟨hy1, hy1k⟩, -⟩ := shape_impl_Table (hl2 x (List.mem_of_getElem? hx))
    rw [(putE_some h0 hx).1]
    refine tabs _ fun y hy => ?_
    rcases List.mem_or_eq_of_mem_set hy with h | rfl
    · exact ⟨hl2 y h, hk2 y h⟩
    · refine ⟨mkTab y0 _ hy0 fun z hz => ?_, rfl⟩
      unfold putL at hz
      split at hz
      · rename_i i hi
        obtain ⟨hit, _⟩ := List.findIdx?_eq_some_iff_getElem.1 hi
        rcases List.mem_or_eq_of_mem_set hz with h | rfl
        · exact ⟨hy1 z h, hy1k z h⟩
        · obtain ⟨z0, z1, z2, z3, e1, hz0, -⟩ := shape_impl_Entry (hy1 _ (List.getElem_mem hit))
          rw [List.getElem?_eq_getElem hit, e1]
          exact ⟨mkEntry _ (by simpa [nmE] using hz0), rfl⟩
      · split at hz
        · exact ⟨hy1 z hz, hy1k z hz⟩
        · rcases List.mem_append.1 hz with h | h
          · exact ⟨hy1 z h, hy1k z h⟩
          · rw [List.mem_singleton] at h
            subst h
            exact ⟨mkEntry s (by omega), rfl⟩
theorem put_own {f : FuncId} (hf : ∀ {e v : E} (_ : e.Ty Try.prog 45) (_ : v.Ty Try.prog 35) (nm s : ByteArray) (_ : e.sz ≤ 1048576), Ctr Try.prog f [.ag (acE e), .c (.v (.string nm)), .c (.v (.string s)), .ag (acE v)] [] (.tu [.ag (owE (putE e nm s v)), .c (.v (.bool (putOk e nm s)))]) []) {e v : E} (he : e.Ty Try.prog 45) (hv : v.Ty Try.prog 35) (nm s : ByteArray) (w : World) (ie : e.In w) (hs : e.sz ≤ 1048576) (hss : s.size ≤ 1048576) :
    Calls Try.prog f #[e.val, .string nm, .string s, v.val] w fun r w' => ∃ x : E, r = .returned (.tuple #[x.val, .bool (putOkD e.d nm s v.d)]) ∧ x.d = putD e.d nm s v.d ∧ x.Ty Try.prog 45 ∧ x.Ho w' w.heap.size w'.heap.size ∧ x.fp.Nodup ∧ Below w.heap.size w w' := by
  obtain ⟨e', te, de, ae, le⟩ := liftD_to (f := fun e : E => liftD Try.prog 35 (fun v => ((putE e nm s v).d, putOk e nm s)) (v.d, false) v.d) (z := (e.d, false)) he
  obtain ⟨v', tv, dv, av, lv⟩ := liftD_to (f := fun v : E => ((putE e' nm s v).d, putOk e' nm s)) (z := (v.d, false)) hv
  have hc := hf te tv nm s (by rw [← E.sz_d, de, E.sz_d]; exact hs)
  rw [ae, av] at hc
  have hD : putP e.d nm s v.d = ((putE e' nm s v').d, putOk e' nm s) := by unfold putP; rw [le, lv]
  have iv : v.In w := by
    obtain ⟨v0, v1, v2, rfl, -⟩ := shape_impl_Val hv
    simp [E.In, E.Re, E.ReL]
  unfold putOkD putD
  rw [hD]
  have e1 : avI e = .ag (acE e) := by obtain ⟨x0A, x0c, l, x1A, x1c, l2, rfl, -⟩ := shape_impl_Env he; rfl
  have e2 : avI v = .ag (acE v) := by obtain ⟨v0, v1, v2, rfl, -⟩ := shape_impl_Val hv; rfl
  exact ctr_own2 (t := 45) (D := putE e' nm s v') rfl hc (putE_Ty te tv nm s hss) (us := [e.val, .string nm, .string s, v.val]) (VRL_cons (by rw [← e1]; exact avI_VR he ie) (VRL_cons (VR_str nm) (VRL_cons (VR_str s) (VRL_cons (by rw [← e2]; exact avI_VR hv iv) VRL_nil))))
theorem specPutEntry_u {e v : E} (he : e.Ty Try.prog 45) (hv : v.Ty Try.prog 35) (nm s : ByteArray) (w : World) (ie : e.In w) (hs : e.sz ≤ 1048576) (hss : s.size ≤ 1048576) :
    Calls Try.prog 48 #[e.val, .string nm, .string s, v.val] w fun r w' => ∃ x : E, r = .returned (.tuple #[x.val, .bool (putOkD e.d nm s v.d)]) ∧ Hid (x.d = putD e.d nm s v.d) ∧ x.Ty Try.prog 45 ∧ x.Re w' w.heap.size w'.heap.size ∧ Below w.heap.size w w' :=
  (put_own specPutEntry_c he hv nm s w ie hs hss).mono fun _ _ ⟨x, h1, h2, h3, h4, _, h6⟩ => ⟨x, h1, h2, h3, h4.re, h6⟩
theorem implPutEntry_u {e v : E} (he : e.Ty Try.prog 45) (hv : v.Ty Try.prog 35) (nm s : ByteArray) (w : World) (ie : e.In w) (hs : e.sz ≤ 1048576) (hss : s.size ≤ 1048576) :
    Calls Try.prog 47 #[e.val, .string nm, .string s, v.val] w fun r w' => ∃ x : E, r = .returned (.tuple #[x.val, .bool (putOkD e.d nm s v.d)]) ∧ Hid (x.d = putD e.d nm s v.d) ∧ x.Ty Try.prog 45 ∧ x.Ho w' w.heap.size w'.heap.size ∧ x.fp.Nodup ∧ Below w.heap.size w w' :=
  (put_own implPutEntry_c he hv nm s w ie hs hss).mono fun _ _ ⟨x, h1, h2, h3, h4, h5, h6⟩ => ⟨x, h1, h2, h3, h4, h5, h6⟩
end Go.Proofs.Ytfnnbjkjfoiboaa
