/- DropEntry: the program's contract; type and size of what comes back. -/
import Derived.Test.YtfnnbjkjfoiboaaT16
import Derived.Test.YtfnnbjkjfoiboaaPutEntry
namespace Go.Proofs.Ytfnnbjkjfoiboaa
open Go.RowKit
theorem implDropEntry_c {e : E} (he : e.Ty Try.prog 45) (nm s : ByteArray) (hsz : e.sz ≤ 1048576) : Ctr Try.prog 50 [.ag (acE e), .c (.v (.string nm)), .c (.v (.string s))] [] (.ag (owE (dropE e nm s))) [] := by
  have ca := tableAt_c he nm hsz
  have cc := copyEnv_c he hsz
  obtain ⟨x0A, x0c, l, x1A, x1c, l2, rfl, ⟨hl, hk⟩, ⟨hl2, hk2⟩, -⟩ := shape_impl_Env he
  have hlen : l.length ≤ 1048576 := by simp only [E.sz, E.szL] at hsz; omega
  have hlen2 : l2.length ≤ 1048576 := by simp only [E.sz, E.szL] at hsz; omega
  rcases idxF_cases (isNm nm) l2 with h0 | ⟨k, h0, hlt⟩
  · rw [show tabsE _ = l2 from rfl, h0] at ca
    rw [dropE_none h0]
    exact idrop0_c hlen hlen2 cc ca
  · rw [show tabsE _ = l2 from rfl, h0] at ca
    obtain ⟨x, hx⟩ : ∃ x, l2[k]? = some x := ⟨_, List.getElem?_eq_getElem hlt⟩
    have hxt := hl2 x (List.mem_of_getElem? hx)
    have hxs : x.sz ≤ 1048576 := by
      have := E.szL_mem (List.mem_of_getElem? hx)
      simp only [E.sz, E.szL] at hsz; omega
    obtain ⟨y0, y1A, y1c, y1, rfl, hy0, ⟨hy1, hy1k⟩, -⟩ := shape_impl_Table hxt
    have hy1l : y1.length ≤ 1048576 := by simp only [E.sz, E.szL] at hxs; omega
    rw [dropE_some h0 hx]
    have hr : ∀ m : List E, owE (.agg [.lst 4 50 none 0 l, .lst 2 114 none 0 (l2.set k (.agg [.str y0, .lst 4 116 none 0 m]))]) = [.ow 50 l.length 4 (owL l), .ow 114 l2.length 2 ((owL (l2.take k) ++ [.v (.string y0)]) ++ .ow 116 m.length 4 (owL m) :: owL (l2.drop (k + 1)))] := by
      intro m
      simp only [owE, owL, List.length_set, List.append_nil]
      rw [tab_set hlt]; rfl
    rw [hr]
    exact idropS_c hk2 hy1k hy1 hlen hlen2 hy1l hlt hx cc ca
theorem szL_filter (p : E → Bool) : ∀ l : List E, E.szL (l.filter p) ≤ E.szL l
  | [] => Nat.le_refl _
  | x :: r => by
    have := szL_filter p r
    rw [List.filter_cons]
    split <;> simp only [E.szL] <;> omega
theorem dropE_sz {e : E} (he : e.Ty Try.prog 45) (nm s : ByteArray) (h : e.sz ≤ 1048576) : (dropE e nm s).sz ≤ 1073741824 := by
  obtain ⟨x0A, x0c, l, x1A, x1c, l2, rfl, ⟨hl, hk⟩, ⟨hl2, hk2⟩, -⟩ := shape_impl_Env he
  simp only [E.sz, E.szL] at h
  rcases idxF_cases (isNm nm) l2 with h0 | ⟨k, h0, hlt⟩
  · rw [dropE_none h0]
    simp only [E.sz, E.szL]; omega
  · obtain ⟨x, hx⟩ : ∃ x, l2[k]? = some x := ⟨_, List.getElem?_eq_getElem hlt⟩
    have hxm := E.szL_mem (List.mem_of_getElem? hx)
    obtain ⟨y0, y1A, y1c, y1, rfl, hy0, ⟨hy1, hy1k⟩, -⟩ := shape_impl_Table (hl2 x (List.mem_of_getElem? hx))
    rw [dropE_some h0 hx]
    have h3 := szL_filter (notNm s) y1
    have h4 := List.length_filter_le (notNm s) y1
    have h8 := szL_set_le l2 k (E.agg [.str y0, .lst 4 116 none 0 (y1.filter (notNm s))])
    simp only [E.sz, E.szL, List.length_set] at hxm h8 ⊢
    omega
theorem dropE_Ty {e : E} (he : e.Ty Try.prog 45) (nm s : ByteArray) (_ : e.sz ≤ 1048576) : (dropE e nm s).Ty Try.prog 45 := by
  obtain ⟨x0A, x0c, l, x1A, x1c, l2, rfl, ⟨hl, hk⟩, ⟨hl2, hk2⟩, -⟩ := shape_impl_Env he
  have tabs : ∀ m : List E, (∀ y ∈ m, y.Ty Try.prog 114 ∧ y.enc.length = 2) → (E.agg [.lst 4 50 none 0 l, .lst 2 114 none 0 m]).Ty Try.prog 45 := fun m hm =>
    E.Ty.mk_agg Try.underlying45 (E.TyF.mk_cons (E.Ty.mk_lst Try.underlying42 (by kernel_rfl) hl hk) (E.TyF.mk_cons (E.Ty.mk_lst Try.underlying43 (by kernel_rfl) (fun y hy => (hm y hy).1) (fun y hy => (hm y hy).2)) E.TyF.mk_nil))
  rcases idxF_cases (isNm nm) l2 with h0 | ⟨k, h0, hlt⟩
  · rw [dropE_none h0]
    exact tabs _ fun y hy => ⟨hl2 y hy, hk2 y hy⟩
  · obtain ⟨x, hx⟩ : ∃ x, l2[k]? = some x := ⟨_, List.getElem?_eq_getElem hlt⟩
    obtain ⟨y0, y1A, y1c, y1, rfl, hy0, ⟨hy1, hy1k⟩, -⟩ := shape_impl_Table (hl2 x (List.mem_of_getElem? hx))
    rw [dropE_some h0 hx]
    refine tabs _ fun y hy => ?_
    rcases List.mem_or_eq_of_mem_set hy with h | rfl
    · exact ⟨hl2 y h, hk2 y h⟩
    · exact ⟨E.Ty.mk_agg Try.underlying114 (E.TyF.mk_cons (by simp only [E.Ty]; exact ⟨Try.underlying9, hy0⟩) (E.TyF.mk_cons (E.Ty.mk_lst Try.underlying112 (by kernel_rfl) (fun z hz => hy1 z ((List.mem_filter.1 hz).1)) (fun z hz => hy1k z ((List.mem_filter.1 hz).1))) E.TyF.mk_nil)), rfl⟩
end Go.Proofs.Ytfnnbjkjfoiboaa
