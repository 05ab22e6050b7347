/- The abstract machine, four: what writes and makes. -/
import Derived.Test.YtfnnbjkjfoiboaaA3
namespace Go.Proofs.Ytfnnbjkjfoiboaa
open Go.RowKit

/-- Part of a list replaced. -/
def spl {α : Type} (l : List α) (o : Nat) (m : List α) : List α := l.take o ++ m ++ l.drop (o + m.length)
theorem spl_len {α : Type} {l m : List α} {o : Nat} (h : o + m.length ≤ l.length) : (spl l o m).length = l.length := by
  unfold spl; simp only [List.length_append, List.length_take, List.length_drop]; omega
theorem spl_get {α : Type} {l m : List α} {o : Nat} (h : o + m.length ≤ l.length) (j : Nat) : (spl l o m)[j]? = if j < o then l[j]? else if j < o + m.length then m[j - o]? else l[j]? := by
  unfold spl
  have h1 : (l.take o).length = o := by rw [List.length_take]; omega
  by_cases hj : j < o
  · rw [if_pos hj, List.append_assoc, List.getElem?_append_left (by omega), List.getElem?_take_of_lt hj]
  · rw [if_neg hj, List.append_assoc, List.getElem?_append_right (by omega), h1]
    by_cases hj2 : j < o + m.length
    · rw [if_pos hj2, List.getElem?_append_left (by omega)]
    · rw [if_neg hj2, List.getElem?_append_right (by omega), List.getElem?_drop]
      congr 1; omega
theorem spl_one {α : Type} {l : List α} {o : Nat} {x : α} (h : o < l.length) : spl l o [x] = l.set o x := by
  apply List.ext_getElem?
  intro j
  rw [spl_get (show o + [x].length ≤ l.length from h), List.getElem?_set]
  by_cases e : o = j
  · subst e; simp [h]
  · by_cases hj : j < o
    · simp [hj, e]
    · simp [hj, e, show ¬ j < o + 1 by omega]
section
variable {w w' : World} {St : Nat → Prop} {φ : Nat → Lc} {K : Nat → Prop}
theorem CRL.spl {l m : List AC} {us vs : List Value} {fs : List Nat} (h : CRL w St φ K l us fs) (h' : CRL w St φ K m vs []) {o : Nat} (ho : o + m.length ≤ l.length) : ∃ fs', CRL w St φ K (spl l o m) (spl us o vs) fs' ∧ fs'.Sublist fs := by
  have e : l = l.take o ++ (subL l o m.length ++ l.drop (o + m.length)) := by
    unfold subL
    rw [← List.drop_drop, List.take_append_drop, List.take_append_drop]
  rw [e] at h
  obtain ⟨us1, us2, f1, f2, rfl, rfl, h1, h2⟩ := h.split
  obtain ⟨us3, us4, f3, f4, rfl, rfl, h3, h4⟩ := h2.split
  have l1 := h1.len
  have l3 := h3.len
  have lv := h'.len
  have e1 : us1.length = o := by rw [l1, List.length_take]; omega
  have e3 : us3.length = vs.length := by rw [l3, lv]; unfold subL; simp only [List.length_take, List.length_drop]; omega
  refine ⟨f1 ++ f4, ?_, ?_⟩
  · unfold Proofs.Ytfnnbjkjfoiboaa.spl
    have g1 : (us1 ++ (us3 ++ us4)).take o = us1 := by rw [← e1, List.take_left]
    have g2 : (us1 ++ (us3 ++ us4)).drop (o + vs.length) = us4 := by rw [← List.append_assoc, ← e1, ← e3, ← List.length_append, List.drop_left]
    rw [g1, g2]
    have := (h1.app h').app h4
    rwa [List.append_nil] at this
  · exact List.Sublist.append_left (List.sublist_append_right f3 f4) f1
theorem owns_spl {T : TypeId} {k n g cap : Nat} {us vs : List Value} {cur : Array Value} {o : Nat} (hh : w.heap[g]? = some (.cells cur T (0, 0))) (hn : n ≤ cap) (hc : cap ≤ maxLen) (hs : cur.size = cap * k) (ht : cur.toList.take (n * k) = us) (hl : us.length = n * k)
    (ho : o + vs.length ≤ us.length) : (w.setRow g (spl cur.toList o vs).toArray).ownsRow 0 T k (.slice (some ⟨g, 0, none⟩) n cap) n (spl us o vs) := by
  have hle : n * k ≤ cap * k := Nat.mul_le_mul_right k hn
  have hcl : cur.toList.length = cap * k := by simpa using hs
  refine ⟨by rw [spl_len ho, hl], .inr ⟨g, cap, _, rfl, Nat.zero_le _, setRow_heap w g cur _ T _ hh, hn, hc, by simp [spl_len (show o + vs.length ≤ cur.toList.length by omega), hs], ?_⟩⟩
  apply List.ext_getElem?
  intro j
  rw [List.getElem?_take, List.toList_toArray, spl_get (show o + vs.length ≤ us.length from ho)]
  have h2 : ∀ j, us[j]? = if j < n * k then cur.toList[j]? else none := fun j => by rw [← ht, List.getElem?_take]
  by_cases hj : j < n * k
  · rw [if_pos hj, h2, if_pos hj, spl_get (show o + vs.length ≤ cur.toList.length by omega)]
  · rw [if_neg hj, if_neg (by omega), if_neg (by omega), h2, if_neg hj]
end
section
variable {P : Program} {C : Ctx} {φ : Nat → Lc} {F : Nat → List Nat} {St : Nat → Prop} {σ : AS} {a : Act} {w : World}
/-- A store through a pointer. -/
theorem SimF.store (h : SimF C φ F St σ a w) {i o : Nat} {r : Row} (hr : σ.hp i = some r) {u : Value} (hu : CR w St φ σ.Kn (.pt i o) u []) {xs : List AC} {vs : List Value} (hx : CRL w St φ σ.Kn xs vs []) (h1 : ∀ v ∈ vs, v.oneCell' = true)
    (hlen : o + xs.length ≤ r.cs.length) :
    ∃ b p w' F', u = .pointer (some ⟨b, p + o, none⟩) ∧ (storeCells ⟨b, p + o, none⟩ vs 0).run P w = .ok () w' ∧ SimF C φ F' St { σ with hp := upd σ.hp i (some { r with cs := spl r.cs o xs }) } a w' := by
  have hrow := (h.row i r hr).2
  have hnd := h.nod i r hr
  have lv := hx.len
  simp only [CR] at hu
  obtain ⟨_, _, ⟨b, lo, e, rfl⟩ | ⟨b, n, c, e, rfl⟩⟩ := hu
  · have hrow' := hrow
    rw [e] at hrow'
    obtain ⟨hbx, us, h2, cs, T, hh, hc⟩ := hrow'
    have l2 := h2.len
    obtain ⟨fs', h3, hsub⟩ := h2.spl hx hlen
    have hus : lo + us.length ≤ cs.size ∨ us.length = 0 := by
      rcases Nat.eq_zero_or_pos us.length with h0 | h0
      · exact .inr h0
      · left
        have := hc (us.length - 1) us[us.length - 1] (by simp [List.getElem?_eq_getElem (show us.length - 1 < us.length by omega)])
        obtain ⟨hlt, _⟩ := Array.getElem?_eq_some_iff.1 this
        omega
    have hrun : ∃ cs', (storeCells ⟨b, lo + o, none⟩ vs 0).run P w = .ok () (w.setRow b cs') ∧ cs'.size = cs.size ∧ ∀ j, cs'[j]? = if j < lo + o then cs[j]? else if j < lo + o + vs.length then vs[j - (lo + o)]? else cs[j]? := by
      rcases Nat.eq_zero_or_pos vs.length with h0 | h0
      · obtain rfl := List.eq_nil_of_length_eq_zero h0
        refine ⟨cs, ?_, rfl, fun j => ?_⟩
        · rw [setRow_self w b cs T (0, 0) hh]; rfl
        · by_cases hj : j < lo + o
          · rw [if_pos hj]
          · rw [if_neg hj, if_neg (by simp; omega)]
      · have hle : lo + o + vs.length ≤ cs.size := by omega
        have hst := run_storeCells_at P b (lo + o) T vs 0 cs w hh (by simpa using hle) h1
        refine ⟨_, hst, ?_, fun j => ?_⟩
        · simp only [List.size_toArray, List.length_append, List.length_take, List.length_drop, Array.length_toList]; omega
        · have := spl_get (l := cs.toList) (m := vs) (o := lo + o) (by simpa using hle) j
          simp only [spl] at this
          simpa using this
    obtain ⟨cs', hst, hsz, hget⟩ := hrun
    refine ⟨b, lo, w.setRow b cs', upd F i fs', rfl, hst, ?_⟩
    have hh' : (w.setRow b cs').heap[b]? = some (.cells cs' T (0, 0)) := setRow_heap w b cs _ T _ hh
    have hS : ∀ b', St b' → b' < w.heap.size → St b' ∧ (w.setRow b cs').heap[b']? = w.heap[b']? := fun b' hb _ => ⟨hb, setRow_other w b b' cs' (by rintro rfl; exact h.stB i r b' lo hr e hb)⟩
    refine h.setRow hr (Stp.setRow w b cs') (.inl ⟨lo, e⟩) (spl_len hlen) (F' := fs') ?_ (fun b' hb' => .inl (hsub.subset hb')) (hnd.sublist hsub) ?_ ?_
    · rw [e]
      refine ⟨hbx, _, h3.mono hS (by simp) (fun j hj => ⟨hj, rfl⟩) (fun b' hb' => setRow_other w b b' cs' (by rintro rfl; exact h.bxF i i r r b' lo hr hr e (hsub.subset hb'))), cs', T, hh', fun j x hjx => ?_⟩
      rw [spl_get (by omega)] at hjx
      rw [hget]
      by_cases hj : j < o
      · rw [if_pos hj] at hjx; rw [if_pos (by omega)]; exact hc j x hjx
      · rw [if_neg hj] at hjx; rw [if_neg (by omega)]
        by_cases hj2 : j < o + vs.length
        · rw [if_pos hj2] at hjx; rw [if_pos (by omega)]; rw [show lo + j - (lo + o) = j - o by omega]; exact hjx
        · rw [if_neg hj2] at hjx; rw [if_neg (by omega)]; exact hc j x hjx
    · rintro j s lo' us' hj hji e' hl' ⟨cs2, T2, hh2, hc2⟩
      rw [hh] at hh2
      injection hh2 with hh2
      injection hh2 with hh2 hT2
      subst hh2 hT2
      refine ⟨cs', T, hh', fun m x hm => ?_⟩
      have hml : m < us'.length := (List.getElem?_eq_some_iff.1 hm).1
      have hd := h.bxd i j r s b lo lo' hr hj (Ne.symm hji) e e'
      rw [hget]
      by_cases g1 : lo' + m < lo + o
      · rw [if_pos g1]; exact hc2 m x hm
      · rw [if_neg g1, if_neg (by omega)]; exact hc2 m x hm
    · intro hlt hM
      refine .inr ⟨cs, cs', T, hh, hh', hsz, fun q hq => ?_⟩
      rw [hget]
      by_cases g1 : q < lo + o
      · rw [if_pos g1]
      · rw [if_neg g1]
        by_cases g2 : q < lo + o + vs.length
        · exfalso
          rcases Nat.lt_or_ge i C.N with hi | hi
          · obtain ⟨p1, p2⟩ := h.par i hi
            rw [e] at p1
            injection p1 with p1 p1'
            have := p2 r hr (q - lo) (by omega)
            rw [← p1, ← p1', show lo + (q - lo) = q by omega] at this
            exact hq this
          · have := h.new i r b lo hr e hi
            omega
        · rw [if_neg g2]
  · have hrow' := hrow
    rw [e] at hrow'
    obtain ⟨hbx, us, fs, h2, hown, hF⟩ := hrow'
    have l2 := h2.len
    obtain ⟨fs', h3, hsub⟩ := h2.spl hx hlen
    obtain ⟨hl, ⟨hv, _⟩ | ⟨g, cap, cur, hv, _, hh, hn, hc, hs, ht⟩⟩ := hown
    · cases hv
    · injection hv with hv1 hv2 hv3
      injection hv1 with hv1
      injection hv1 with hv1
      subst hv1 hv2 hv3
      have hle : r.n * r.k ≤ c * r.k := Nat.mul_le_mul_right _ hn
      have hst := run_storeCells_at P b o r.T vs 0 cur w hh (by omega) h1
      have hbF : b ∈ F i := by rw [hF]; simp [obl, Value.ownBlock]
      have hbf : b ∉ fs := by
        rw [hF] at hnd
        simp only [obl, Value.ownBlock, List.singleton_append, List.nodup_cons] at hnd
        exact hnd.1
      refine ⟨b, 0, _, upd F i (obl (.slice (some ⟨b, 0, none⟩) r.n c) ++ fs'), by simp, by rw [Nat.zero_add]; exact hst, ?_⟩
      have hspl : (cur.toList.take (o + 0) ++ vs ++ cur.toList.drop (o + 0 + vs.length)).toArray = (spl cur.toList o vs).toArray := by simp [spl]
      rw [hspl]
      have hS : ∀ b', St b' → b' < w.heap.size → St b' ∧ (w.setRow b (spl cur.toList o vs).toArray).heap[b']? = w.heap[b']? := fun b' hb _ => ⟨hb, setRow_other w b b' _ (by rintro rfl; exact h.stF i r b' hr hbF hb)⟩
      refine h.setRow hr (Stp.setRow w b _) (.inr hbF) (spl_len hlen) ?_ (fun b' hb' => .inl ?_) ?_ ?_ ?_
      · rw [e]
        refine ⟨hbx, _, fs', h3.mono hS (by simp) (fun j hj => ⟨hj, rfl⟩) (fun b' hb' => setRow_other w b b' _ (by rintro rfl; exact hbf (hsub.subset hb'))), owns_spl hh hn hc hs ht hl (by omega), rfl⟩
      · rw [hF]
        rcases List.mem_append.1 hb' with hb' | hb'
        · exact List.mem_append_left _ hb'
        · exact List.mem_append_right _ (hsub.subset hb')
      · rw [hF] at hnd
        exact hnd.sublist (List.Sublist.append_left hsub _)
      · intro j s lo us' hj hji e' _ _
        exact absurd hbF (h.bxF j i s r b lo hj hr e')
      · intro hlt hM
        rcases h.own i r b hr hbF with h5 | h5
        · exact absurd h5 hM
        · omega
end
end Go.Proofs.Ytfnnbjkjfoiboaa
