/- append onto a slice of the call's own: only that slice's block turns; and where the new slice lies. -/
import Derived.Test.YtfdjognmechcfaaSl
import Derived.Maps.AppendAt
import Derived.Deep.AppendLies
namespace Go.Proofs.Ytfdjognmechcfaa
open Go.RowKit

theorem wp_appk {α : Type} {P : Program} {ops : Array Oper} {rest : List Oper} {o : Oper} {a : Act} {Q : Exit → Act → World → Prop} {w : World} {lo hi lo' hi' k bytes : Nat} {t e : TypeId} {enc : α → List Value} (hE : El P t e k bytes)
    (hlen : ∀ d, (enc d).length = k) (hone : ∀ d u, u ∈ enc d → u.oneCell' = true) (hgd : o.guard = none) (s x : Operand) (ho : o.op = .call { callee := .builtin .append, args := #[s, x], argTypes := #[t, t] })
    (v : Value) (ds : List α) (hs : a.eval s = v) (hown : Own w lo hi e k enc v ds) (A : Option Addr) (c : Nat) (es : List α) (hx : a.eval x = .slice A es.length c) (hsrc : Sl w lo' hi' k enc (.slice A es.length c) es)
    (hsz : (ds.length + es.length) * bytes ≤ 140737488355328) (hbase : lo ≤ w.heap.size)
    (h : ∀ v' w', Own w' lo w'.heap.size e k enc v' (ds ++ es) → Kp lo hi w w' → (v'.ownBlock = v.ownBlock ∨ v'.ownBlock = some w.heap.size) → wpList P ops Q rest (a.put o.dst v') w') : wpList P ops Q (o :: rest) a w := by
  obtain ⟨ht, z, hinfo, hzs, hk0, hb0⟩ := hE
  obtain ⟨i, h1, h2, h3, h4⟩ := info_parts hinfo
  have h63 : ds.length + es.length ≤ maxLen := by
    have := Nat.le_mul_of_pos_right (ds.length + es.length) hb0
    unfold maxLen; omega
  rcases A with _ | ad
  · obtain ⟨rfl, hn, rfl⟩ := hsrc.nil_of_none
    refine wpList_append_own_none hgd s x t ho lo e i k ht h1 v ds.length _ hs hown.1 hx ?_
    exact h v w (by rw [List.append_nil]; exact Own.of_owns hown.1 (Nat.le_refl _)) (Kp.refl _ _ _) (.inl rfl)
  · have hnews : ∀ j u, (es.flatMap enc)[j]? = some u → w.cell? (ad.add j) = some u := by
      intro j u hu
      have hj : j < es.length * k := by
        rcases Nat.lt_or_ge j (es.length * k) with h | h
        · exact h
        · rw [List.getElem?_eq_none (by rw [flat_len hlen]; exact h)] at hu; cases hu
      have hq : j / k < es.length := (Nat.div_lt_iff_lt_mul hk0).2 hj
      obtain ⟨b, o', hA, _, _, hc⟩ := hsrc.at_ hq
      cases hA
      have hjj : j / k * k + j % k = j := by rw [Nat.mul_comm]; exact Nat.div_add_mod j k
      have := flat_at hlen es (j / k) hq (j % k) (Nat.mod_lt _ hk0)
      rw [hjj] at this
      have hcc := hc (j % k) u (by rw [← this]; exact hu)
      rw [show o' + j / k * k + j % k = o' + j by omega] at hcc
      have he : (⟨b, o', none⟩ : Addr).add j = ⟨b, o' + j, none⟩ := by unfold Addr.add; split <;> simp_all
      rw [he]; exact hcc
    refine wpList_append_own_at w hgd s x t ho lo e i z k bytes ht h1 h2 h3 h4 hzs hk0 v ds.length _ hs hown.1 ad es.length c (es.flatMap enc) hx (flat_len hlen es) hnews ?_ h63 hsz hbase ?_
    · intro u hu
      obtain ⟨d, _, hd⟩ := List.mem_flatMap.1 hu
      exact hone d u hd
    · intro v' w' h1' h2' _ h4'
      refine h v' w' ?_ ⟨h2'.os, h2'.tape, h2'.output, h2'.size, fun g hg hh => h2'.block g hg fun e => ?_⟩ h4'
      · refine Own.of_owns ?_ (Nat.le_refl _)
        rw [List.length_append, List.flatMap_append]
        exact h1'
      · have ha := (hown.1.lt g e.symm).1
        have hb := hown.2 g e.symm
        omega
theorem wp_appk1 {α : Type} {P : Program} {ops : Array Oper} {rest : List Oper} {o : Oper} {a : Act} {Q : Exit → Act → World → Prop} {w : World} {lo hi k bytes : Nat} {t e : TypeId} {enc : α → List Value} {cs : Array Value} (hE : El P t e k bytes)
    (hlen : ∀ d, (enc d).length = k) (hone : ∀ d u, u ∈ enc d → u.oneCell' = true) (hgd : o.guard = none) (s x : Operand) (ho : o.op = .call { callee := .builtin .append, args := #[s, x], argTypes := #[t, t] })
    (v : Value) (ds : List α) (d : α) (hs : a.eval s = v) (hown : Own w lo hi e k enc v ds) (hhi : hi ≤ w.heap.size) (hx : a.eval x = .slice (some ⟨w.heap.size, 0, none⟩) 1 1) (hcs : cs.toList = enc d)
    (hsz : (ds.length + 1) * bytes ≤ 140737488355328) (hbase : lo ≤ w.heap.size)
    (h : ∀ v' w', Own w' lo w'.heap.size e k enc v' (ds ++ [d]) → Kp lo hi w w' → (v'.ownBlock = v.ownBlock ∨ v'.ownBlock = some (w.heap.size + 1)) → wpList P ops Q rest (a.put o.dst v') w') : wpList P ops Q (o :: rest) a (w.alloc (.cells cs e)) :=
  wp_appk hE hlen hone hgd s x ho v ds hs (hown.alloc hhi _) _ 1 [d] hx (sl_one d hcs) hsz (by simp; omega)
    fun v' w' h1 h2 h3 => h v' w' h1 ((Kp.of_below ((Below.refl _ w).alloc (Nat.le_refl _) _)).trans h2) (by rw [World.size_alloc] at h3; exact h3)
section
variable {α : Type} {P : Program} {ops : Array Oper} {o : Oper} {a : Act} {w : World} {lo hi k bytes H : Nat} {t e : TypeId} {enc : α → List Value}
theorem app_parts (hlen : ∀ d, (enc d).length = k) (hone : ∀ d u, u ∈ enc d → u.oneCell' = true) {ds : List α} {d : α} {v : Value} (hown : Own w lo hi e k enc v ds) (hk0 : 0 < k) (hb0 : 0 < bytes) (hsz : (ds.length + 1) * bytes ≤ 140737488355328) :
    ds.length + 1 ≤ maxLen ∧ (enc d).length = 1 * k ∧ ∀ u ∈ enc d, u.oneCell' = true := by
  have := Nat.le_mul_of_pos_right (ds.length + 1) hb0
  exact ⟨by unfold maxLen; omega, by rw [hlen, Nat.one_mul], hone d⟩
theorem app_after {ds : List α} {d : α} {v : Value} (hown : Own w lo hi e k enc v ds) {g cap : Nat} {w' : World}
    (h1 : w'.ownsRow lo e k (.slice (some ⟨g, 0, none⟩) (ds.length + 1) cap) (ds.length + 1) (ds.flatMap enc ++ enc d)) (h2 : w.grownBy w' v.ownBlock) (h3 : v.ownBlock = some g ∨ g = H) :
    Own w' lo w'.heap.size e k enc (.slice (some ⟨g, 0, none⟩) (ds.length + 1) cap) (ds ++ [d]) ∧ Kp lo hi w w' ∧ (lo ≤ g ∧ g < hi ∨ g = H) := by
  refine ⟨?_, ⟨h2.os, h2.tape, h2.output, h2.size, fun g hg hh => h2.block g hg fun e => ?_⟩, ?_⟩
  · refine Own.of_owns ?_ (Nat.le_refl _)
    rw [List.length_append, List.flatMap_append, List.flatMap_singleton]
    exact h1
  · have ha := (hown.1.lt g e.symm).1
    have hb := hown.2 g e.symm
    omega
  · rcases h3 with h3 | h3
    · have ha := (hown.1.lt g h3).1
      have hb := hown.2 g h3
      exact .inl ⟨ha, hb⟩
    · exact .inr h3
/-- append of one element that lies in block B, at a step of a region that draws its order. -/
theorem step_app1 {K : Act → World → Prop} {Q : Exit → Act → World → Prop} {E : Prop} {B : Nat} {cs : Array Value} {fr : Nat × Nat} {te : TypeId} (hE : El P t e k bytes)
    (hlen : ∀ d, (enc d).length = k) (hone : ∀ d u, u ∈ enc d → u.oneCell' = true) (hgd : o.guard = none) (s x : Operand) (ho : o.op = .call { callee := .builtin .append, args := #[s, x], argTypes := #[t, t] })
    (v : Value) (ds : List α) (d : α) (hs : a.eval s = v) (hown : Own w lo hi e k enc v ds) (hx : a.eval x = .slice (some ⟨B, 0, none⟩) 1 1) (hB : w.heap[B]? = some (.cells cs te fr)) (hcs : cs.toList = enc d)
    (hsz : (ds.length + 1) * bytes ≤ 140737488355328) (hbase : lo ≤ w.heap.size) (hH : w.heap.size = H)
    (h : ∀ g n c w', Own w' lo w'.heap.size e k enc (.slice (some ⟨g, 0, none⟩) n c) (ds ++ [d]) → Hid (n = ds.length + 1) → Kp lo hi w w' → (lo ≤ g ∧ g < hi ∨ g = H) → g < w'.heap.size → K (a.put o.dst (.slice (some ⟨g, 0, none⟩) n c)) w') :
    if Region.wanted o (yielded ops a.tmps) = true then Oper.wp P o a w K Q else E := by
  obtain ⟨ht, z, hinfo, hzs, hk0, hb0⟩ := hE
  obtain ⟨i, h1, h2, h3, h4⟩ := info_parts hinfo
  obtain ⟨p1, p2, p3⟩ := app_parts hlen hone (d := d) hown hk0 hb0 hsz
  refine step_append_lies w hgd s x t ho lo e i z k bytes ht h1 h2 h3 h4 hzs hk0 v ds.length _ hs hown.1 ⟨B, 0, none⟩ 1 1 (enc d) hx p2 (by rw [← hcs]; exact World.news_of_block hB) p3 Nat.one_pos p1 hsz hbase H hH ?_
  intro g cap w' g1 g2 g3 g4
  obtain ⟨q1, q2, q3⟩ := app_after hown g1 g2 g3
  exact h g _ cap w' q1 rfl q2 q3 g4
/-- The same in a plain region. -/
theorem list_app1 {rest : List Oper} {Q : Exit → Act → World → Prop} {B : Nat} {cs : Array Value} {fr : Nat × Nat} {te : TypeId} (hE : El P t e k bytes)
    (hlen : ∀ d, (enc d).length = k) (hone : ∀ d u, u ∈ enc d → u.oneCell' = true) (hgd : o.guard = none) (s x : Operand) (ho : o.op = .call { callee := .builtin .append, args := #[s, x], argTypes := #[t, t] })
    (v : Value) (ds : List α) (d : α) (hs : a.eval s = v) (hown : Own w lo hi e k enc v ds) (hx : a.eval x = .slice (some ⟨B, 0, none⟩) 1 1) (hB : w.heap[B]? = some (.cells cs te fr)) (hcs : cs.toList = enc d)
    (hsz : (ds.length + 1) * bytes ≤ 140737488355328) (hbase : lo ≤ w.heap.size) (hH : w.heap.size = H)
    (h : ∀ g n c w', Own w' lo w'.heap.size e k enc (.slice (some ⟨g, 0, none⟩) n c) (ds ++ [d]) → Hid (n = ds.length + 1) → Kp lo hi w w' → (lo ≤ g ∧ g < hi ∨ g = H) → g < w'.heap.size → wpList P ops Q rest (a.put o.dst (.slice (some ⟨g, 0, none⟩) n c)) w') :
    wpList P ops Q (o :: rest) a w := by
  obtain ⟨ht, z, hinfo, hzs, hk0, hb0⟩ := hE
  obtain ⟨i, h1, h2, h3, h4⟩ := info_parts hinfo
  obtain ⟨p1, p2, p3⟩ := app_parts hlen hone (d := d) hown hk0 hb0 hsz
  refine wpList_append_lies w hgd s x t ho lo e i z k bytes ht h1 h2 h3 h4 hzs hk0 v ds.length _ hs hown.1 ⟨B, 0, none⟩ 1 1 (enc d) hx p2 (by rw [← hcs]; exact World.news_of_block hB) p3 Nat.one_pos p1 hsz hbase H hH ?_
  intro g cap w' g1 g2 g3 g4
  obtain ⟨q1, q2, q3⟩ := app_after hown g1 g2 g3
  exact h g _ cap w' q1 rfl q2 q3 g4
end
/- What is not frozen. -/
theorem frz_kp {w w' : World} {lo hi b o : Nat} (hb : Kp lo hi w w') (h : w.frozen? ⟨b, o, none⟩ = false) (hl : b < w.heap.size) (hB : b < lo ∨ hi ≤ b) : w'.frozen? ⟨b, o, none⟩ = false := by
  have := hb.block b hl hB
  unfold World.frozen? at h ⊢
  rw [this]; exact h
theorem frz_below {w w' : World} {B b o : Nat} (hb : Below B w w') (h : w.frozen? ⟨b, o, none⟩ = false) (hB : b < B) : w'.frozen? ⟨b, o, none⟩ = false := (hb.frozen (p := ⟨b, o, none⟩) hB).trans h
theorem frz_drew {w : World} {b o : Nat} (h : w.frozen? ⟨b, o, none⟩ = false) : w.drew.frozen? ⟨b, o, none⟩ = false := h
theorem frz_drewN {w : World} {b o n : Nat} (h : w.frozen? ⟨b, o, none⟩ = false) : (w.drewN n).frozen? ⟨b, o, none⟩ = false := h
theorem frz_alloc {w : World} {b o : Nat} {x : Obj} (h : w.frozen? ⟨b, o, none⟩ = false) (hb : b < w.heap.size) : (w.alloc x).frozen? ⟨b, o, none⟩ = false := frz_below ((Below.refl _ w).alloc (Nat.le_refl _) x) h hb
theorem frz_new {w : World} {cs : Array Value} {t : TypeId} {o : Nat} : (w.alloc (.cells cs t)).frozen? ⟨w.heap.size, o, none⟩ = false := by
  unfold World.frozen?
  rw [heap_alloc_new w (.cells cs t)]
  simp
theorem Kp.setAny {lo hi : Nat} {a w : World} (h : Kp lo hi a w) {g j : Nat} (hp : lo ≤ g ∧ g < hi ∨ a.heap.size ≤ g) (u : Value) : Kp lo hi a (w.setCell ⟨g, j, none⟩ u) :=
  ⟨h.os, h.tape, h.output, by simpa using h.size, fun k hk hh => (Below.heap_setCell w ⟨g, j, none⟩ u k (by show k ≠ g; omega)).trans (h.block k hk hh)⟩
theorem Own.setOther {α : Type} {w : World} {lo hi k g n c p j : Nat} {e : TypeId} {enc : α → List Value} {ds : List α} (h : Own w lo hi e k enc (.slice (some ⟨g, 0, none⟩) n c) ds) (hg : g ≠ p) (u : Value) : Own (w.setCell ⟨p, j, none⟩ u) lo hi e k enc (.slice (some ⟨g, 0, none⟩) n c) ds := by
  obtain ⟨⟨hl, h | ⟨g', cap, cur, hv, hg', hh, hr⟩⟩, hh2⟩ := h
  · cases h.1
  · injection hv with e1 e2 e3
    injection e1 with e1
    injection e1 with e1
    subst e1
    exact ⟨⟨hl, .inr ⟨g, cap, cur, by rw [e2, e3], hg', (Below.heap_setCell w ⟨p, j, none⟩ u g hg).trans hh, hr⟩⟩, hh2⟩
theorem frz_set {w : World} {q a : Addr} {v : Value} : (w.setCell q v).frozen? a = w.frozen? a := by simp [go_sem]
theorem cell_setb {w : World} {b o p j : Nat} {u v : Value} (h : w.cell? ⟨b, o, none⟩ = some u) (hb : b ≠ p) : (w.setCell ⟨p, j, none⟩ v).cell? ⟨b, o, none⟩ = some u :=
  (World.cell?_of_block (Below.heap_setCell w ⟨p, j, none⟩ v b hb)).trans h
theorem frz_setb {w : World} {b o p j : Nat} {v : Value} (h : w.frozen? ⟨b, o, none⟩ = false) (hb : b ≠ p) : (w.setCell ⟨p, j, none⟩ v).frozen? ⟨b, o, none⟩ = false := by
  have := Below.heap_setCell w ⟨p, j, none⟩ v b hb
  unfold World.frozen? at h ⊢
  rw [this]; exact h
end Go.Proofs.Ytfdjognmechcfaa
