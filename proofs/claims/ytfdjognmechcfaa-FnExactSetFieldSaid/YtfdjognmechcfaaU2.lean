/- Data with places: types; marks; frames by footprints. -/
import Derived.Test.YtfdjognmechcfaaU
import Derived.Test.YtfdjognmechcfaaMark
namespace Go.Proofs.Ytfdjognmechcfaa
open Go.RowKit

/-- All that was there is as it was, but for the blocks fp. -/
structure Fr (fp : List Nat) (w w' : World) : Prop where
  os : w'.os = w.os
  tape : w'.tape = w.tape
  output : w'.output = w.output
  size : w.heap.size ≤ w'.heap.size
  block : ∀ k, k < w.heap.size → k ∉ fp → w'.heap[k]? = w.heap[k]?
section
variable {fp fp' : List Nat} {a b c w w' : World} {lo hi B : Nat} {e : E}
theorem Fr.refl (fp : List Nat) (w : World) : Fr fp w w := ⟨rfl, rfl, rfl, Nat.le_refl _, fun _ _ _ => rfl⟩
theorem Fr.trans (h : Fr fp a b) (k : Fr fp b c) : Fr fp a c :=
  ⟨k.os.trans h.os, k.tape.trans h.tape, k.output.trans h.output, Nat.le_trans h.size k.size, fun i hi hh => (k.block i (Nat.lt_of_lt_of_le hi h.size) hh).trans (h.block i hi hh)⟩
theorem Fr.of_below (h : Below a.heap.size a b) : Fr fp a b := ⟨h.os, h.tape, h.output, h.size, fun k hk _ => h.block k hk⟩
theorem Fr.set (h : Fr fp a w) {p : Addr} (h1 : p.block ∈ fp) (u : Value) : Fr fp a (w.setCell p u) :=
  ⟨h.os, h.tape, h.output, by simpa using h.size, fun k hk hh => (Below.heap_setCell w p u k (by rintro rfl; exact hh h1)).trans (h.block k hk hh)⟩
theorem Fr.sub (h : Fr fp a b) (hs : ∀ g ∈ fp, g ∈ fp') : Fr fp' a b := ⟨h.os, h.tape, h.output, h.size, fun k hk hh => h.block k hk fun hm => hh (hs k hm)⟩
theorem Fr.kp (h : Fr fp a b) (hf : ∀ g ∈ fp, lo ≤ g ∧ g < hi) : Kp lo hi a b := ⟨h.os, h.tape, h.output, h.size, fun k hk hh => h.block k hk fun hm => by have := hf k hm; omega⟩
theorem Fr.below (h : Fr fp a b) (hf : ∀ g ∈ fp, B ≤ g) (hB : B ≤ a.heap.size) : Below B a b := ⟨h.os, h.tape, h.output, h.size, fun k hk => h.block k (by omega) fun hm => by have := hf k hm; omega⟩
theorem E.Ho.fr (h : e.Ho a lo hi) (hb : Fr fp a b) (hd : ∀ g ∈ e.fp, g ∉ fp) : e.Ho b lo hi := h.of_fp fun g hg _ _ hs => hb.block g hs (hd g hg)
end

mutual
/-- The marks of an element from k on; of what lies in slices alone. -/
def E.mkc : E → Int → E
  | .int kd _, k => .int kd (if kd = .u8 then k % 256 else k)
  | .bool _, k => .bool (decide (k % 3 = 0))
  | .str _, k => .str (markT k)
  | .agg fs, k => .agg (E.mkcL fs k)
  | .lst s T A c l, k => .lst s T A c (E.mkcL l k)
def E.mkcL : List E → Int → List E
  | [], _ => []
  | e :: r, k => e.mkc k :: E.mkcL r (k + e.cntc)
end
mutual
def E.mk0 : E → Int → E
  | .int kd n, _ => .int kd n
  | .bool b, _ => .bool b
  | .str s, _ => .str s
  | .agg fs, k => .agg (E.mk0L fs k)
  | .lst s T A c l, k => .lst s T A c (E.mkcL l k)
def E.mk0L : List E → Int → List E
  | [], _ => []
  | e :: r, k => e.mk0 k :: E.mk0L r (k + e.cnt)
end
theorem E.mkcL_len : ∀ (l : List E) (k : Int), (E.mkcL l k).length = l.length
  | [], _ => rfl
  | e :: r, k => by simp [E.mkcL, E.mkcL_len r]
mutual
theorem E.mkc_fp : ∀ (e : E) (k : Int), (e.mkc k).fp = e.fp
  | .int _ _, _ => rfl
  | .bool _, _ => rfl
  | .str _, _ => rfl
  | .agg fs, k => by simp only [E.mkc, E.fp]; exact E.mkcL_fp fs k
  | .lst s T A c l, k => by simp only [E.mkc, E.fp]; rw [E.mkcL_fp l k]
theorem E.mkcL_fp : ∀ (l : List E) (k : Int), E.fpL (E.mkcL l k) = E.fpL l
  | [], _ => rfl
  | e :: r, k => by simp only [E.mkcL, E.fpL]; rw [E.mkc_fp e k, E.mkcL_fp r]
end
mutual
theorem E.mk0_fp : ∀ (e : E) (k : Int), (e.mk0 k).fp = e.fp
  | .int _ _, _ => rfl
  | .bool _, _ => rfl
  | .str _, _ => rfl
  | .agg fs, k => by simp only [E.mk0, E.fp]; exact E.mk0L_fp fs k
  | .lst s T A c l, k => by simp only [E.mk0, E.fp]; rw [E.mkcL_fp l k]
theorem E.mk0L_fp : ∀ (l : List E) (k : Int), E.fpL (E.mk0L l k) = E.fpL l
  | [], _ => rfl
  | e :: r, k => by simp only [E.mk0L, E.fpL]; rw [E.mk0_fp e k, E.mk0L_fp r]
end
mutual
theorem E.mk0_enc : ∀ (e : E) (k : Int), (e.mk0 k).enc = e.enc
  | .int _ _, _ => rfl
  | .bool _, _ => rfl
  | .str _, _ => rfl
  | .agg fs, k => by simp only [E.mk0, E.enc]; exact E.mk0L_enc fs k
  | .lst s T A c l, k => by simp only [E.mk0, E.enc, E.mkcL_len]
theorem E.mk0L_enc : ∀ (l : List E) (k : Int), E.encL (E.mk0L l k) = E.encL l
  | [], _ => rfl
  | e :: r, k => by simp only [E.mk0L, E.encL]; rw [E.mk0_enc e k, E.mk0L_enc r]
end
mutual
theorem E.mkc_len : ∀ (e : E) (k : Int), (e.mkc k).enc.length = e.enc.length
  | .int _ _, _ => rfl
  | .bool _, _ => rfl
  | .str _, _ => rfl
  | .agg fs, k => by simp only [E.mkc, E.enc]; exact E.mkcL_encl fs k
  | .lst s T A c l, k => rfl
theorem E.mkcL_encl : ∀ (l : List E) (k : Int), (E.encL (E.mkcL l k)).length = (E.encL l).length
  | [], _ => rfl
  | e :: r, k => by simp only [E.mkcL, E.encL, List.length_append]; rw [E.mkc_len e k, E.mkcL_encl r]
end
theorem E.mk0_val (e : E) (k : Int) : (e.mk0 k).val = e.val := by
  cases e with
  | int | bool | str => rfl
  | agg fs => simp only [E.mk0, E.val]; rw [E.mk0L_enc]
  | lst s T A c l => simp only [E.mk0, E.val, E.mkcL_len]
theorem E.cntcL_app : ∀ (l r : List E), E.cntcL (l ++ r) = E.cntcL l + E.cntcL r
  | [], r => by simp [E.cntcL]
  | e :: l, r => by simp only [List.cons_append, E.cntcL, E.cntcL_app l r]; omega
theorem E.cntcL_take (l : List E) (i : Nat) (h : i < l.length) : E.cntcL (l.take (i + 1)) = E.cntcL (l.take i) + l[i].cntc := by
  rw [List.take_succ_eq_append_getElem h, E.cntcL_app]; simp [E.cntcL]
theorem E.cntcL_le (l : List E) (i : Nat) : E.cntcL (l.take i) ≤ E.cntcL l := by
  conv => rhs; rw [← List.take_append_drop i l]
  rw [E.cntcL_app]; omega
theorem E.mkcL_at : ∀ (l : List E) (k : Int) (i : Nat) (h : i < l.length), (E.mkcL l k)[i]'(by rw [E.mkcL_len]; exact h) = l[i].mkc (k + E.cntcL (l.take i))
  | [], _, i, h => absurd h (by simp)
  | e :: r, k, 0, _ => by simp [E.mkcL, E.cntcL]
  | e :: r, k, i + 1, h => by
    simp only [E.mkcL, List.getElem_cons_succ, List.take_succ_cons, E.cntcL]
    rw [E.mkcL_at r _ i (by simpa using h)]
    congr 1
    omega
/-- The first i elements marked. -/
def mixM (l : List E) (k : Int) (i : Nat) : List E := (E.mkcL l k).take i ++ l.drop i
theorem mixM_len (l : List E) (k : Int) (i : Nat) : (mixM l k i).length = l.length := by
  unfold mixM; rw [List.length_append, List.length_take, List.length_drop, E.mkcL_len]; omega
theorem mixM_zero (l : List E) (k : Int) : mixM l k 0 = l := by simp [mixM]
theorem mixM_end (l : List E) (k : Int) : mixM l k l.length = E.mkcL l k := by
  unfold mixM; rw [List.take_of_length_le (by rw [E.mkcL_len]; exact Nat.le_refl _), List.drop_length, List.append_nil]
theorem mixM_at (l : List E) (k : Int) (i : Nat) (h : i < l.length) : (mixM l k i)[i]'(by rw [mixM_len]; exact h) = l[i] := by
  unfold mixM
  rw [List.getElem_append_right (by rw [List.length_take, E.mkcL_len]; omega)]
  simp only [List.length_take, E.mkcL_len, List.getElem_drop]
  congr 1; omega
theorem mixM_succ (l : List E) (k : Int) (i : Nat) (h : i < l.length) : (mixM l k i).set i (l[i].mkc (k + E.cntcL (l.take i))) = mixM l k (i + 1) := by
  have hl : ((E.mkcL l k).take i).length = i := by rw [List.length_take, E.mkcL_len]; omega
  unfold mixM
  rw [List.set_append_right _ _ (by omega), hl, Nat.sub_self, List.drop_eq_getElem_cons h, List.set_cons_zero, List.take_succ_eq_append_getElem (by rw [E.mkcL_len]; exact h), E.mkcL_at l k i h, List.append_assoc]
  rfl
theorem mixM_fp (l : List E) (k : Int) (i : Nat) : E.fpL (mixM l k i) = E.fpL l := by
  have h : ∀ a b : List E, E.fpL (a ++ b) = E.fpL a ++ E.fpL b := fun a b => by simp [E.fpL_eq]
  have h2 : ∀ (l : List E) (k : Int) (i : Nat), E.fpL ((E.mkcL l k).take i) = E.fpL (l.take i) := by
    intro l
    induction l with
    | nil => intro k i; simp [E.mkcL]
    | cons e r ih =>
      intro k i
      cases i with
      | zero => simp
      | succ i => simp only [E.mkcL, List.take_succ_cons, E.fpL]; rw [E.mkc_fp, ih]
  unfold mixM
  rw [h, h2, ← h, List.take_append_drop]

theorem E.encL_app : ∀ (a b : List E), E.encL (a ++ b) = E.encL a ++ E.encL b := fun a b => by simp [E.encL_eq]
theorem E.fpL_app : ∀ (a b : List E), E.fpL (a ++ b) = E.fpL a ++ E.fpL b := fun a b => by simp [E.fpL_eq]
theorem E.fpL_set {l : List E} {i : Nat} (h : i < l.length) {x : E} (hx : x.fp = l[i].fp) : E.fpL (l.set i x) = E.fpL l := by
  rw [E.fpL_eq, E.fpL_eq]
  simp only [List.flatMap]
  congr 1
  apply List.ext_getElem (by simp)
  intro j h1 h2
  simp only [List.getElem_map, List.getElem_set]
  by_cases e : i = j
  · subst e; rw [if_pos rfl, hx]
  · rw [if_neg e]
/-- A cell of an element turned. -/
theorem E.encL_set {k : Nat} {l : List E} (hk : ∀ e ∈ l, e.enc.length = k) {i : Nat} (h : i < l.length) {x : E} {j : Nat} {u : Value} (hj : j < k) (hx : x.enc = l[i].enc.set j u) : E.encL (l.set i x) = (E.encL l).set (i * k + j) u := by
  have hlx : x.enc.length = k := by rw [hx, List.length_set]; exact hk _ (List.getElem_mem h)
  have hk2 : ∀ e ∈ l.set i x, e.enc.length = k := by
    intro e he
    rcases List.mem_or_eq_of_mem_set he with h | rfl
    · exact hk e h
    · exact hlx
  have hlen := E.encL_len hk
  have hlen2 := E.encL_len hk2
  apply List.ext_getElem?
  intro m
  have hk0 : 0 < k := by omega
  rcases Nat.lt_or_ge m (l.length * k) with hm | hm
  · have hq : m / k < l.length := (Nat.div_lt_iff_lt_mul hk0).2 hm
    have hr : m % k < k := Nat.mod_lt _ hk0
    have hm' : m = m / k * k + m % k := by rw [Nat.mul_comm]; exact (Nat.div_add_mod m k).symm
    generalize m / k = q at *
    generalize m % k = r at *
    subst hm'
    rw [E.encL_at hk2 q (by simpa using hq) r hr, List.getElem?_set]
    have hpos : i * k + j < (E.encL l).length := by
      rw [hlen]
      have := Nat.mul_le_mul_right k (show i + 1 ≤ l.length from h)
      rw [Nat.add_mul] at this; omega
    by_cases e : i = q
    · subst e
      simp only [List.getElem_set_self]
      by_cases e2 : j = r
      · subst e2
        rw [if_pos rfl, if_pos hpos, hx, List.getElem?_set_self (by rw [hk _ (List.getElem_mem h)]; exact hj)]
      · rw [if_neg (by omega), E.encL_at hk i h r hr, hx, List.getElem?_set_ne e2]
    · have hne : i * k + j ≠ q * k + r := by
        intro hh
        rcases Nat.lt_or_ge i q with hl | hl
        · have := Nat.mul_le_mul_right k (show i + 1 ≤ q from hl)
          rw [Nat.add_mul] at this; omega
        · have := Nat.mul_le_mul_right k (show q + 1 ≤ i by omega)
          rw [Nat.add_mul] at this; omega
      rw [if_neg hne, E.encL_at hk q hq r hr]
      simp only [List.getElem_set_ne e]
  · rw [List.getElem?_eq_none (by rw [hlen2, List.length_set]; exact hm), List.getElem?_eq_none (by rw [List.length_set, hlen]; exact hm)]
theorem E.encL_same {k : Nat} {l : List E} {i : Nat} (h : i < l.length) {x : E} (hx : x.enc = l[i].enc) : E.encL (l.set i x) = E.encL l := by
  rw [E.encL_eq, E.encL_eq]
  simp only [List.flatMap]
  congr 1
  apply List.ext_getElem (by simp)
  intro j h1 h2
  simp only [List.getElem_map, List.getElem_set]
  by_cases e : i = j
  · subst e; rw [if_pos rfl, hx]
  · rw [if_neg e]

theorem E.fpL_apart : ∀ {l : List E}, (E.fpL l).Nodup → ∀ (i m : Nat) (hi : i < l.length) (hm : m < l.length), i ≠ m → ∀ b, b ∈ l[i].fp → b ∉ l[m].fp
  | [], _, i, _, hi, _, _, _, _ => absurd hi (by simp)
  | e :: r, hn, i, m, hi, hm, hne, b, h1 => by
    rw [E.fpL, List.nodup_append] at hn
    obtain ⟨_, hr, hd⟩ := hn
    intro h2
    rcases i with _ | i <;> rcases m with _ | m
    · exact hne rfl
    · exact hd b (by simpa using h1) b (E.mem_fpL.2 ⟨_, List.getElem_mem (by simpa using hm), by simpa using h2⟩) rfl
    · exact hd b (by simpa using h2) b (E.mem_fpL.2 ⟨_, List.getElem_mem (by simpa using hi), by simpa using h1⟩) rfl
    · exact E.fpL_apart hr i m (by simpa using hi) (by simpa using hm) (by omega) b (by simpa using h1) (by simpa using h2)
theorem Ow.of_own {w w' : World} {lo hi k n : Nat} {e : TypeId} {v : Value} {xs : List Value} (h : Ow w lo hi e k v n xs) (hb : ∀ g, v.ownBlock = some g → g < w.heap.size → w'.heap[g]? = w.heap[g]?) : Ow w' lo hi e k v n xs := by
  obtain ⟨⟨hl, h | ⟨g, cap, cur, rfl, hg, hh, hn, hc, hs, ht⟩⟩, hh2⟩ := h
  · exact ⟨⟨hl, .inl h⟩, hh2⟩
  · exact ⟨⟨hl, .inr ⟨g, cap, cur, rfl, hg, (hb g rfl (by
      rcases Nat.lt_or_ge g w.heap.size with hlt | hge
      · exact hlt
      · rw [Array.getElem?_eq_none hge] at hh; cases hh)).trans hh, hn, hc, hs, ht⟩⟩, hh2⟩
section
variable {w w' : World} {lo hi k c g i j : Nat} {T : TypeId} {l : List E} {x x' : E} {u : Value}
/-- The cells of element i of a slice that is held; none is frozen. -/
theorem E.Ho.cellx (h : (E.lst k T (some ⟨g, 0, none⟩) c l).Ho w lo hi) (hi_ : i < l.length) (hx : l[i] = x) (hu : x.enc[j]? = some u) : w.cell? ⟨g, i * k + j, none⟩ = some u := by
  have hr := h.row
  have hlens := h.lens
  have hjk : j < k := by
    have : x.enc.length = k := by rw [← hx]; exact hlens _ (List.getElem_mem hi_)
    rw [← this]; exact (List.getElem?_eq_some_iff.1 hu).1
  obtain ⟨g2, hA, _, _, hc, _⟩ := hr.at_ (by omega)
  cases hA
  refine hc (i * k + j) u ?_ ?_
  · have := Nat.mul_le_mul_right k (show i + 1 ≤ l.length from hi_)
    rw [Nat.add_mul] at this; omega
  · rw [E.encL_at hlens i hi_ j hjk, hx]; exact hu
theorem E.Ho.frzx (h : (E.lst k T (some ⟨g, 0, none⟩) c l).Ho w lo hi) : ∀ j, w.frozen? ⟨g, j, none⟩ = false := by
  obtain ⟨⟨_, ⟨hv, _⟩ | ⟨g2, cap, cur, hv, _, hh, _⟩⟩, _⟩ := h.row
  · cases hv
  · injection hv with e1
    injection e1 with e1
    injection e1 with e1
    subst e1
    intro j; simp [World.frozen?, hh]
theorem E.Ho.head {A : Option Addr} (h : (E.lst k T A c l).Ho w lo hi) (hi_ : 0 < l.length) : ∃ g, A = some ⟨g, 0, none⟩ ∧ lo ≤ g ∧ g < hi ∧ g < w.heap.size := by
  obtain ⟨g, hA, h1, h2, _⟩ := h.row.at_ (by omega)
  subst hA
  exact ⟨g, rfl, h1, h2, (h.lt g (by simp [E.fp])).2.2⟩
theorem mem_fpL_set {g : Nat} {x : E} (hi_ : i < l.length) (hx : g ∈ x.fp) : g ∈ E.fpL (l.set i x) := E.mem_fpL.2 ⟨x, List.mem_iff_getElem.2 ⟨i, by simpa using hi_, by simp⟩, hx⟩
/-- A store into element i. -/
theorem E.Ho.store (h : (E.lst k T (some ⟨g, 0, none⟩) c (l.set i x)).Ho w lo hi) (hn : (E.lst k T (some ⟨g, 0, none⟩) c (l.set i x)).fp.Nodup) (hi_ : i < l.length) (x' : E) (j : Nat) (u : Value) (hj : j < k) (he : x'.enc = x.enc.set j u)
    (hin : ∀ W : World, x.Ho W lo hi → x'.Ho W lo hi) : (E.lst k T (some ⟨g, 0, none⟩) c (l.set i x')).Ho (w.setCell ⟨g, i * k + j, none⟩ u) lo hi := by
  have hl := h.lens
  have hi2 : i < (l.set i x).length := by simpa using hi_
  have hxi : (l.set i x)[i] = x := by simp
  have hgn : g ∉ E.fpL (l.set i x) := by
    simp only [E.fp, List.singleton_append, List.nodup_cons] at hn
    exact hn.1
  have e1 : l.set i x' = (l.set i x).set i x' := by rw [List.set_set]
  have hrow := (h.row).set (i * k + j) u
  rw [List.length_set] at hrow
  have hk2 : ∀ e ∈ l.set i x', e.enc.length = k := by
    rw [e1]
    intro e he2
    rcases List.mem_or_eq_of_mem_set he2 with h2 | rfl
    · exact hl e h2
    · rw [he, List.length_set]; exact hl x (List.mem_iff_getElem.2 ⟨i, hi2, hxi⟩)
  refine E.Ho.mk ?_ hk2 ?_
  · rw [List.length_set, e1, E.encL_set hl hi2 hj (by rw [hxi]; exact he)]
    exact hrow
  · have hold : ∀ e ∈ l.set i x, e.Ho (w.setCell ⟨g, i * k + j, none⟩ u) lo hi := fun e he2 =>
      (h.el he2).of_fp fun b hb _ _ _ => Below.heap_setCell w _ u b (by rintro rfl; exact hgn (E.mem_fpL.2 ⟨e, he2, hb⟩))
    intro e he2
    rw [e1] at he2
    rcases List.mem_or_eq_of_mem_set he2 with h2 | rfl
    · exact hold e h2
    · exact hin _ (hold x (List.mem_iff_getElem.2 ⟨i, hi2, hxi⟩))
/-- A call that turns what lies in element i's slices. -/
theorem E.Ho.inside {A : Option Addr} {fp : List Nat} (h : (E.lst k T A c (l.set i x)).Ho w lo hi) (hn : (E.lst k T A c (l.set i x)).fp.Nodup) (hi_ : i < l.length) (x' : E) (hf : Fr fp w w') (hsub : ∀ b ∈ fp, b ∈ x.fp) (he : x'.enc = x.enc)
    (hin : x'.Ho w' lo hi) : (E.lst k T A c (l.set i x')).Ho w' lo hi := by
  have hl := h.lens
  have hi2 : i < (l.set i x).length := by simpa using hi_
  have hxi : (l.set i x)[i] = x := by simp
  have e1 : l.set i x' = (l.set i x).set i x' := by rw [List.set_set]
  have hmem := List.mem_iff_getElem.2 ⟨i, hi2, hxi⟩
  have hk2 : ∀ e ∈ l.set i x', e.enc.length = k := by
    rw [e1]
    intro e he2
    rcases List.mem_or_eq_of_mem_set he2 with h2 | rfl
    · exact hl e h2
    · rw [he]; exact hl x hmem
  refine E.Ho.mk ?_ hk2 ?_
  · rw [List.length_set, e1, E.encL_same (k := k) hi2 (by rw [hxi]; exact he)]
    have hr := h.row
    rw [List.length_set] at hr
    refine Ow.of_own hr fun b hob hs => hf.block _ hs fun hm => ?_
    rcases A with _ | a
    · simp [Value.ownBlock] at hob
    · obtain rfl : a.block = b := by simpa [Value.ownBlock] using hob
      simp only [E.fp, List.singleton_append, List.nodup_cons] at hn
      exact hn.1 (E.mem_fpL.2 ⟨x, hmem, hsub _ hm⟩)
  · intro e he2
    rw [List.mem_iff_getElem] at he2
    obtain ⟨m, hm, rfl⟩ := he2
    by_cases e : i = m
    · subst e; simpa using hin
    · have hm' : m < l.length := by simpa using hm
      simp only [List.getElem_set_ne e]
      have hmm : l[m] ∈ l.set i x := List.mem_iff_getElem.2 ⟨m, by simpa using hm', by simp [List.getElem_set_ne e]⟩
      refine (h.el hmm).fr hf fun b hb hm3 => ?_
      have hb2 := hsub b hm3
      have hn2 : (E.fpL (l.set i x)).Nodup := by
        simp only [E.fp] at hn
        exact (List.nodup_append.1 hn).2.1
      exact E.fpL_apart hn2 i m hi2 (by simpa using hm') e b (by rw [hxi]; exact hb2) (by simp only [List.getElem_set_ne e]; exact hb)
end
end Go.Proofs.Ytfdjognmechcfaa
