/- Slices that read as lists: my words, over any program. -/
import Derived.Test.YtjgmdbhbnpafgaaBase
namespace Go.Proofs.Ytjgmdbhbnpafgaa
open Go.RowKit

section
variable {α : Type} {w w' : World} {lo hi lo' hi' k : Nat} {enc : α → List Value} {v : Value} {ds : List α}
/-- v is a slice of the elements ds (k cells each, as 'enc' has them), in one block of [lo, hi). -/
def Sl (w : World) (lo hi k : Nat) (enc : α → List Value) (v : Value) (ds : List α) : Prop :=
  ∃ A c, v = .slice A ds.length c ∧ ds.length ≤ c ∧ c ≤ maxLen ∧
    (0 < ds.length → ∃ b o, A = some ⟨b, o, none⟩ ∧ lo ≤ b ∧ b < hi ∧ ∀ i (h : i < ds.length) j u, (enc ds[i])[j]? = some u → w.cell? ⟨b, o + i * k + j, none⟩ = some u)

theorem Sl.len_le (h : Sl w lo hi k enc v ds) : ds.length ≤ 9223372036854775807 := by
  obtain ⟨A, c, _, h1, h2, _⟩ := h; unfold maxLen at h2; omega
theorem Sl.len_eq {A : Option Addr} {n c : Nat} (h : Sl w lo hi k enc (.slice A n c) ds) : n = ds.length := by
  obtain ⟨A', c', e, _⟩ := h; injection e
theorem Sl.keep (h : Sl w lo hi k enc v ds) (hk : ∀ p : Addr, lo ≤ p.block → p.block < hi → w'.cell? p = w.cell? p) : Sl w' lo hi k enc v ds := by
  obtain ⟨A, c, e, h1, h2, h3⟩ := h
  refine ⟨A, c, e, h1, h2, fun hn => ?_⟩
  obtain ⟨b, o, eA, hl, hb, hc⟩ := h3 hn
  exact ⟨b, o, eA, hl, hb, fun i hi j u hu => (hk ⟨b, _, none⟩ hl hb).trans (hc i hi j u hu)⟩
theorem Sl.wider (h : Sl w lo hi k enc v ds) (h1 : lo' ≤ lo) (h2 : hi ≤ hi') : Sl w lo' hi' k enc v ds := by
  obtain ⟨A, c, e, g1, g2, h3⟩ := h
  refine ⟨A, c, e, g1, g2, fun hn => ?_⟩
  obtain ⟨b, o, eA, hl, hb, hc⟩ := h3 hn
  exact ⟨b, o, eA, by omega, by omega, hc⟩
theorem Sl.below {B : Nat} (h : Sl w lo hi k enc v ds) (hb : Below B w w') (hB : hi ≤ B) : Sl w' lo hi k enc v ds :=
  h.keep fun _ _ hp => hb.cell (by omega)
theorem Sl.drew (h : Sl w lo hi k enc v ds) : Sl w.drew lo hi k enc v ds := h.keep fun _ _ _ => rfl
theorem Sl.drewN (h : Sl w lo hi k enc v ds) (n : Nat) : Sl (w.drewN n) lo hi k enc v ds := h.keep fun _ _ _ => rfl
theorem Sl.alloc (h : Sl w lo hi k enc v ds) (hB : hi ≤ w.heap.size) (o : Obj) : Sl (w.alloc o) lo hi k enc v ds := h.below (B := w.heap.size) ((Below.refl _ _).alloc (Nat.le_refl _) o) hB
theorem Sl.setCell (h : Sl w lo hi k enc v ds) {p : Addr} (hB : hi ≤ p.block) (u : Value) : Sl (w.setCell p u) lo hi k enc v ds := h.below (B := hi) ((Below.refl _ _).setCell hB u) (Nat.le_refl _)
/-- The cells of element i. -/
theorem Sl.at_ {A : Option Addr} {n c : Nat} (h : Sl w lo hi k enc (.slice A n c) ds) {i : Nat} (hi_ : i < ds.length) :
    ∃ b o, A = some ⟨b, o, none⟩ ∧ lo ≤ b ∧ b < hi ∧ ∀ j u, (enc ds[i])[j]? = some u → w.cell? ⟨b, o + i * k + j, none⟩ = some u := by
  obtain ⟨A', c', e, _, _, h3⟩ := h
  obtain ⟨b, o, eA, hl, hb, hc⟩ := h3 (by omega)
  injection e with e1 e2 e3
  exact ⟨b, o, e1.trans eA, hl, hb, fun j u hu => hc i hi_ j u hu⟩
theorem Sl.at1 {A : Option Addr} {n c : Nat} (h : Sl w lo hi 1 enc (.slice A n c) ds) {i : Nat} (hi_ : i < ds.length) :
    ∃ b o, A = some ⟨b, o, none⟩ ∧ lo ≤ b ∧ b < hi ∧ ∀ u, enc ds[i] = [u] → w.cell? ⟨b, o + i, none⟩ = some u := by
  obtain ⟨b, o, e, h1, h2, hc⟩ := h.at_ hi_
  exact ⟨b, o, e, h1, h2, fun u hu => by simpa using hc 0 u (by rw [hu]; rfl)⟩
theorem Sl.form (h : Sl w lo hi k enc v ds) : ∃ A c, v = .slice A ds.length c ∧ ds.length ≤ c ∧ c ≤ maxLen := by
  obtain ⟨A, c, e, h1, h2, _⟩ := h; exact ⟨A, c, e, h1, h2⟩
end

/-- One-cell encodings. -/
def encS (s : ByteArray) : List Value := [.string s]
def encB (c : UInt8) : List Value := [.int .u8 c.toNat]
def encI (n : Int) : List Value := [.int .i64 n]

/-- What a sz-function's loop comes to. -/
def szLoop {α : Type} (f : α → Int → Int) : List α → Int → Int
  | [], l => l
  | d :: r, l => if f d l < 0 then -1 else szLoop f r (f d l)
def szS {α : Type} (f : α → Int → Int) (ds : List α) (left : Int) : Int := if left - ds.length < 0 then -1 else szLoop f ds (left - ds.length)
theorem szLoop_drop {α : Type} (f : α → Int → Int) (ds : List α) (k : Nat) (h : k < ds.length) (l : Int) :
    szLoop f (ds.drop k) l = if f ds[k] l < 0 then -1 else szLoop f (ds.drop (k + 1)) (f ds[k] l) := by
  rw [List.drop_eq_getElem_cons h, szLoop]

/-- make([]T, n): an equation for every world, to be laid ahead of a walk. -/
theorem mk_eq {P : Program} {t e : TypeId} {z : Value} {size bytes : Nat} (ht : P.underlying t = some (.slice e)) (hinfo : (P.info? e).map (fun i => (i.zero, i.size, i.bytes)) = some (some z, size, bytes))
    (n : Nat) (hb : bytes * n ≤ 281474976710656) (hm : n ≤ 9223372036854775807) (W : World) :
    (Instr.makeSlice t (.int .i64 (n : Int)) (.int .i64 (n : Int))).run P W = .ok (.slice (some ⟨W.heap.size, 0, none⟩) n n) (W.alloc (.cells (madeCells z.cells (n * size)) e)) := by
  obtain ⟨i, h1, h2, h3, h4⟩ := info_parts hinfo
  have hb' : (i.bytes : Int) * (n : Int) ≤ 281474976710656 := by
    rw [h4]
    have h : ((bytes * n : Nat) : Int) ≤ 281474976710656 := by omega
    rwa [Int.natCast_mul] at h
  have h := run_make (P := P) W t e i z ht h1 h2 .i64 .i64 n n (by omega) (by omega) hb' (by omega)
  rw [Int.toNat_natCast, h3] at h
  exact h
/-- Block g is a row of N cells of type e, of which the first m are those of xs. -/
def Fill (w : World) (g : Nat) (e : TypeId) (N m : Nat) (xs : List Value) : Prop :=
  ∃ cur, w.heap[g]? = some (.cells cur e (0, 0)) ∧ cur.size = N ∧ ∀ j, j < m → cur[j]? = xs[j]?

section
variable {w w' : World} {g : Nat} {e : TypeId} {N m : Nat} {xs : List Value}
theorem Fill.new (w : World) (e : TypeId) (z : Array Value) (N : Nat) (xs : List Value) : Fill (w.alloc (.cells (madeCells z N) e)) w.heap.size e N 0 xs :=
  ⟨_, heap_alloc_new w _, by simp [madeCells], fun _ h => absurd h (by omega)⟩
theorem Fill.lt (h : Fill w g e N m xs) : g < w.heap.size := by
  obtain ⟨cur, hh, _⟩ := h
  rcases Nat.lt_or_ge g w.heap.size with hlt | hge
  · exact hlt
  · rw [Array.getElem?_eq_none hge] at hh; cases hh
theorem Fill.cell (h : Fill w g e N m xs) {j : Nat} (hj : j < N) : ∃ u, w.cell? ⟨g, j, none⟩ = some u := by
  obtain ⟨cur, hh, hs, _⟩ := h
  exact ⟨cur[j]'(by omega), by rw [cell_of_row w g j cur e (0, 0) hh]; exact Array.getElem?_eq_getElem (by omega)⟩
theorem Fill.frozen (h : Fill w g e N m xs) (j : Nat) : w.frozen? ⟨g, j, none⟩ = false := by
  obtain ⟨cur, hh, hs, _⟩ := h
  simp [World.frozen?, hh]
theorem Fill.of_block (h : Fill w g e N m xs) (hb : w'.heap[g]? = w.heap[g]?) : Fill w' g e N m xs := by
  obtain ⟨cur, hh, hs, hc⟩ := h
  exact ⟨cur, hb.trans hh, hs, hc⟩
theorem Fill.below {B : Nat} (h : Fill w g e N m xs) (hb : Below B w w') (hg : g < B) : Fill w' g e N m xs := h.of_block (hb.block g hg)
theorem Fill.alloc (h : Fill w g e N m xs) (o : Obj) : Fill (w.alloc o) g e N m xs := h.of_block (Below.heap_alloc w o g h.lt)
theorem Fill.set (h : Fill w g e N m xs) (hm : m < N) {u : Value} (hu : xs[m]? = some u) : Fill (w.setCell ⟨g, m, none⟩ u) g e N (m + 1) xs := by
  obtain ⟨cur, hh, hs, hc⟩ := h
  refine ⟨cur.setIfInBounds m u, by simp [World.setCell, Array.getElem?_modify, hh], by simpa using hs, fun j hj => ?_⟩
  rw [Array.getElem?_setIfInBounds]
  by_cases hmm : m = j
  · subst hmm; rw [if_pos rfl, if_pos (by omega), hu]
  · rw [if_neg hmm]; exact hc j (by omega)
theorem Fill.owns (h : Fill w g e N N xs) {lo k n : Nat} (hlo : lo ≤ g) (hN : N = n * k) (hx : xs.length = N) (hn : n ≤ maxLen) : w.ownsRow lo e k (.slice (some ⟨g, 0, none⟩) n n) n xs := by
  obtain ⟨cur, hh, hs, hc⟩ := h
  refine ⟨by omega, .inr ⟨g, n, cur, rfl, hlo, hh, Nat.le_refl _, hn, by omega, ?_⟩⟩
  rw [← hN, List.take_of_length_le (by simp; omega)]
  apply List.ext_getElem?
  intro j
  rw [Array.getElem?_toList]
  rcases Nat.lt_or_ge j N with hj | hj
  · exact hc j hj
  · rw [Array.getElem?_eq_none (by omega), List.getElem?_eq_none (by omega)]
end

theorem flat_len {α : Type} {enc : α → List Value} {k : Nat} (hk : ∀ d, (enc d).length = k) : ∀ ds : List α, (ds.flatMap enc).length = ds.length * k
  | [] => by simp
  | d :: ds => by rw [List.flatMap_cons, List.length_append, hk, flat_len hk ds, List.length_cons, Nat.add_mul]; omega
theorem flat_at {α : Type} {enc : α → List Value} {k : Nat} (hk : ∀ d, (enc d).length = k) : ∀ (ds : List α) (i : Nat) (h : i < ds.length) (j : Nat), j < k → (ds.flatMap enc)[i * k + j]? = (enc ds[i])[j]?
  | [], i, h, _, _ => absurd h (by simp)
  | d :: ds, 0, h, j, hj => by
    rw [List.flatMap_cons, Nat.zero_mul, Nat.zero_add, List.getElem?_append_left (by rw [hk]; exact hj)]; rfl
  | d :: ds, i + 1, h, j, hj => by
    have e1 : (i + 1) * k + j = k + (i * k + j) := by rw [Nat.add_mul]; omega
    rw [List.flatMap_cons, e1, List.getElem?_append_right (by rw [hk]; omega), hk, Nat.add_sub_cancel_left]
    exact flat_at hk ds i (by simpa using h) j hj

/-- Nothing that was there has turned, but for blocks of [lo, hi). -/
structure Kp (lo hi : Nat) (w w' : World) : Prop where
  os : w'.os = w.os
  tape : w'.tape = w.tape
  output : w'.output = w.output
  size : w.heap.size ≤ w'.heap.size
  block : ∀ k, k < w.heap.size → (k < lo ∨ hi ≤ k) → w'.heap[k]? = w.heap[k]?
section
variable {lo hi B : Nat} {a b c w : World}
theorem Kp.refl (lo hi : Nat) (w : World) : Kp lo hi w w := ⟨rfl, rfl, rfl, Nat.le_refl _, fun _ _ _ => rfl⟩
theorem Kp.trans (h : Kp lo hi a b) (k : Kp lo hi b c) : Kp lo hi a c :=
  ⟨k.os.trans h.os, k.tape.trans h.tape, k.output.trans h.output, Nat.le_trans h.size k.size, fun i hi hh => (k.block i (Nat.lt_of_lt_of_le hi h.size) hh).trans (h.block i hi hh)⟩
theorem Kp.of_below (h : Below a.heap.size a b) : Kp lo hi a b := ⟨h.os, h.tape, h.output, h.size, fun k hk _ => h.block k hk⟩
theorem Kp.set (h : Kp lo hi a w) {p : Addr} (h1 : lo ≤ p.block) (h2 : p.block < hi) (u : Value) : Kp lo hi a (w.setCell p u) :=
  ⟨h.os, h.tape, h.output, by simpa using h.size, fun k hk hh => (Below.heap_setCell w p u k (by omega)).trans (h.block k hk hh)⟩
theorem Kp.below (h : Kp lo hi a b) (h1 : B ≤ lo) (h2 : B ≤ a.heap.size) : Below B a b := ⟨h.os, h.tape, h.output, h.size, fun k hk => h.block k (by omega) (by omega)⟩
theorem Kp.wider {lo' hi' : Nat} (h : Kp lo hi a b) (h1 : lo' ≤ lo) (h2 : hi ≤ hi') : Kp lo' hi' a b := ⟨h.os, h.tape, h.output, h.size, fun k hk hh => h.block k hk (by omega)⟩
end

/-- A slice of the call's own: at the head of a block in [lo, hi), none of it frozen, that holds the cells xs. -/
def Ow (w : World) (lo hi : Nat) (e : TypeId) (k : Nat) (v : Value) (n : Nat) (xs : List Value) : Prop :=
  w.ownsRow lo e k v n xs ∧ ∀ b, v.ownBlock = some b → b < hi
section
variable {w w' : World} {lo hi lo' hi' k n : Nat} {e : TypeId} {v : Value} {xs : List Value}
theorem Ow.of_block (h : Ow w lo hi e k v n xs) (hb : ∀ g, lo ≤ g → g < hi → g < w.heap.size → w'.heap[g]? = w.heap[g]?) : Ow w' lo hi e k v n xs := by
  obtain ⟨⟨hl, h | ⟨g, cap, cur, rfl, hg, hh, hn, hc, hs, ht⟩⟩, hh2⟩ := h
  · exact ⟨⟨hl, .inl h⟩, hh2⟩
  · exact ⟨⟨hl, .inr ⟨g, cap, cur, rfl, hg, (hb g hg (hh2 g rfl) (by
      rcases Nat.lt_or_ge g w.heap.size with hlt | hge
      · exact hlt
      · rw [Array.getElem?_eq_none hge] at hh; cases hh)).trans hh, hn, hc, hs, ht⟩⟩, hh2⟩
theorem Ow.below {B : Nat} (h : Ow w lo hi e k v n xs) (hb : Below B w w') (hB : hi ≤ B) : Ow w' lo hi e k v n xs :=
  h.of_block fun g _ hg _ => hb.block g (by omega)
theorem Ow.kp (h : Ow w lo hi e k v n xs) (hb : Kp lo' hi' w w') (hB : hi ≤ lo' ∨ hi' ≤ lo) : Ow w' lo hi e k v n xs :=
  h.of_block fun g _ hg hs => hb.block g hs (by omega)
theorem Ow.wider (h : Ow w lo hi e k v n xs) (h1 : lo' ≤ lo) (h2 : hi ≤ hi') : Ow w lo' hi' e k v n xs := by
  obtain ⟨⟨hl, h | ⟨g, cap, cur, rfl, hg, hh⟩⟩, hh2⟩ := h
  · exact ⟨⟨hl, .inl h⟩, fun b hb => by have := hh2 b hb; omega⟩
  · exact ⟨⟨hl, .inr ⟨g, cap, cur, rfl, by omega, hh⟩⟩, fun b hb => by have := hh2 b hb; omega⟩
theorem Ow.of_owns (h : w.ownsRow lo e k v n xs) (hh : w.heap.size ≤ hi) : Ow w lo hi e k v n xs := by
  refine ⟨h, fun b hb => ?_⟩
  have := (h.lt b hb).2
  omega
theorem Ow.form (h : Ow w lo hi e k v n xs) : ∃ A c, v = .slice A n c := by
  obtain ⟨⟨hl, ⟨rfl, hn⟩ | ⟨g, cap, cur, rfl, _⟩⟩, hh2⟩ := h
  · exact ⟨none, 0, by rw [hn]⟩
  · exact ⟨_, _, rfl⟩
theorem Ow.len_le (h : Ow w lo hi e k v n xs) : n ≤ 9223372036854775807 := by
  obtain ⟨⟨hl, ⟨rfl, hn⟩ | ⟨g, cap, cur, rfl, _, _, h1, h2, _⟩⟩, hh2⟩ := h
  · omega
  · unfold maxLen at h2; omega
/-- Where it is not empty it begins at its block's head; its cells are there, not frozen; a store gives the cells turned. -/
theorem Ow.at_ {A : Option Addr} {c : Nat} (h : Ow w lo hi e k (.slice A n c) n xs) (hn : 0 < n) : ∃ g, A = some ⟨g, 0, none⟩ ∧ lo ≤ g ∧ g < hi ∧
    (∀ j u, j < n * k → xs[j]? = some u → w.cell? ⟨g, j, none⟩ = some u) ∧ (∀ j, w.frozen? ⟨g, j, none⟩ = false) := by
  obtain ⟨ho, hh2⟩ := h
  obtain ⟨hl, ⟨hv, hn0⟩ | ⟨g, cap, cur, hv, hg, hh, _⟩⟩ := id ho
  · omega
  · injection hv with h1 h2 h3
    subst h1
    exact ⟨g, rfl, hg, hh2 g rfl, fun j u hj hu => (ho.cellAt j hj).trans hu, fun j => ho.frozenAt j⟩
theorem Ow.set {g c : Nat} (h : Ow w lo hi e k (.slice (some ⟨g, 0, none⟩) n c) n xs) (j : Nat) (u : Value) : Ow (w.setCell ⟨g, j, none⟩ u) lo hi e k (.slice (some ⟨g, 0, none⟩) n c) n (xs.set j u) :=
  ⟨(h.1.stored j u).1, h.2⟩
end

/-- A slice of the call's own (its block in [lo, hi), none of it frozen, at its block's head) that holds the elements ds. -/
def Own {α : Type} (w : World) (lo hi : Nat) (e : TypeId) (k : Nat) (enc : α → List Value) (v : Value) (ds : List α) : Prop :=
  Ow w lo hi e k v ds.length (ds.flatMap enc)

section
variable {α : Type} {w w' : World} {lo hi lo' hi' k : Nat} {e : TypeId} {enc : α → List Value} {v : Value} {ds : List α}
theorem Own.sl (hk : ∀ d, (enc d).length = k) (h : Own w lo hi e k enc v ds) : Sl w lo hi k enc v ds := by
  obtain ⟨⟨hl, h | ⟨g, cap, cur, rfl, hg, hh, hn, hc, hs, ht⟩⟩, hb⟩ := h
  · obtain ⟨rfl, hn⟩ := h
    exact ⟨none, 0, by rw [hn], by omega, by unfold maxLen; omega, fun hp => absurd hp (by omega)⟩
  · refine ⟨_, cap, rfl, hn, hc, fun _ => ⟨g, 0, rfl, hg, hb g rfl, fun i hi j u hu => ?_⟩⟩
    rw [cell_of_row w g _ cur e (0, 0) hh, Nat.zero_add]
    have hj : j < k := by
      rcases Nat.lt_or_ge j k with h | h
      · exact h
      · rw [List.getElem?_eq_none (by rw [hk]; exact h)] at hu; cases hu
    have hlt : i * k + j < ds.length * k := by
      have := Nat.mul_le_mul_right k (show i + 1 ≤ ds.length from hi)
      rw [Nat.add_mul] at this; omega
    rw [← Array.getElem?_toList]
    have := flat_at hk ds i hi j hj
    rw [← ht, List.getElem?_take_of_lt hlt] at this
    rw [this, hu]
theorem Own.below {B : Nat} (h : Own w lo hi e k enc v ds) (hb : Below B w w') (hB : hi ≤ B) : Own w' lo hi e k enc v ds := Ow.below h hb hB
theorem Own.kp (h : Own w lo hi e k enc v ds) (hb : Kp lo' hi' w w') (hB : hi ≤ lo' ∨ hi' ≤ lo) : Own w' lo hi e k enc v ds := Ow.kp h hb hB
theorem Own.wider (h : Own w lo hi e k enc v ds) (h1 : lo' ≤ lo) (h2 : hi ≤ hi') : Own w lo' hi' e k enc v ds := Ow.wider h h1 h2
theorem Own.of_owns (h : w.ownsRow lo e k v ds.length (ds.flatMap enc)) (hh : w.heap.size ≤ hi) : Own w lo hi e k enc v ds := Ow.of_owns h hh
theorem Own.drew (h : Own w lo hi e k enc v ds) : Own w.drew lo hi e k enc v ds := h
theorem Own.drewN (h : Own w lo hi e k enc v ds) (n : Nat) : Own (w.drewN n) lo hi e k enc v ds := h
theorem Own.alloc (h : Own w lo hi e k enc v ds) (hB : hi ≤ w.heap.size) (o : Obj) : Own (w.alloc o) lo hi e k enc v ds := h.below (B := w.heap.size) ((Below.refl _ _).alloc (Nat.le_refl _) o) hB
theorem Own.setCell (h : Own w lo hi e k enc v ds) {p : Addr} (hB : hi ≤ p.block) (u : Value) : Own (w.setCell p u) lo hi e k enc v ds := h.below (B := hi) ((Below.refl _ _).setCell hB u) (Nat.le_refl _)
theorem Own.form (h : Own w lo hi e k enc v ds) : ∃ A c, v = .slice A ds.length c := Ow.form h
end

/-- A slice of the call's own whose cells bear the marks of k on: f j is what field j's mark is. -/
def Mk (w : World) (lo hi : Nat) (e : TypeId) (sz : Nat) (f : Nat → Int → Value) (v : Value) (n : Nat) (k : Int) : Prop :=
  ∃ xs, Ow w lo hi e sz v n xs ∧ ∀ i j, i < n → j < sz → xs[i * sz + j]? = some (f j (k + (i * sz + j : Nat)))
section
variable {w w' : World} {lo hi lo' hi' sz n : Nat} {e : TypeId} {f : Nat → Int → Value} {v : Value} {k : Int}
theorem Mk.below {B : Nat} (h : Mk w lo hi e sz f v n k) (hb : Below B w w') (hB : hi ≤ B) : Mk w' lo hi e sz f v n k := by
  obtain ⟨xs, h1, h2⟩ := h; exact ⟨xs, h1.below hb hB, h2⟩
theorem Mk.kp (h : Mk w lo hi e sz f v n k) (hb : Kp lo' hi' w w') (hB : hi ≤ lo' ∨ hi' ≤ lo) : Mk w' lo hi e sz f v n k := by
  obtain ⟨xs, h1, h2⟩ := h; exact ⟨xs, h1.kp hb hB, h2⟩
theorem Mk.at_ {A : Option Addr} {c : Nat} (h : Mk w lo hi e sz f (.slice A n c) n k) {i : Nat} (hi_ : i < n) : ∃ g, A = some ⟨g, 0, none⟩ ∧ lo ≤ g ∧ g < hi ∧
    ∀ j, j < sz → w.cell? ⟨g, i * sz + j, none⟩ = some (f j (k + (i * sz + j : Nat))) := by
  obtain ⟨xs, h1, h2⟩ := h
  obtain ⟨g, hA, hl, hh, hc, _⟩ := h1.at_ (by omega)
  refine ⟨g, hA, hl, hh, fun j hj => hc _ _ ?_ (h2 i j hi_ hj)⟩
  have := Nat.mul_le_mul_right sz (show i + 1 ≤ n from hi_)
  rw [Nat.add_mul] at this; omega
end
def fB (_ : Nat) (i : Int) : Value := .int .u8 (i % 256)
def fI (_ : Nat) (i : Int) : Value := .int .i64 i
end Go.Proofs.Ytjgmdbhbnpafgaa
