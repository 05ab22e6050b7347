/- Data with places: one kind of word for all plain types (numbers, booleans, strings, structs, slices), whatever their nesting. -/
import Derived.Deep.RegionHeld3
import Derived.Deep.RegionWith
import Derived.Maps.AppendAt
import Derived.Deep.AppendLies
import Derived.Test.YtnlgmojciplnoaaDoorFlxPB
namespace Go.Proofs.YtnlgmojciplnoaaDoor
open Go.RowKit
inductive E where
  | int (k : IntKind) (n : Int)
  | bool (b : Bool)
  | str (s : ByteArray)
  | agg (fs : List E)
  | lst (k : Nat) (T : TypeId) (A : Option Addr) (c : Nat) (l : List E)
theorem E.ind {p : E → Prop} (h1 : ∀ k n, p (.int k n)) (h2 : ∀ b, p (.bool b)) (h3 : ∀ s, p (.str s)) (h4 : ∀ fs, (∀ e ∈ fs, p e) → p (.agg fs)) (h5 : ∀ k T A c l, (∀ e ∈ l, p e) → p (.lst k T A c l)) : ∀ e, p e :=
  E.rec (motive_1 := p) (motive_2 := fun l => ∀ e ∈ l, p e) h1 h2 h3 (fun fs h => h4 fs h) (fun k T A c l h => h5 k T A c l h) (fun _ h => absurd h List.not_mem_nil) (fun _ _ hh ht e he => by
    rcases List.mem_cons.1 he with rfl | h
    · exact hh
    · exact ht e h)
mutual
def E.enc : E → List Value
  | .int k n => [.int k n]
  | .bool b => [.bool b]
  | .str s => [.string s]
  | .agg fs => E.encL fs
  | .lst _ _ A c l => [.slice A l.length c]
def E.encL : List E → List Value
  | [] => []
  | e :: r => e.enc ++ E.encL r
end
mutual
def E.d : E → E
  | .int k n => .int k n
  | .bool b => .bool b
  | .str s => .str s
  | .agg fs => .agg (E.dL fs)
  | .lst _ _ _ _ l => .lst 0 0 none 0 (E.dL l)
def E.dL : List E → List E
  | [] => []
  | e :: r => e.d :: E.dL r
end
mutual
def E.fp : E → List Nat
  | .agg fs => E.fpL fs
  | .lst _ _ A _ l => (match A with | some a => [a.block] | none => []) ++ E.fpL l
  | _ => []
def E.fpL : List E → List Nat
  | [] => []
  | e :: r => e.fp ++ E.fpL r
end
mutual
def E.sz : E → Nat
  | .str s => s.size
  | .agg fs => E.szL fs
  | .lst _ _ _ _ l => l.length + E.szL l
  | _ => 0
def E.szL : List E → Nat
  | [] => 0
  | e :: r => e.sz + E.szL r
end
mutual
def E.Re (w : World) (lo hi : Nat) : E → Prop
  | .agg fs => E.ReL w lo hi fs
  | .lst k _ A c l => Sl w lo hi k E.enc (.slice A l.length c) l ∧ E.ReL w lo hi l
  | _ => True
def E.ReL (w : World) (lo hi : Nat) : List E → Prop
  | [] => True
  | e :: r => e.Re w lo hi ∧ E.ReL w lo hi r
end
mutual
def E.Ho (w : World) (lo hi : Nat) : E → Prop
  | .agg fs => E.HoL w lo hi fs
  | .lst k T A c l => Ow w lo hi T k (.slice A l.length c) l.length (E.encL l) ∧ (∀ e ∈ l, e.enc.length = k) ∧ E.HoL w lo hi l
  | _ => True
def E.HoL (w : World) (lo hi : Nat) : List E → Prop
  | [] => True
  | e :: r => e.Ho w lo hi ∧ E.HoL w lo hi r
end
mutual
def E.Ty (P : Program) : E → TypeId → Prop
  | .int k n, t => P.underlying t = some (.int k) ∧ (Lit.int k n).wf = true
  | .bool _, t => P.underlying t = some .bool
  | .str s, t => P.underlying t = some .string ∧ s.size ≤ maxLen
  | .agg fs, t => ∃ F, P.underlying t = some (.struct F) ∧ E.TyF P fs (F.toList.map (·.type))
  | .lst k T _ _ l, t => P.underlying t = some (.slice T) ∧ (k = P.cellsOf T ∧ k ≤ 64) ∧ (∀ e ∈ l, e.enc.length = k) ∧ E.TyL P l T
def E.TyF (P : Program) : List E → List TypeId → Prop
  | [], ts => ts = []
  | e :: r, ts => ∃ t tr, ts = t :: tr ∧ e.Ty P t ∧ E.TyF P r tr
def E.TyL (P : Program) : List E → TypeId → Prop
  | [], _ => True
  | e :: r, t => e.Ty P t ∧ E.TyL P r t
end
def E.In (e : E) (w : World) : Prop := e.Re w 0 w.heap.size
theorem E.fpL_eq : ∀ l, E.fpL l = l.flatMap E.fp
  | [] => rfl
  | e :: r => by rw [E.fpL, List.flatMap_cons, E.fpL_eq r]
theorem E.ReL_iff {w : World} {lo hi : Nat} : ∀ l, E.ReL w lo hi l ↔ ∀ e ∈ l, e.Re w lo hi
  | [] => by simp [E.ReL]
  | e :: r => by rw [E.ReL, E.ReL_iff r]; simp
theorem E.HoL_iff {w : World} {lo hi : Nat} : ∀ l, E.HoL w lo hi l ↔ ∀ e ∈ l, e.Ho w lo hi
  | [] => by simp [E.HoL]
  | e :: r => by rw [E.HoL, E.HoL_iff r]; simp
theorem E.mem_fpL {g : Nat} {l : List E} : g ∈ E.fpL l ↔ ∃ e ∈ l, g ∈ e.fp := by rw [E.fpL_eq, List.mem_flatMap]
theorem E.encL_len {k : Nat} : ∀ {l : List E}, (∀ e ∈ l, e.enc.length = k) → (E.encL l).length = l.length * k
  | [], _ => by simp [E.encL]
  | e :: r, h => by
    rw [E.encL, List.length_append, h e List.mem_cons_self, E.encL_len fun x hx => h x (List.mem_cons_of_mem _ hx), List.length_cons, Nat.add_mul]; omega
theorem E.encL_at {k : Nat} : ∀ {l : List E}, (∀ e ∈ l, e.enc.length = k) → ∀ (i : Nat) (h : i < l.length) (j : Nat), j < k → (E.encL l)[i * k + j]? = l[i].enc[j]?
  | [], _, i, h, _, _ => absurd h (by simp)
  | e :: r, hk, 0, h, j, hj => by
    rw [E.encL, Nat.zero_mul, Nat.zero_add, List.getElem?_append_left (by rw [hk e List.mem_cons_self]; exact hj)]; rfl
  | e :: r, hk, i + 1, h, j, hj => by
    have e1 : (i + 1) * k + j = k + (i * k + j) := by rw [Nat.add_mul]; omega
    have he := hk e List.mem_cons_self
    rw [E.encL, e1, List.getElem?_append_right (by rw [he]; omega), he, Nat.add_sub_cancel_left]
    exact E.encL_at (fun x hx => hk x (List.mem_cons_of_mem _ hx)) i (by simpa using h) j hj
section
variable {w w' : World} {lo hi lo' hi' : Nat} {e : E}
theorem E.Re.keep (hk : ∀ p : Addr, lo ≤ p.block → p.block < hi → w'.cell? p = w.cell? p) : ∀ {e : E}, e.Re w lo hi → e.Re w' lo hi := by
  intro e
  induction e using E.ind with
  | h1 | h2 | h3 => intro _; simp [E.Re]
  | h4 fs ih => intro h; simp only [E.Re, E.ReL_iff] at h ⊢; exact fun e he => ih e he (h e he)
  | h5 k T A c l ih => intro h; simp only [E.Re, E.ReL_iff] at h ⊢; exact ⟨h.1.keep hk, fun e he => ih e he (h.2 e he)⟩
theorem E.Re.wider (h1 : lo' ≤ lo) (h2 : hi ≤ hi') : ∀ {e : E}, e.Re w lo hi → e.Re w lo' hi' := by
  intro e
  induction e using E.ind with
  | h1 | h2 | h3 => intro _; simp [E.Re]
  | h4 fs ih => intro h; simp only [E.Re, E.ReL_iff] at h ⊢; exact fun e he => ih e he (h e he)
  | h5 k T A c l ih => intro h; simp only [E.Re, E.ReL_iff] at h ⊢; exact ⟨h.1.wider h1 h2, fun e he => ih e he (h.2 e he)⟩
theorem E.Re.below {B : Nat} (h : e.Re w lo hi) (hb : Below B w w') (hB : hi ≤ B) : e.Re w' lo hi := h.keep fun _ _ hp => hb.cell (by omega)
theorem E.Re.drew (h : e.Re w lo hi) : e.Re w.drew lo hi := E.Re.keep (w := w) (w' := w.drew) (fun _ _ _ => rfl) h
theorem E.Re.drewN (h : e.Re w lo hi) (n : Nat) : e.Re (w.drewN n) lo hi := E.Re.keep (w := w) (w' := w.drewN n) (fun _ _ _ => rfl) h
theorem E.Re.alloc (h : e.Re w lo hi) (hB : hi ≤ w.heap.size) (o : Obj) : e.Re (w.alloc o) lo hi := h.below (B := w.heap.size) ((Below.refl _ _).alloc (Nat.le_refl _) o) hB
theorem E.Re.setCell (h : e.Re w lo hi) {p : Addr} (hB : hi ≤ p.block) (u : Value) : e.Re (w.setCell p u) lo hi := h.below (B := hi) ((Below.refl _ _).setCell hB u) (Nat.le_refl _)
theorem E.In.below {B : Nat} (h : e.In w) (hb : Below B w w') (hB : w.heap.size ≤ B) : e.In w' := (E.Re.below h hb hB).wider (Nat.le_refl _) hb.size
theorem E.In.drew (h : e.In w) : e.In w.drew := E.Re.drew h
theorem E.In.drewN (h : e.In w) (n : Nat) : e.In (w.drewN n) := E.Re.drewN h n
theorem E.In.alloc (h : e.In w) (o : Obj) : e.In (w.alloc o) := (E.Re.alloc h (Nat.le_refl _) o).wider (Nat.le_refl _) (by simp)
theorem E.Re.sl {k c : Nat} {T : TypeId} {A : Option Addr} {l : List E} (h : (E.lst k T A c l).Re w lo hi) : Sl w lo hi k E.enc (.slice A l.length c) l := by simp only [E.Re] at h; exact h.1
theorem E.In.sl {k c : Nat} {T : TypeId} {A : Option Addr} {l : List E} (h : (E.lst k T A c l).In w) : Proofs.YtnlgmojciplnoaaDoor.Rd w k E.enc (.slice A l.length c) l := E.Re.sl h
theorem E.Re.el {k c : Nat} {T : TypeId} {A : Option Addr} {l : List E} (h : (E.lst k T A c l).Re w lo hi) (he : e ∈ l) : e.Re w lo hi := by simp only [E.Re, E.ReL_iff] at h; exact h.2 e he
theorem E.In.el {k c : Nat} {T : TypeId} {A : Option Addr} {l : List E} (h : (E.lst k T A c l).In w) (he : e ∈ l) : e.In w := E.Re.el h he
theorem E.Re.mk {k c : Nat} {T : TypeId} {A : Option Addr} {l : List E} (h : Sl w lo hi k E.enc (.slice A l.length c) l) (h2 : ∀ e ∈ l, e.Re w lo hi) : (E.lst k T A c l).Re w lo hi := by simp only [E.Re, E.ReL_iff]; exact ⟨h, h2⟩
theorem E.Ho.lt : ∀ {e : E}, e.Ho w lo hi → ∀ g ∈ e.fp, lo ≤ g ∧ g < hi ∧ g < w.heap.size := by
  intro e
  induction e using E.ind with
  | h1 | h2 | h3 => intro _ g hg; simp [E.fp] at hg
  | h4 fs ih =>
    intro h g hg
    simp only [E.Ho, E.HoL_iff] at h
    simp only [E.fp, E.mem_fpL] at hg
    obtain ⟨e, he, hg⟩ := hg
    exact ih e he (h e he) g hg
  | h5 k T A c l ih =>
    intro h g hg
    simp only [E.Ho, E.HoL_iff] at h
    simp only [E.fp, List.mem_append, E.mem_fpL] at hg
    rcases hg with hg | ⟨e, he, hg⟩
    · rcases A with _ | a
      · simp at hg
      · obtain rfl : g = a.block := by simpa using hg
        have h1 := h.1.1.lt a.block rfl
        exact ⟨h1.1, h.1.2 a.block rfl, h1.2⟩
    · exact ih e he (h.2.2 e he) g hg
theorem E.Ho.of_fp : ∀ {e : E}, e.Ho w lo hi → (∀ g ∈ e.fp, lo ≤ g → g < hi → g < w.heap.size → w'.heap[g]? = w.heap[g]?) → e.Ho w' lo hi := by
  intro e
  induction e using E.ind with
  | h1 | h2 | h3 => intro _ _; simp [E.Ho]
  | h4 fs ih =>
    intro h hb
    simp only [E.Ho, E.HoL_iff] at h ⊢
    exact fun e he => ih e he (h e he) fun g hg => hb g (by simp only [E.fp, E.mem_fpL]; exact ⟨e, he, hg⟩)
  | h5 k T A c l ih =>
    intro h hb
    have hlt := E.Ho.lt h
    simp only [E.Ho, E.HoL_iff] at h ⊢
    refine ⟨?_, h.2.1, fun e he => ih e he (h.2.2 e he) fun g hg => hb g (by simp only [E.fp, List.mem_append, E.mem_fpL]; exact .inr ⟨e, he, hg⟩)⟩
    obtain ⟨⟨hl, h0 | ⟨g, cap, cur, hv, hg, hh, hn, hc, hs, ht⟩⟩, hh2⟩ := h.1
    · exact ⟨⟨hl, .inl h0⟩, hh2⟩
    · have hA : A = some ⟨g, 0, none⟩ := by injection hv
      have hgf : g ∈ (E.lst k T A c l).fp := by rw [hA]; simp [E.fp]
      have hl3 := hlt g hgf
      exact ⟨⟨hl, .inr ⟨g, cap, cur, hv, hg, (hb g hgf hl3.1 hl3.2.1 hl3.2.2).trans hh, hn, hc, hs, ht⟩⟩, hh2⟩
theorem E.Ho.wider (h1 : lo' ≤ lo) (h2 : hi ≤ hi') : ∀ {e : E}, e.Ho w lo hi → e.Ho w lo' hi' := by
  intro e
  induction e using E.ind with
  | h1 | h2 | h3 => intro _; simp [E.Ho]
  | h4 fs ih => intro h; simp only [E.Ho, E.HoL_iff] at h ⊢; exact fun e he => ih e he (h e he)
  | h5 k T A c l ih => intro h; simp only [E.Ho, E.HoL_iff] at h ⊢; exact ⟨Ow.wider h.1 h1 h2, h.2.1, fun e he => ih e he (h.2.2 e he)⟩
theorem E.Ho.below {B : Nat} (h : e.Ho w lo hi) (hb : Below B w w') (hB : hi ≤ B) : e.Ho w' lo hi := h.of_fp fun g _ _ hg _ => hb.block g (by omega)
theorem E.Ho.drew (h : e.Ho w lo hi) : e.Ho w.drew lo hi := E.Ho.of_fp (w := w) (w' := w.drew) h fun _ _ _ _ _ => rfl
theorem E.Ho.drewN (h : e.Ho w lo hi) (n : Nat) : e.Ho (w.drewN n) lo hi := E.Ho.of_fp (w := w) (w' := w.drewN n) h fun _ _ _ _ _ => rfl
theorem E.Ho.alloc (h : e.Ho w lo hi) (hB : hi ≤ w.heap.size) (o : Obj) : e.Ho (w.alloc o) lo hi := h.below (B := w.heap.size) ((Below.refl _ _).alloc (Nat.le_refl _) o) hB
theorem E.Ho.setCell (h : e.Ho w lo hi) {p : Addr} (hB : hi ≤ p.block) (u : Value) : e.Ho (w.setCell p u) lo hi := h.below (B := hi) ((Below.refl _ _).setCell hB u) (Nat.le_refl _)
theorem E.Ho.el {k c : Nat} {T : TypeId} {A : Option Addr} {l : List E} (h : (E.lst k T A c l).Ho w lo hi) (he : e ∈ l) : e.Ho w lo hi := by simp only [E.Ho, E.HoL_iff] at h; exact h.2.2 e he
theorem E.Ho.row {k c : Nat} {T : TypeId} {A : Option Addr} {l : List E} (h : (E.lst k T A c l).Ho w lo hi) : Ow w lo hi T k (.slice A l.length c) l.length (E.encL l) := by simp only [E.Ho] at h; exact h.1
theorem E.Ho.lens {k c : Nat} {T : TypeId} {A : Option Addr} {l : List E} (h : (E.lst k T A c l).Ho w lo hi) : ∀ e ∈ l, e.enc.length = k := by simp only [E.Ho] at h; exact h.2.1
theorem E.Ho.mk {k c : Nat} {T : TypeId} {A : Option Addr} {l : List E} (h : Ow w lo hi T k (.slice A l.length c) l.length (E.encL l)) (h1 : ∀ e ∈ l, e.enc.length = k) (h2 : ∀ e ∈ l, e.Ho w lo hi) : (E.lst k T A c l).Ho w lo hi := by simp only [E.Ho, E.HoL_iff]; exact ⟨h, h1, h2⟩
end
end Go.Proofs.YtnlgmojciplnoaaDoor
namespace Go.Proofs.YtnlgmojciplnoaaDoor
open Go.RowKit
end Go.Proofs.YtnlgmojciplnoaaDoor
namespace Go.Proofs.YtnlgmojciplnoaaDoor
open Go.RowKit
end Go.Proofs.YtnlgmojciplnoaaDoor
namespace Go.Proofs.YtnlgmojciplnoaaDoor
open Go.RowKit
structure Fr (fp : List Nat) (w w' : World) : Prop where
  os : w'.os = w.os
  tape : w'.tape = w.tape
  output : w'.output = w.output
  size : w.heap.size ≤ w'.heap.size
  block : ∀ k, k < w.heap.size → k ∉ fp → w'.heap[k]? = w.heap[k]?
section
variable {fp fp' : List Nat} {a b c w w' : World} {lo hi B : Nat} {e : E}
theorem Fr.refl (fp : List Nat) (w : World) : Fr fp w w := ⟨rfl, rfl, rfl, Nat.le_refl _, fun _ _ _ => rfl⟩
theorem Fr.trans (h : Fr fp a b) (k : Fr fp b c) : Fr fp a c :=
  ⟨k.os.trans h.os, k.tape.trans h.tape, k.output.trans h.output, Nat.le_trans h.size k.size, fun i hi hh => (k.block i (Nat.lt_of_lt_of_le hi h.size) hh).trans (h.block i hi hh)⟩
theorem Fr.set (h : Fr fp a w) {p : Addr} (h1 : p.block ∈ fp) (u : Value) : Fr fp a (w.setCell p u) :=
  ⟨h.os, h.tape, h.output, by simpa using h.size, fun k hk hh => (Below.heap_setCell w p u k (by rintro rfl; exact hh h1)).trans (h.block k hk hh)⟩
theorem Fr.sub (h : Fr fp a b) (hs : ∀ g ∈ fp, g ∈ fp') : Fr fp' a b := ⟨h.os, h.tape, h.output, h.size, fun k hk hh => h.block k hk fun hm => hh (hs k hm)⟩
theorem Fr.below (h : Fr fp a b) (hf : ∀ g ∈ fp, B ≤ g) (hB : B ≤ a.heap.size) : Below B a b := ⟨h.os, h.tape, h.output, h.size, fun k hk => h.block k (by omega) fun hm => by have := hf k hm; omega⟩
theorem E.Ho.fr (h : e.Ho a lo hi) (hb : Fr fp a b) (hd : ∀ g ∈ e.fp, g ∉ fp) : e.Ho b lo hi := h.of_fp fun g hg _ _ hs => hb.block g hs (hd g hg)
end
theorem E.encL_set {k : Nat} {l : List E} (hk : ∀ e ∈ l, e.enc.length = k) {i : Nat} (h : i < l.length) {x : E} {j : Nat} {u : Value} (hj : j < k) (hx : x.enc = l[i].enc.set j u) : E.encL (l.set i x) = (E.encL l).set (i * k + j) u := by
  have hlx : x.enc.length = k := by rw [hx, List.length_set]; exact hk _ (List.getElem_mem h)
  have hk2 : ∀ e ∈ l.set i x, e.enc.length = k := by
    intro e he
    rcases List.mem_or_eq_of_mem_set he with h | rfl
    · exact hk e h
    · exact hlx
  have hlen := E.encL_len hk
  have hlen2 := E.encL_len hk2
  apply List.ext_getElem?
  intro m
  have hk0 : 0 < k := by omega
  rcases Nat.lt_or_ge m (l.length * k) with hm | hm
  · have hq : m / k < l.length := (Nat.div_lt_iff_lt_mul hk0).2 hm
    have hr : m % k < k := Nat.mod_lt _ hk0
    have hm' : m = m / k * k + m % k := by rw [Nat.mul_comm]; exact (Nat.div_add_mod m k).symm
    generalize m / k = q at *
    generalize m % k = r at *
    subst hm'
    rw [E.encL_at hk2 q (by simpa using hq) r hr, List.getElem?_set]
    have hpos : i * k + j < (E.encL l).length := by
      rw [hlen]
      have := Nat.mul_le_mul_right k (show i + 1 ≤ l.length from h)
      rw [Nat.add_mul] at this; omega
    by_cases e : i = q
    · subst e
      simp only [List.getElem_set_self]
      by_cases e2 : j = r
      · subst e2
        rw [if_pos rfl, if_pos hpos, hx, List.getElem?_set_self (by rw [hk _ (List.getElem_mem h)]; exact hj)]
      · rw [if_neg (by omega), E.encL_at hk i h r hr, hx, List.getElem?_set_ne e2]
    · have hne : i * k + j ≠ q * k + r := by
        intro hh
        rcases Nat.lt_or_ge i q with hl | hl
        · have := Nat.mul_le_mul_right k (show i + 1 ≤ q from hl)
          rw [Nat.add_mul] at this; omega
        · have := Nat.mul_le_mul_right k (show q + 1 ≤ i by omega)
          rw [Nat.add_mul] at this; omega
      rw [if_neg hne, E.encL_at hk q hq r hr]
      simp only [List.getElem_set_ne e]
  · rw [List.getElem?_eq_none (by rw [hlen2, List.length_set]; exact hm), List.getElem?_eq_none (by rw [List.length_set, hlen]; exact hm)]
section
variable {w w' : World} {lo hi k c g i j : Nat} {T : TypeId} {l : List E} {x x' : E} {u : Value}
theorem E.Ho.store (h : (E.lst k T (some ⟨g, 0, none⟩) c (l.set i x)).Ho w lo hi) (hn : (E.lst k T (some ⟨g, 0, none⟩) c (l.set i x)).fp.Nodup) (hi_ : i < l.length) (x' : E) (j : Nat) (u : Value) (hj : j < k) (he : x'.enc = x.enc.set j u)
    (hin : ∀ W : World, x.Ho W lo hi → x'.Ho W lo hi) : (E.lst k T (some ⟨g, 0, none⟩) c (l.set i x')).Ho (w.setCell ⟨g, i * k + j, none⟩ u) lo hi := by
  have hl := h.lens
  have hi2 : i < (l.set i x).length := by simpa using hi_
  have hxi : (l.set i x)[i] = x := by simp
  have hgn : g ∉ E.fpL (l.set i x) := by
    simp only [E.fp, List.singleton_append, List.nodup_cons] at hn
    exact hn.1
  have e1 : l.set i x' = (l.set i x).set i x' := by rw [List.set_set]
  have hrow := (h.row).set (i * k + j) u
  rw [List.length_set] at hrow
  have hk2 : ∀ e ∈ l.set i x', e.enc.length = k := by
    rw [e1]
    intro e he2
    rcases List.mem_or_eq_of_mem_set he2 with h2 | rfl
    · exact hl e h2
    · rw [he, List.length_set]; exact hl x (List.mem_iff_getElem.2 ⟨i, hi2, hxi⟩)
  refine E.Ho.mk ?_ hk2 ?_
  · rw [List.length_set, e1, E.encL_set hl hi2 hj (by rw [hxi]; exact he)]
    exact hrow
  · have hold : ∀ e ∈ l.set i x, e.Ho (w.setCell ⟨g, i * k + j, none⟩ u) lo hi := fun e he2 =>
      (h.el he2).of_fp fun b hb _ _ _ => Below.heap_setCell w _ u b (by rintro rfl; exact hgn (E.mem_fpL.2 ⟨e, he2, hb⟩))
    intro e he2
    rw [e1] at he2
    rcases List.mem_or_eq_of_mem_set he2 with h2 | rfl
    · exact hold e h2
    · exact hin _ (hold x (List.mem_iff_getElem.2 ⟨i, hi2, hxi⟩))
end
end Go.Proofs.YtnlgmojciplnoaaDoor
namespace Go.Proofs.YtnlgmojciplnoaaDoor
open Go.ChangeShapes Go.WideShapes Go.ChangeAt Go.RowKit Go.Deep
section
variable {P : Program} {t : TypeId} {e : E}
end
section
variable {H : Type} {en : TypeId × Value → H} {P : Program} {w : World} {spare : Nat → Bool} {held : Bool}
instance : Inhabited E := ⟨.bool false⟩
end
end Go.Proofs.YtnlgmojciplnoaaDoor
namespace Go.Proofs.YtnlgmojciplnoaaDoor
open Go.RowKit
section
variable {α : Type} {P : Program} {ops : Array Oper} {o : Oper} {a : Act} {w : World} {lo hi k bytes H : Nat} {t e : TypeId} {enc : α → List Value}
end
theorem E.Ty.mk_agg {P : Program} {t : TypeId} {F : Array Field} {fs : List E} (hU : P.underlying t = some (.struct F)) (h : E.TyF P fs (F.toList.map (·.type))) : (E.agg fs).Ty P t := by simp only [E.Ty]; exact ⟨F, hU, h⟩
theorem E.TyF.mk_cons {P : Program} {t : TypeId} {ts : List TypeId} {e : E} {fs : List E} (h0 : e.Ty P t) (h : E.TyF P fs ts) : E.TyF P (e :: fs) (t :: ts) := by simp only [E.TyF]; exact ⟨t, ts, rfl, h0, h⟩
theorem E.TyF.mk_nil {P : Program} : E.TyF P [] [] := by simp only [E.TyF]
theorem E.Ho.mk_agg {w : World} {lo hi : Nat} {fs : List E} (h : E.HoL w lo hi fs) : (E.agg fs).Ho w lo hi := by simp only [E.Ho]; exact h
theorem E.HoL.mk_cons {w : World} {lo hi : Nat} {e : E} {fs : List E} (h0 : e.Ho w lo hi) (h : E.HoL w lo hi fs) : E.HoL w lo hi (e :: fs) := by simp only [E.HoL]; exact ⟨h0, h⟩
def Owns (w : World) (lo hi : Nat) (fs : List E) : Prop := E.HoL w lo hi fs ∧ (E.fpL fs).Nodup
theorem Owns.nil {w : World} {lo hi : Nat} : Owns w lo hi [] := ⟨by simp only [E.HoL], by simp [E.fpL]⟩
theorem Owns.cons {w : World} {lo mid hi : Nat} {e : E} {fs : List E} (h0 : e.Ho w lo mid) (hn : e.fp.Nodup) (h : Owns w mid hi fs) (h1 : lo ≤ mid) (h2 : mid ≤ hi) : Owns w lo hi (e :: fs) := by
  refine ⟨E.HoL.mk_cons (h0.wider (Nat.le_refl _) h2) ?_, ?_⟩
  · rw [E.HoL_iff]; exact fun x hx => ((E.HoL_iff fs).1 h.1 x hx).wider h1 (Nat.le_refl _)
  · rw [E.fpL, List.nodup_append]
    refine ⟨hn, h.2, fun a ha b hb e => ?_⟩
    subst e
    obtain ⟨x, hx, hg⟩ := E.mem_fpL.1 hb
    have := h0.lt a ha
    have := ((E.HoL_iff fs).1 h.1 x hx).lt a hg
    omega
end Go.Proofs.YtnlgmojciplnoaaDoor
