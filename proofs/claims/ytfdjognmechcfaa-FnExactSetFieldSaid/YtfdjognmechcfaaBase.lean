/- Small words and lemmas of my own, over any program: endings, frames, slices that read as lists. -/
import Derived.Test.YtfdjognmechcfaaProg
import Derived.WalkKit
import Derived.WalkLawsBesides
import Derived.WalkSpells
import Derived.Lib.Hide
import Derived.BigQuiet
import Derived.Deep.QuietTactic
import Derived.Laws.AppendOwnNone
namespace Go.Proofs.Ytfdjognmechcfaa
open Go.RowKit

theorem rb {a b : Bool} (h : a = b) : (Ending.returned (.bool a) = .returned (.bool b)) := by rw [h]
theorem ri {a b : Int} (h : a = b) : (Ending.returned (.int .i64 a) = .returned (.int .i64 b)) := by rw [h]

/-- Behind a call: a block that was there holds what it held. -/
theorem blk {W w' : World} (hb : Below W.heap.size W w') {b : Nat} (h : b < W.heap.size) : ∀ o, w'.cell? ⟨b, o, none⟩ = W.cell? ⟨b, o, none⟩ := fun o => hb.cell (p := ⟨b, o, none⟩) h
theorem bfz {W w' : World} (hb : Below W.heap.size W w') {b : Nat} (h : b < W.heap.size) : ∀ o, w'.frozen? ⟨b, o, none⟩ = W.frozen? ⟨b, o, none⟩ := fun o => hb.frozen (p := ⟨b, o, none⟩) h

theorem bdrewN {B : Nat} {a w : World} (h : Below B a w) (n : Nat) : Below B a (w.drewN n) := ⟨h.os, h.tape, h.output, h.size, h.block⟩
section
variable {w w' : World} {b o : Nat} {u : Value}
theorem cell_drew (h : w.cell? ⟨b, o, none⟩ = some u) : w.drew.cell? ⟨b, o, none⟩ = some u := h
theorem cell_drewN {n : Nat} (h : w.cell? ⟨b, o, none⟩ = some u) : (w.drewN n).cell? ⟨b, o, none⟩ = some u := h
theorem cell_new {cs : Array Value} {t : TypeId} (h : cs[o]? = some u) : (w.alloc (.cells cs t)).cell? ⟨w.heap.size, o, none⟩ = some u := by
  rw [cell_of_row _ _ _ _ _ _ (heap_alloc_new w _)]; exact h
theorem cell_new' {cs : Array Value} {t : TypeId} {n : Nat} (h : cs[o]? = some u) (hn : w.heap.size = n) : (w.alloc (.cells cs t)).cell? ⟨n, o, none⟩ = some u := by subst hn; exact cell_new h
theorem cell_alloc {x : Obj} (h : w.cell? ⟨b, o, none⟩ = some u) (hb : b < w.heap.size) : (w.alloc x).cell? ⟨b, o, none⟩ = some u :=
  (World.cell?_alloc_lt w x ⟨b, o, none⟩ hb).trans h
theorem cell_below {B : Nat} (hb : Below B w w') (h : w.cell? ⟨b, o, none⟩ = some u) (hB : b < B) : w'.cell? ⟨b, o, none⟩ = some u := (hb.cell (p := ⟨b, o, none⟩) hB).trans h
end
/-- A block behind a store. -/
def setAt (j : Nat) (v : Value) : Obj → Obj
  | .cells c e f => .cells (c.setIfInBounds j v) e f
  | o => o
theorem heap_set (w : World) (g j : Nat) (v : Value) (i : Nat) : (w.setCell ⟨g, j, none⟩ v).heap[i]? = if i = g then (w.heap[i]?).map (setAt j v) else w.heap[i]? := by
  by_cases h : i = g
  · subst h
    rw [if_pos rfl]
    simp only [World.setCell, Array.getElem?_modify, if_true]
    congr 1
  · rw [if_neg h, Below.heap_setCell w _ v i h]
theorem heap_new (w : World) (o : Obj) (i : Nat) : (w.alloc o).heap[i]? = if i = w.heap.size then some o else w.heap[i]? := by
  by_cases h : i = w.heap.size
  · subst h; rw [if_pos rfl]; exact heap_alloc_new w o
  · rw [if_neg h]
    rcases Nat.lt_or_ge i w.heap.size with hl | hl
    · exact Below.heap_alloc w o i hl
    · rw [Array.getElem?_eq_none hl, Array.getElem?_eq_none (by simp; omega)]
/-- One result, a struct: it lies in a block of its own. -/
theorem ret_cell {P : Program} {fn : Func} {p : Tmp} {ty t : TypeId} {tmps : Array Value} {w : World} {b : Nat} {cs : Array Value} {fr : Nat × Nat} {fs : Array Field}
    (h : fn.results = #[.cell p ty]) (ha : tmps.getD p undef = .pointer (some ⟨b, 0, none⟩)) (ht : P.underlying ty = some (.struct fs))
    (hc : (P.info? ty).map (·.size) = some cs.size)
    (hg : w.heap[b]? = some (.cells cs t fr)) : (results fn tmps).run P w = .ok (.agg cs) w := by
  have ha' : tmps[p]?.getD undef = .pointer (some ⟨b, 0, none⟩) := by simpa using ha
  have hv := run_loadVar_row (P := P) w b t ty cs fr _ hg ht rfl hc
  simp only [results, h]
  simp [Sem.run_bind, Result.andThen, ha', asAddr, hv]
end Go.Proofs.Ytfdjognmechcfaa
