/- The package variables that the walks read: they stand as the start laid them (none, at a seat whose rows lay none). -/
import Derived.Test.YtfdjognmechcfaaSl
namespace Go.Proofs.Ytfdjognmechcfaa
open Go.RowKit
def gvs : List (Nat × Array Value) := []
def isG (b : Nat) : Prop := ∃ p ∈ gvs, p.1 = b
def GlobOk (w : World) : Prop := ∀ p ∈ gvs, ∃ T fr, w.heap[p.1]? = some (.cells p.2 T fr)
def Gl (w : World) : Prop := GlobOk w
theorem GlobOk.keep {w w' : World} (h : GlobOk w) (hb : ∀ b, isG b → w'.heap[b]? = w.heap[b]?) : GlobOk w' := fun p hp => by
  obtain ⟨T, fr, e⟩ := h p hp
  exact ⟨T, fr, (hb p.1 ⟨p, hp, rfl⟩).trans e⟩
theorem Gl.lt {w : World} (h : Gl w) {b : Nat} (hb : isG b) : b < w.heap.size := by
  obtain ⟨p, hp, rfl⟩ := hb
  obtain ⟨T, fr, e⟩ := h p hp
  exact (Array.getElem?_eq_some_iff.1 e).1
theorem Gl.below {w w' : World} {B : Nat} (h : Gl w) (hb : Below B w w') (hB : w.heap.size ≤ B) : Gl w' := GlobOk.keep h fun b hg => hb.block b (Nat.lt_of_lt_of_le (h.lt hg) hB)
theorem Gl.below_ {w w' : World} (h : Gl w) (hb : Below w.heap.size w w') : Gl w' := h.below hb (Nat.le_refl _)
theorem gl_any (w : World) : Gl w := fun p hp => by simp [gvs] at hp
end Go.Proofs.Ytfdjognmechcfaa
