/- Small words and lemmas of my own, over any program: endings, frames, slices that read as lists. -/
import Derived.Test.YtjgmdbhbnpafgaaProg
import Derived.WalkKit
import Derived.WalkLawsBesides
import Derived.WalkSpells
import Derived.Lib.Hide
import Derived.BigQuiet
import Derived.Deep.QuietTactic
namespace Go.Proofs.Ytjgmdbhbnpafgaa
open Go.RowKit

theorem rb {a b : Bool} (h : a = b) : (Ending.returned (.bool a) = .returned (.bool b)) := by rw [h]
theorem ri {a b : Int} (h : a = b) : (Ending.returned (.int .i64 a) = .returned (.int .i64 b)) := by rw [h]

/-- Behind a call: a block that was there holds what it held. -/
theorem blk {W w' : World} (hb : Below W.heap.size W w') {b : Nat} (h : b < W.heap.size) : ∀ o, w'.cell? ⟨b, o, none⟩ = W.cell? ⟨b, o, none⟩ := fun o => hb.cell (p := ⟨b, o, none⟩) h
theorem bfz {W w' : World} (hb : Below W.heap.size W w') {b : Nat} (h : b < W.heap.size) : ∀ o, w'.frozen? ⟨b, o, none⟩ = W.frozen? ⟨b, o, none⟩ := fun o => hb.frozen (p := ⟨b, o, none⟩) h

end Go.Proofs.Ytjgmdbhbnpafgaa
