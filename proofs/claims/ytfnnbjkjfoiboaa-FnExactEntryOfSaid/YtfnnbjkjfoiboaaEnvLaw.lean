/- Words for the laws over environments. -/
import Derived.Test.YtfnnbjkjfoiboaaEnvC
namespace Go.Proofs.Ytfnnbjkjfoiboaa
open Go.RowKit

/-- The inner slices of tables, as laws ask them. -/
def RdT (w : World) (ts : List GTab) : Prop := InT w 0 w.heap.size ts
section
variable {w w' : World} {ts : List GTab}
theorem RdT.drew (h : RdT w ts) : RdT w.drew ts := InT.drew h
theorem RdT.drewN (h : RdT w ts) (n : Nat) : RdT (w.drewN n) ts := InT.drewN h n
theorem RdT.alloc (h : RdT w ts) (o : Obj) : RdT (w.alloc o) ts := (InT.alloc h (Nat.le_refl _) o).wider (Nat.le_refl _) (by simp)
theorem RdT.below {B : Nat} (h : RdT w ts) (hb : Below B w w') (hB : w.heap.size ≤ B) : RdT w' ts := (InT.below h hb hB).wider (Nat.le_refl _) hb.size
theorem InT.rdT {lo hi : Nat} (h : InT w lo hi ts) (hi_ : hi ≤ w.heap.size) : RdT w ts := h.wider (Nat.zero_le _) hi_
end
theorem SameT.both {ts us vs : List GTab} (h : Hid (SameT ts us)) (k : Hid (SameT ts vs)) : Hid (SameT us vs) := by
  have h1 : ts.map GTab.d = us.map GTab.d := h.out
  have h2 : ts.map GTab.d = vs.map GTab.d := k.out
  exact h1.symm.trans h2
theorem SameT.rfl' (ts : List GTab) : Hid (SameT ts ts) := rfl
end Go.Proofs.Ytfnnbjkjfoiboaa
