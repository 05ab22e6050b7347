/- markText, and the mark and held functions. -/
import Derived.Test.YtkhioiehcaaejaaDoorRec
import Derived.Deep.RegionHeld3
import Derived.Deep.RegionWith
namespace Go.Proofs.YtkhioiehcaaejaaDoor
open Go.RowKit

/-- The digits of k ahead of acc (fuel first). -/
def mdig : Nat → Nat → List UInt8 → List UInt8
  | 0, _, acc => acc
  | f + 1, k, acc => if k = 0 then acc else mdig f (k / 10) (UInt8.ofNat (48 + k % 10) :: acc)
theorem conv1 {P : Program} {t e d : TypeId} (hs : P.underlying t = some (.slice e)) (he : P.underlying e = some (.int .u8)) (hd : P.underlying d = some .string) (X : Int) (W : World) :
    (convert t d (.slice (some ⟨W.heap.size, 0, none⟩) 1 1)).run P (W.alloc (.cells #[.int .u8 X] e)) = .ok (.string (strOfNums [X])) (W.alloc (.cells #[.int .u8 X] e)) :=
  run_convert_bytes_arg _ t e hs he W.heap.size 0 1 1 [X] rfl (fun i hi => by
    have : i = 0 := by omega
    subst this
    rw [cell_of_row _ _ _ _ _ _ (heap_alloc_new W _)]; rfl) d hd
/-- What markText comes to. -/
def markT (k : Int) : ByteArray := if k ≤ 0 then ⟨#[109, 48]⟩ else ⟨#[109]⟩ ++ ⟨(mdig (k.toNat + 1) k.toNat []).toArray⟩
theorem strOf1 (x : Int) (l : List UInt8) : strOfNums [x] ++ ⟨l.toArray⟩ = ⟨(UInt8.ofNat x.toNat :: l).toArray⟩ := by
  show (ByteArray.mk [UInt8.ofNat x.toNat].toArray ++ ByteArray.mk l.toArray) = _
  rw [ByteArray.mk_append_mk]; rfl
def fS (_ : Nat) (i : Int) : Value := .string (markT i)
theorem set1 {xs : List Value} {f : Nat → Int → Value} {k0 : Int} {k n : Nat} (hl : xs.length = n * 1) (hk : k < n) (h : ∀ i < k, xs[i]? = some (f 0 (k0 + i))) : ∀ i < k + 1, (xs.set k (f 0 (k0 + k)))[i]? = some (f 0 (k0 + i)) := by
  intro i hi
  rw [List.getElem?_set]
  by_cases e : k = i
  · subst e; rw [if_pos rfl, if_pos (by omega)]
  · rw [if_neg e]; exact h i (by omega)
theorem iadd (a : Int) (k : Nat) : a + (k : Int) + 1 = a + ((k + 1 : Nat) : Int) := by omega
end Go.Proofs.YtkhioiehcaaejaaDoor
