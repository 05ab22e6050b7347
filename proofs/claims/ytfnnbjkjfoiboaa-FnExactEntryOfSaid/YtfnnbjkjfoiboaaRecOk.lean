/- RecOk and FieldOf of both sides; szRec, toRec, eqRec. -/
import Derived.Test.YtfnnbjkjfoiboaaIns
import Derived.Test.YtfnnbjkjfoiboaaPrim
import Derived.Deep.RegionHeld3
namespace Go.Proofs.Ytfnnbjkjfoiboaa
open Go.RowKit

def szRec (s : ByteArray) (fs : List ByteArray) (left : Int) : Int := if left - s.size < 0 then -1 else if szS szStr fs (left - s.size) < 0 then -1 else szS szStr fs (left - s.size)
theorem szLoop_le {α : Type} (f : α → Int → Int) (hf : ∀ d l, f d l ≤ l) : ∀ (ds : List α) (l : Int), 0 ≤ l → szLoop f ds l ≤ l
  | [], l, _ => Int.le_refl _
  | d :: r, l, h => by
    rw [szLoop]
    split
    · omega
    · have := szLoop_le f hf r (f d l) (by omega); have := hf d l; omega
theorem szS_le {α : Type} (f : α → Int → Int) (hf : ∀ d l, f d l ≤ l) (ds : List α) (l : Int) (h : 0 ≤ l) : szS f ds l ≤ l ∧ (0 ≤ szS f ds l → ds.length ≤ l) := by
  unfold szS
  split
  · omega
  · have := szLoop_le f hf ds (l - ds.length) (by omega); omega
theorem szStr_le (d : ByteArray) (l : Int) : szStr d l ≤ l := by unfold szStr; omega

def recOk (s : ByteArray) (fs : List ByteArray) : Bool := fs.all (fun x => decide (x.size ≤ 200)) && (decide (s.size ≤ 200) && decide (fs.length ≤ 20))
theorem all_step {α : Type} {f : α → Bool} {l : List α} {k : Nat} (h : k < l.length) (hf : f l[k] = false) : l.all f = false := by
  rw [List.all_eq_false]; exact ⟨l[k], List.getElem_mem h, by simp [hf]⟩
theorem all_done {α : Type} {f : α → Bool} {l : List α} (h : ∀ i (hi : i < l.length), f l[i] = true) : l.all f = true := by
  rw [List.all_eq_true]; intro x hx
  obtain ⟨i, hi, rfl⟩ := List.getElem_of_mem hx
  exact h i hi
def fieldOf (s : ByteArray) (ds : List ByteArray) (n : Int) : ByteArray := if n = 0 then s else if 1 ≤ n ∧ n ≤ ds.length then ds.getD (n - 1).toNat ByteArray.empty else ByteArray.empty
end Go.Proofs.Ytfnnbjkjfoiboaa
