/- Texts joined: plain lemmas. -/
import Derived.Test.YtnlgmojciplnoaaDoorLexPT
namespace Go.Proofs.YtnlgmojciplnoaaDoor
open Go.RowKit
end Go.Proofs.YtnlgmojciplnoaaDoor
namespace Go.Proofs.YtnlgmojciplnoaaDoor
open Go.RowKit
set_option maxRecDepth 100000
abbrev T3 := Int × Int × ByteArray
def T3.E (t : T3) : E := tokE t.1 t.2.1 t.2.2
def tkT (k n : Int) (s : ByteArray) : ByteArray :=
  if tokOk k n s = true then if k = 1 then numT n else if k = 3 then (⟨#[39]⟩ ++ s) ++ ⟨#[39]⟩ else if k = 4 then (⟨#[47]⟩ ++ s) ++ ⟨#[47]⟩ else s else ⟨#[]⟩
def T3.T (t : T3) : ByteArray := tkT t.1 t.2.1 t.2.2
def good (r : Bool) (t : T3) : Prop := tokOk t.1 t.2.1 t.2.2 = true ∧ (t.1 = 4 → r = true) ∧ (t.1 = 5 → t.2.2 = ⟨#[47]⟩ → r = false)
def ch : Bool → List T3 → Bool → Prop
  | r, [], r' => r = r'
  | r, t :: l, r' => good r t ∧ ch (tilB t.1 t.2.2) l r'
theorem zi15 : ∀ {l : List T3} {r r' : Bool} {t : T3}, ch r l r' → good r' t → ch r (l ++ [t]) (tilB t.1 t.2.2)
  | [], r, r', t, h, g => by
    have : r = r' := h
    subst this
    exact ⟨g, rfl⟩
  | x :: l, r, r', t, h, g => ⟨h.1, zi15 (l := l) h.2 g⟩
theorem zo10 : ∀ {l : List T3} {r r' : Bool}, ch r l r' → ∀ t ∈ l, tokOk t.1 t.2.1 t.2.2 = true
  | [], _, _, _, t, ht => by cases ht
  | x :: l, r, r', h, t, ht => by
    rcases List.mem_cons.1 ht with rfl | ht
    · exact h.1.1
    · exact zo10 h.2 t ht
set_option maxRecDepth 100000
end Go.Proofs.YtnlgmojciplnoaaDoor
