/-
  DERIVED. GIVEN WITH THE SEED: THE CARDS: each row of YtnlgmojciplnoaaDoorRows.lean that lists a variable, with what it lists TIED to the program's text (the seventh form; the later family's looks); each row that meets fmt, with fmt's text TOLD by the authors' own Lean function (tested against real Go, not proved from fmt's source: count such statements apart). THE CARD IS WHAT COUNTS. Prove the row's statement (the work); the ties are given (YtnlgmojciplnoaaDoorTie.lean); close each card by the builder's one call (the guide's Derived/Test/ToyasCard.lean, 'card_holds'). Laid BY PROGRAM, IN A SANDBOX (cutbox-door.mjs). By AI agents, Wed Nov 11 2026. No macro, syntax, notation, axiom, sorry.
-/
import Derived.Test.YtnlgmojciplnoaaDoorRows
import GoSem.ClaimSeven
namespace Go.Proofs.YtnlgmojciplnoaaDoor
namespace Rows

/-- THE TIED CARD OF 'laws.FnLexed'. -/
def fnLexedCard : Claim7 := { stood := { row := fnLexedRow, standIns := [], harness := (true, "dcfee7ae3f49e49709b6a8e6aea217711adefcebe9dff5bc2200de6c9ea9bab3"), looks := true }, kinds := [], alts := [], laidByText := true, laidKinds := [.data, .data, .data, .sentinel, .sentinel], laidTests := true, laidLooks := .later }
def FnLexedCardSaid : Prop := Claim7.holds Tryd.pinned (.plain (OpenSpec.ofChange fnLexedSpec)) fnLexedCard

/-- THE TIED CARD OF 'laws.FnExactLex'. -/
def fnExactLexCard : Claim7 := { stood := { row := fnExactLexRow, standIns := [], harness := (true, "dcfee7ae3f49e49709b6a8e6aea217711adefcebe9dff5bc2200de6c9ea9bab3"), looks := true }, kinds := [], alts := [], laidByText := true, laidKinds := [.data, .data, .data, .sentinel, .sentinel], laidTests := true, laidLooks := .later }
def FnExactLexCardSaid : Prop := Claim7.holds Tryd.pinned (.plain (OpenSpec.ofChange fnExactLexSpec)) fnExactLexCard

/-- THE TIED CARD OF 'laws.FnLex'. -/
def fnLexCard : Claim7 := { stood := { row := fnLexRow, standIns := [], harness := (true, "dcfee7ae3f49e49709b6a8e6aea217711adefcebe9dff5bc2200de6c9ea9bab3"), looks := true }, kinds := [], alts := [], laidByText := true, laidKinds := [.data, .data, .data, .sentinel, .sentinel], laidTests := true, laidLooks := .later }
def FnLexCardSaid : Prop := Claim7.holds Tryd.pinned (.plain (OpenSpec.ofChange fnLexSpec)) fnLexCard

/-- THE SECOND FORM's CARD OF 'laws.FnLexed'. -/
def fnLexedUptoCard : Claim7 := { stood := { row := fnLexedUptoRow, standIns := [], harness := (true, "dcfee7ae3f49e49709b6a8e6aea217711adefcebe9dff5bc2200de6c9ea9bab3"), looks := true }, kinds := [], alts := [], laidByText := true, laidKinds := [.data, .data, .data, .sentinel, .sentinel], laidTests := true, laidLooks := .later }
def FnLexedUptoCardSaid : Prop := Claim7.holds Tryd.pinned (.plain (OpenSpec.upto fnLexedSpec)) fnLexedUptoCard

/-- THE SECOND FORM's CARD OF 'laws.FnExactLex'. -/
def fnExactLexUptoCard : Claim7 := { stood := { row := fnExactLexUptoRow, standIns := [], harness := (true, "dcfee7ae3f49e49709b6a8e6aea217711adefcebe9dff5bc2200de6c9ea9bab3"), looks := true }, kinds := [], alts := [], laidByText := true, laidKinds := [.data, .data, .data, .sentinel, .sentinel], laidTests := true, laidLooks := .later }
def FnExactLexUptoCardSaid : Prop := Claim7.holds Tryd.pinned (.plain (OpenSpec.upto fnExactLexSpec)) fnExactLexUptoCard

/-- THE SECOND FORM's CARD OF 'laws.FnLex'. -/
def fnLexUptoCard : Claim7 := { stood := { row := fnLexUptoRow, standIns := [], harness := (true, "dcfee7ae3f49e49709b6a8e6aea217711adefcebe9dff5bc2200de6c9ea9bab3"), looks := true }, kinds := [], alts := [], laidByText := true, laidKinds := [.data, .data, .data, .sentinel, .sentinel], laidTests := true, laidLooks := .later }
def FnLexUptoCardSaid : Prop := Claim7.holds Tryd.pinned (.plain (OpenSpec.upto fnLexSpec)) fnLexUptoCard
end Rows
end Go.Proofs.YtnlgmojciplnoaaDoor
