/-
  DERIVED. GIVEN WITH THE SEED: THE CARDS: each row of YtfemkmnkofgaaaaDoorRows.lean that lists a variable, with what it lists TIED to the program's text (the seventh form; the later family's looks); each row that meets fmt, with fmt's text TOLD by the authors' own Lean function (tested against real Go, not proved from fmt's source: count such statements apart). THE CARD IS WHAT COUNTS. Prove the row's statement (the work); the ties are given (YtfemkmnkofgaaaaDoorTie.lean); close each card by the builder's one call (the guide's Derived/Test/ToyasCard.lean, 'card_holds'). Laid BY PROGRAM, IN A SANDBOX (cutbox-door.mjs). By AI agents, Wed Nov 11 2026. No macro, syntax, notation, axiom, sorry.
-/
import Derived.Test.YtfemkmnkofgaaaaDoorRows
import GoSem.ClaimSeven
namespace Go.Proofs.YtfemkmnkofgaaaaDoor
namespace Rows

/-- THE TIED CARD OF 'laws.FnIns'. -/
def fnInsCard : Claim7 := { stood := { row := fnInsRow, standIns := [], harness := (true, "16f5ca7a09163505d8b854dd969d887836f49d3e5e48d7013fbb0b3447b1f2ac"), looks := true }, kinds := [], alts := [], laidByText := true, laidKinds := [.data, .data, .data], laidTests := true, laidLooks := .later }
def FnInsCardSaid : Prop := Claim7.holds Tryd.pinned (.plain (OpenSpec.ofChange fnInsSpec)) fnInsCard

/-- THE TIED CARD OF 'laws.FnLexed'. -/
def fnLexedCard : Claim7 := { stood := { row := fnLexedRow, standIns := [], harness := (true, "16f5ca7a09163505d8b854dd969d887836f49d3e5e48d7013fbb0b3447b1f2ac"), looks := true }, kinds := [], alts := [], laidByText := true, laidKinds := [.data, .data, .data, .sentinel, .sentinel], laidTests := true, laidLooks := .later }
def FnLexedCardSaid : Prop := Claim7.holds Tryd.pinned (.plain (OpenSpec.ofChange fnLexedSpec)) fnLexedCard

/-- THE TIED CARD OF 'laws.FnExactLex'. -/
def fnExactLexCard : Claim7 := { stood := { row := fnExactLexRow, standIns := [], harness := (true, "16f5ca7a09163505d8b854dd969d887836f49d3e5e48d7013fbb0b3447b1f2ac"), looks := true }, kinds := [], alts := [], laidByText := true, laidKinds := [.data, .data, .data, .sentinel, .sentinel], laidTests := true, laidLooks := .later }
def FnExactLexCardSaid : Prop := Claim7.holds Tryd.pinned (.plain (OpenSpec.ofChange fnExactLexSpec)) fnExactLexCard

/-- THE TIED CARD OF 'laws.FnExactTextAt'. -/
def fnExactTextAtCard : Claim7 := { stood := { row := fnExactTextAtRow, standIns := [], harness := (true, "16f5ca7a09163505d8b854dd969d887836f49d3e5e48d7013fbb0b3447b1f2ac"), looks := true }, kinds := [], alts := [], laidByText := true, laidKinds := [.data, .data, .data], laidTests := true, laidLooks := .later }
def FnExactTextAtCardSaid : Prop := Claim7.holds Tryd.pinned (.plain (OpenSpec.ofChange fnExactTextAtSpec)) fnExactTextAtCard

/-- THE SECOND FORM's CARD OF 'laws.FnIns'. -/
def fnInsUptoCard : Claim7 := { stood := { row := fnInsUptoRow, standIns := [], harness := (true, "16f5ca7a09163505d8b854dd969d887836f49d3e5e48d7013fbb0b3447b1f2ac"), looks := true }, kinds := [], alts := [], laidByText := true, laidKinds := [.data, .data, .data], laidTests := true, laidLooks := .later }
def FnInsUptoCardSaid : Prop := Claim7.holds Tryd.pinned (.plain (OpenSpec.upto fnInsSpec)) fnInsUptoCard

/-- THE SECOND FORM's CARD OF 'laws.FnLexed'. -/
def fnLexedUptoCard : Claim7 := { stood := { row := fnLexedUptoRow, standIns := [], harness := (true, "16f5ca7a09163505d8b854dd969d887836f49d3e5e48d7013fbb0b3447b1f2ac"), looks := true }, kinds := [], alts := [], laidByText := true, laidKinds := [.data, .data, .data, .sentinel, .sentinel], laidTests := true, laidLooks := .later }
def FnLexedUptoCardSaid : Prop := Claim7.holds Tryd.pinned (.plain (OpenSpec.upto fnLexedSpec)) fnLexedUptoCard

/-- THE SECOND FORM's CARD OF 'laws.FnExactLex'. -/
def fnExactLexUptoCard : Claim7 := { stood := { row := fnExactLexUptoRow, standIns := [], harness := (true, "16f5ca7a09163505d8b854dd969d887836f49d3e5e48d7013fbb0b3447b1f2ac"), looks := true }, kinds := [], alts := [], laidByText := true, laidKinds := [.data, .data, .data, .sentinel, .sentinel], laidTests := true, laidLooks := .later }
def FnExactLexUptoCardSaid : Prop := Claim7.holds Tryd.pinned (.plain (OpenSpec.upto fnExactLexSpec)) fnExactLexUptoCard

/-- THE SECOND FORM's CARD OF 'laws.FnExactTextAt'. -/
def fnExactTextAtUptoCard : Claim7 := { stood := { row := fnExactTextAtUptoRow, standIns := [], harness := (true, "16f5ca7a09163505d8b854dd969d887836f49d3e5e48d7013fbb0b3447b1f2ac"), looks := true }, kinds := [], alts := [], laidByText := true, laidKinds := [.data, .data, .data], laidTests := true, laidLooks := .later }
def FnExactTextAtUptoCardSaid : Prop := Claim7.holds Tryd.pinned (.plain (OpenSpec.upto fnExactTextAtSpec)) fnExactTextAtUptoCard
end Rows
end Go.Proofs.YtfemkmnkofgaaaaDoor
