/-
  DERIVED. GIVEN WITH THE SEED: THE CARDS: each row of YtomolhbkdhjofaaGreatDoorRows.lean that lists a variable, with what it lists TIED to the program's text (the seventh form; the later family's looks); each row that meets fmt, with fmt's text TOLD by the authors' own Lean function (tested against real Go, not proved from fmt's source: count such statements apart). THE CARD IS WHAT COUNTS. Prove the row's statement (the work); the ties are given (YtomolhbkdhjofaaGreatDoorTie.lean); close each card by the builder's one call (the guide's Derived/Test/ToyasCard.lean, 'card_holds'). Laid BY PROGRAM, IN A SANDBOX (cutbox-door.mjs). By AI agents, Wed Nov 11 2026. No macro, syntax, notation, axiom, sorry.
-/
import Derived.Test.YtomolhbkdhjofaaGreatDoorRows
import GoSem.ClaimSeven
namespace Go.Proofs.YtomolhbkdhjofaaGreatDoor
namespace Rows

/-- THE TIED CARD OF 'laws.FnExprs'. -/
def fnExprsCard : Claim7 := { stood := { row := fnExprsRow, standIns := [], harness := (true, "5b9b5ed11d9e66fd7db8c4093a7c48cf5d551f749458a57a13fd6d6ac38b6dcf"), looks := true }, kinds := [], alts := [], laidByText := true, laidKinds := [.data, .data, .data, .sentinel, .sentinel], laidTests := true, laidLooks := .later }
def FnExprsCardSaid : Prop := Claim7.holds Tryz.pinned (.plain (OpenSpec.ofChange fnExprsSpec)) fnExprsCard

/-- THE TIED CARD OF 'laws.FnExactParseExpr'. -/
def fnExactParseExprCard : Claim7 := { stood := { row := fnExactParseExprRow, standIns := [], harness := (true, "5b9b5ed11d9e66fd7db8c4093a7c48cf5d551f749458a57a13fd6d6ac38b6dcf"), looks := true }, kinds := [], alts := [], laidByText := true, laidKinds := [.data, .data, .data, .sentinel, .sentinel], laidTests := true, laidLooks := .later }
def FnExactParseExprCardSaid : Prop := Claim7.holds Tryz.pinned (.plain (OpenSpec.ofChange fnExactParseExprSpec)) fnExactParseExprCard

/-- THE TIED CARD OF 'laws.FnExprsRead'. -/
def fnExprsReadCard : Claim7 := { stood := { row := fnExprsReadRow, standIns := [], harness := (true, "5b9b5ed11d9e66fd7db8c4093a7c48cf5d551f749458a57a13fd6d6ac38b6dcf"), looks := true }, kinds := [], alts := [], laidByText := true, laidKinds := [.data, .data, .data, .sentinel, .sentinel], laidTests := true, laidLooks := .later }
def FnExprsReadCardSaid : Prop := Claim7.holds Tryz.pinned (.plain (OpenSpec.ofChange fnExprsReadSpec)) fnExprsReadCard

/-- THE SECOND FORM's CARD OF 'laws.FnExprs'. -/
def fnExprsUptoCard : Claim7 := { stood := { row := fnExprsUptoRow, standIns := [], harness := (true, "5b9b5ed11d9e66fd7db8c4093a7c48cf5d551f749458a57a13fd6d6ac38b6dcf"), looks := true }, kinds := [], alts := [], laidByText := true, laidKinds := [.data, .data, .data, .sentinel, .sentinel], laidTests := true, laidLooks := .later }
def FnExprsUptoCardSaid : Prop := Claim7.holds Tryz.pinned (.plain (OpenSpec.upto fnExprsSpec)) fnExprsUptoCard

/-- THE SECOND FORM's CARD OF 'laws.FnExactParseExpr'. -/
def fnExactParseExprUptoCard : Claim7 := { stood := { row := fnExactParseExprUptoRow, standIns := [], harness := (true, "5b9b5ed11d9e66fd7db8c4093a7c48cf5d551f749458a57a13fd6d6ac38b6dcf"), looks := true }, kinds := [], alts := [], laidByText := true, laidKinds := [.data, .data, .data, .sentinel, .sentinel], laidTests := true, laidLooks := .later }
def FnExactParseExprUptoCardSaid : Prop := Claim7.holds Tryz.pinned (.plain (OpenSpec.upto fnExactParseExprSpec)) fnExactParseExprUptoCard

/-- THE SECOND FORM's CARD OF 'laws.FnExprsRead'. -/
def fnExprsReadUptoCard : Claim7 := { stood := { row := fnExprsReadUptoRow, standIns := [], harness := (true, "5b9b5ed11d9e66fd7db8c4093a7c48cf5d551f749458a57a13fd6d6ac38b6dcf"), looks := true }, kinds := [], alts := [], laidByText := true, laidKinds := [.data, .data, .data, .sentinel, .sentinel], laidTests := true, laidLooks := .later }
def FnExprsReadUptoCardSaid : Prop := Claim7.holds Tryz.pinned (.plain (OpenSpec.upto fnExprsReadSpec)) fnExprsReadUptoCard
end Rows
end Go.Proofs.YtomolhbkdhjofaaGreatDoor
