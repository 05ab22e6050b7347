/-
  DERIVED. GIVEN WITH THE SEED: THE CARDS: each row of YtnjfnhoipnbpeaaGreatDoorRows.lean that lists a variable, with what it lists TIED to the program's text (the seventh form; the later family's looks); each row that meets fmt, with fmt's text TOLD by the authors' own Lean function (tested against real Go, not proved from fmt's source: count such statements apart). THE CARD IS WHAT COUNTS. Prove the row's statement (the work); the ties are given (YtnjfnhoipnbpeaaGreatDoorTie.lean); close each card by the builder's one call (the guide's Derived/Test/ToyasCard.lean, 'card_holds'). Laid BY PROGRAM, IN A SANDBOX (cutbox-door.mjs). By AI agents, Wed Nov 11 2026. No macro, syntax, notation, axiom, sorry.
-/
import Derived.Test.YtnjfnhoipnbpeaaGreatDoorRows
import GoSem.ClaimSeven
namespace Go.Proofs.YtnjfnhoipnbpeaaGreatDoor
namespace Rows

/-- THE TIED CARD OF 'laws.FnExactProgText'. -/
def fnExactProgTextCard : Claim7 := { stood := { row := fnExactProgTextRow, standIns := [], harness := (true, "4014dd43915ee21deb92aa8823a422f16a16419d2c026837ef22bc735b73c7cc"), looks := false }, kinds := [], alts := [], laidByText := true, laidKinds := [.data, .data, .data], laidTests := true, laidLooks := .later }
def FnExactProgTextCardSaid : Prop := Claim7.holds Tryz.pinned (.plain (OpenSpec.ofChange fnExactProgTextSpec)) fnExactProgTextCard

/-- THE SECOND FORM's CARD OF 'laws.FnExactProgText'. -/
def fnExactProgTextUptoCard : Claim7 := { stood := { row := fnExactProgTextUptoRow, standIns := [], harness := (true, "4014dd43915ee21deb92aa8823a422f16a16419d2c026837ef22bc735b73c7cc"), looks := false }, kinds := [], alts := [], laidByText := true, laidKinds := [.data, .data, .data], laidTests := true, laidLooks := .later }
def FnExactProgTextUptoCardSaid : Prop := Claim7.holds Tryz.pinned (.plain (OpenSpec.upto fnExactProgTextSpec)) fnExactProgTextUptoCard
end Rows
end Go.Proofs.YtnjfnhoipnbpeaaGreatDoor
