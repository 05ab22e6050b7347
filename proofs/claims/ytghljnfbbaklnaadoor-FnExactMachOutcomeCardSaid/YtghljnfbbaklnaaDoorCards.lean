/-
  DERIVED. GIVEN WITH THE SEED: THE CARDS: each row of YtghljnfbbaklnaaDoorRows.lean that lists a variable, with what it lists TIED to the program's text (the seventh form; the later family's looks); each row that meets fmt, with fmt's text TOLD by the authors' own Lean function (tested against real Go, not proved from fmt's source: count such statements apart). THE CARD IS WHAT COUNTS. Prove the row's statement (the work); the ties are given (YtghljnfbbaklnaaDoorTie.lean); close each card by the builder's one call (the guide's Derived/Test/ToyasCard.lean, 'card_holds'). Laid BY PROGRAM, IN A SANDBOX (cutbox-door.mjs). By AI agents, Wed Nov 11 2026. No macro, syntax, notation, axiom, sorry.
-/
import Derived.Test.YtghljnfbbaklnaaDoorRows
import GoSem.ClaimSeven
namespace Go.Proofs.YtghljnfbbaklnaaDoor
namespace Rows

/-- THE TIED CARD OF 'laws.FnExactMachOutcome'. -/
def fnExactMachOutcomeCard : Claim7 := { stood := { row := fnExactMachOutcomeRow, standIns := [], harness := (true, "054ff9bb9ea78ac44360be8403f593d32c1552638cdb894bcb77c0fa02119631"), looks := false }, kinds := [], alts := [], laidByText := true, laidKinds := [.data, .data, .data], laidTests := true, laidLooks := .later }
def FnExactMachOutcomeCardSaid : Prop := Claim7.holds Tryd.pinned (.plain (OpenSpec.ofChange fnExactMachOutcomeSpec)) fnExactMachOutcomeCard

/-- THE SECOND FORM's CARD OF 'laws.FnExactMachOutcome'. -/
def fnExactMachOutcomeUptoCard : Claim7 := { stood := { row := fnExactMachOutcomeUptoRow, standIns := [], harness := (true, "054ff9bb9ea78ac44360be8403f593d32c1552638cdb894bcb77c0fa02119631"), looks := false }, kinds := [], alts := [], laidByText := true, laidKinds := [.data, .data, .data], laidTests := true, laidLooks := .later }
def FnExactMachOutcomeUptoCardSaid : Prop := Claim7.holds Tryd.pinned (.plain (OpenSpec.upto fnExactMachOutcomeSpec)) fnExactMachOutcomeUptoCard
end Rows
end Go.Proofs.YtghljnfbbaklnaaDoor
