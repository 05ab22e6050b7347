/-
  DERIVED. GIVEN WITH THE SEED: THE CARDS: each row of YtkhioiehcaaejaaDoorRows.lean that lists a variable, with what it lists TIED to the program's text (the seventh form; the later family's looks); each row that meets fmt, with fmt's text TOLD by the authors' own Lean function (tested against real Go, not proved from fmt's source: count such statements apart). THE CARD IS WHAT COUNTS. Prove the row's statement (the work); the ties are given (YtkhioiehcaaejaaDoorTie.lean); close each card by the builder's one call (the guide's Derived/Test/ToyasCard.lean, 'card_holds'). Laid BY PROGRAM, IN A SANDBOX (cutbox-door.mjs). By AI agents, Wed Nov 11 2026. No macro, syntax, notation, axiom, sorry.
-/
import Derived.Test.YtkhioiehcaaejaaDoorRows
import GoSem.ClaimSeven
namespace Go.Proofs.YtkhioiehcaaejaaDoor
namespace Rows

/-- THE TIED CARD OF 'laws.FnExactInsText'. -/
def fnExactInsTextCard : Claim7 := { stood := { row := fnExactInsTextRow, standIns := [], harness := (true, "ece89c24e6271392544bb32dc906ff951d15201f8c2f6e997e8b5b2f74f6a275"), looks := false }, kinds := [], alts := [], laidByText := true, laidKinds := [.data, .data, .data], laidTests := true, laidLooks := .later }
def FnExactInsTextCardSaid : Prop := Claim7.holds Tryd.pinned (.plain (OpenSpec.ofChange fnExactInsTextSpec)) fnExactInsTextCard

/-- THE TIED CARD OF 'laws.FnIns'. -/
def fnInsCard : Claim7 := { stood := { row := fnInsRow, standIns := [], harness := (true, "ece89c24e6271392544bb32dc906ff951d15201f8c2f6e997e8b5b2f74f6a275"), looks := false }, kinds := [], alts := [], laidByText := true, laidKinds := [.data, .data, .data], laidTests := true, laidLooks := .later }
def FnInsCardSaid : Prop := Claim7.holds Tryd.pinned (.plain (OpenSpec.ofChange fnInsSpec)) fnInsCard

/-- THE TIED CARD OF 'laws.FnExactLinesOf'. -/
def fnExactLinesOfCard : Claim7 := { stood := { row := fnExactLinesOfRow, standIns := [], harness := (true, "ece89c24e6271392544bb32dc906ff951d15201f8c2f6e997e8b5b2f74f6a275"), looks := false }, kinds := [], alts := [], laidByText := true, laidKinds := [.data, .data, .data], laidTests := true, laidLooks := .later }
def FnExactLinesOfCardSaid : Prop := Claim7.holds Tryd.pinned (.plain (OpenSpec.ofChange fnExactLinesOfSpec)) fnExactLinesOfCard

/-- THE TIED CARD OF 'laws.FnExactOutcome'. -/
def fnExactOutcomeCard : Claim7 := { stood := { row := fnExactOutcomeRow, standIns := [], harness := (true, "ece89c24e6271392544bb32dc906ff951d15201f8c2f6e997e8b5b2f74f6a275"), looks := false }, kinds := [], alts := [], laidByText := true, laidKinds := [.data, .data, .data], laidTests := true, laidLooks := .later }
def FnExactOutcomeCardSaid : Prop := Claim7.holds Tryd.pinned (.plain (OpenSpec.ofChange fnExactOutcomeSpec)) fnExactOutcomeCard

/-- THE TIED CARD OF 'laws.FnExactMachOutcome'. -/
def fnExactMachOutcomeCard : Claim7 := { stood := { row := fnExactMachOutcomeRow, standIns := [], harness := (true, "ece89c24e6271392544bb32dc906ff951d15201f8c2f6e997e8b5b2f74f6a275"), looks := false }, kinds := [], alts := [], laidByText := true, laidKinds := [.data, .data, .data], laidTests := true, laidLooks := .later }
def FnExactMachOutcomeCardSaid : Prop := Claim7.holds Tryd.pinned (.plain (OpenSpec.ofChange fnExactMachOutcomeSpec)) fnExactMachOutcomeCard

/-- THE TIED CARD OF 'laws.FnExactTextAt'. -/
def fnExactTextAtCard : Claim7 := { stood := { row := fnExactTextAtRow, standIns := [], harness := (true, "ece89c24e6271392544bb32dc906ff951d15201f8c2f6e997e8b5b2f74f6a275"), looks := false }, kinds := [], alts := [], laidByText := true, laidKinds := [.data, .data, .data], laidTests := true, laidLooks := .later }
def FnExactTextAtCardSaid : Prop := Claim7.holds Tryd.pinned (.plain (OpenSpec.ofChange fnExactTextAtSpec)) fnExactTextAtCard

/-- THE SECOND FORM's CARD OF 'laws.FnExactInsText'. -/
def fnExactInsTextUptoCard : Claim7 := { stood := { row := fnExactInsTextUptoRow, standIns := [], harness := (true, "ece89c24e6271392544bb32dc906ff951d15201f8c2f6e997e8b5b2f74f6a275"), looks := false }, kinds := [], alts := [], laidByText := true, laidKinds := [.data, .data, .data], laidTests := true, laidLooks := .later }
def FnExactInsTextUptoCardSaid : Prop := Claim7.holds Tryd.pinned (.plain (OpenSpec.upto fnExactInsTextSpec)) fnExactInsTextUptoCard

/-- THE SECOND FORM's CARD OF 'laws.FnIns'. -/
def fnInsUptoCard : Claim7 := { stood := { row := fnInsUptoRow, standIns := [], harness := (true, "ece89c24e6271392544bb32dc906ff951d15201f8c2f6e997e8b5b2f74f6a275"), looks := false }, kinds := [], alts := [], laidByText := true, laidKinds := [.data, .data, .data], laidTests := true, laidLooks := .later }
def FnInsUptoCardSaid : Prop := Claim7.holds Tryd.pinned (.plain (OpenSpec.upto fnInsSpec)) fnInsUptoCard

/-- THE SECOND FORM's CARD OF 'laws.FnExactLinesOf'. -/
def fnExactLinesOfUptoCard : Claim7 := { stood := { row := fnExactLinesOfUptoRow, standIns := [], harness := (true, "ece89c24e6271392544bb32dc906ff951d15201f8c2f6e997e8b5b2f74f6a275"), looks := false }, kinds := [], alts := [], laidByText := true, laidKinds := [.data, .data, .data], laidTests := true, laidLooks := .later }
def FnExactLinesOfUptoCardSaid : Prop := Claim7.holds Tryd.pinned (.plain (OpenSpec.upto fnExactLinesOfSpec)) fnExactLinesOfUptoCard

/-- THE SECOND FORM's CARD OF 'laws.FnExactOutcome'. -/
def fnExactOutcomeUptoCard : Claim7 := { stood := { row := fnExactOutcomeUptoRow, standIns := [], harness := (true, "ece89c24e6271392544bb32dc906ff951d15201f8c2f6e997e8b5b2f74f6a275"), looks := false }, kinds := [], alts := [], laidByText := true, laidKinds := [.data, .data, .data], laidTests := true, laidLooks := .later }
def FnExactOutcomeUptoCardSaid : Prop := Claim7.holds Tryd.pinned (.plain (OpenSpec.upto fnExactOutcomeSpec)) fnExactOutcomeUptoCard

/-- THE SECOND FORM's CARD OF 'laws.FnExactMachOutcome'. -/
def fnExactMachOutcomeUptoCard : Claim7 := { stood := { row := fnExactMachOutcomeUptoRow, standIns := [], harness := (true, "ece89c24e6271392544bb32dc906ff951d15201f8c2f6e997e8b5b2f74f6a275"), looks := false }, kinds := [], alts := [], laidByText := true, laidKinds := [.data, .data, .data], laidTests := true, laidLooks := .later }
def FnExactMachOutcomeUptoCardSaid : Prop := Claim7.holds Tryd.pinned (.plain (OpenSpec.upto fnExactMachOutcomeSpec)) fnExactMachOutcomeUptoCard

/-- THE SECOND FORM's CARD OF 'laws.FnExactTextAt'. -/
def fnExactTextAtUptoCard : Claim7 := { stood := { row := fnExactTextAtUptoRow, standIns := [], harness := (true, "ece89c24e6271392544bb32dc906ff951d15201f8c2f6e997e8b5b2f74f6a275"), looks := false }, kinds := [], alts := [], laidByText := true, laidKinds := [.data, .data, .data], laidTests := true, laidLooks := .later }
def FnExactTextAtUptoCardSaid : Prop := Claim7.holds Tryd.pinned (.plain (OpenSpec.upto fnExactTextAtSpec)) fnExactTextAtUptoCard
end Rows
end Go.Proofs.YtkhioiehcaaejaaDoor
