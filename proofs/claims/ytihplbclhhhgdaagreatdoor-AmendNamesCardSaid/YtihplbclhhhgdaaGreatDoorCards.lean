/-
  DERIVED. GIVEN WITH THE SEED: THE CARDS: each row of YtihplbclhhhgdaaGreatDoorRows.lean that lists a variable, with what it lists TIED to the program's text (the seventh form; the later family's looks); each row that meets fmt, with fmt's text TOLD by the authors' own Lean function (tested against real Go, not proved from fmt's source: count such statements apart). THE CARD IS WHAT COUNTS. Prove the row's statement (the work); the ties are given (YtihplbclhhhgdaaGreatDoorTie.lean); close each card by the builder's one call (the guide's Derived/Test/ToyasCard.lean, 'card_holds'). Laid BY PROGRAM, IN A SANDBOX (cutbox-door.mjs). By AI agents, Wed Nov 11 2026. No macro, syntax, notation, axiom, sorry.
-/
import Derived.Test.YtihplbclhhhgdaaGreatDoorRows
import GoSem.ClaimSeven
namespace Go.Proofs.YtihplbclhhhgdaaGreatDoor
namespace Rows

/-- THE TIED CARD OF 'novationlaw24.AmendForce'. -/
def amendForceCard : Claim7 := { stood := { row := amendForceRow, standIns := [], harness := (true, "5a5bde0e4a7e055d95545a1a53a708b7623a4ebd1245c3f7baff83f2d488665e"), looks := true }, kinds := [], alts := [], laidByText := true, laidKinds := [.mappedDeep, .funcs, .mapped], laidTests := true, laidLooks := .later }
def AmendForceCardSaid : Prop := Claim7.holds Tryz.pinned (.plain (OpenSpec.ofChange amendForceSpec)) amendForceCard

/-- THE TIED CARD OF 'novationlaw24.AmendUndoes'. -/
def amendUndoesCard : Claim7 := { stood := { row := amendUndoesRow, standIns := [], harness := (true, "5a5bde0e4a7e055d95545a1a53a708b7623a4ebd1245c3f7baff83f2d488665e"), looks := true }, kinds := [], alts := [], laidByText := true, laidKinds := [.mappedDeep, .funcs, .mapped], laidTests := true, laidLooks := .later }
def AmendUndoesCardSaid : Prop := Claim7.holds Tryz.pinned (.plain (OpenSpec.ofChange amendUndoesSpec)) amendUndoesCard

/-- THE TIED CARD OF 'novationlaw24.AmendSplits'. -/
def amendSplitsCard : Claim7 := { stood := { row := amendSplitsRow, standIns := [], harness := (true, "5a5bde0e4a7e055d95545a1a53a708b7623a4ebd1245c3f7baff83f2d488665e"), looks := true }, kinds := [], alts := [], laidByText := true, laidKinds := [.mappedDeep, .funcs, .mapped], laidTests := true, laidLooks := .later }
def AmendSplitsCardSaid : Prop := Claim7.holds Tryz.pinned (.plain (OpenSpec.ofChange amendSplitsSpec)) amendSplitsCard

/-- THE TIED CARD OF 'novationlaw24.AmendStops'. -/
def amendStopsCard : Claim7 := { stood := { row := amendStopsRow, standIns := [], harness := (true, "5a5bde0e4a7e055d95545a1a53a708b7623a4ebd1245c3f7baff83f2d488665e"), looks := true }, kinds := [], alts := [], laidByText := true, laidKinds := [.mappedDeep, .funcs, .mapped], laidTests := true, laidLooks := .later }
def AmendStopsCardSaid : Prop := Claim7.holds Tryz.pinned (.plain (OpenSpec.ofChange amendStopsSpec)) amendStopsCard

/-- THE TIED CARD OF 'novationlaw24.AmendTells'. -/
def amendTellsCard : Claim7 := { stood := { row := amendTellsRow, standIns := [], harness := (true, "5a5bde0e4a7e055d95545a1a53a708b7623a4ebd1245c3f7baff83f2d488665e"), looks := true }, kinds := [], alts := [], laidByText := true, laidKinds := [.mappedDeep, .funcs, .mapped], laidTests := true, laidLooks := .later }
def AmendTellsCardSaid : Prop := Claim7.holds Tryz.pinned (.plain (OpenSpec.ofChange amendTellsSpec)) amendTellsCard

/-- THE TIED CARD OF 'novationlaw24.AmendNames'. -/
def amendNamesCard : Claim7 := { stood := { row := amendNamesRow, standIns := [], harness := (true, "5a5bde0e4a7e055d95545a1a53a708b7623a4ebd1245c3f7baff83f2d488665e"), looks := true }, kinds := [], alts := [], laidByText := true, laidKinds := [.mappedDeep, .funcs, .mapped], laidTests := true, laidLooks := .later }
def AmendNamesCardSaid : Prop := Claim7.holds Tryz.pinned (.plain (OpenSpec.ofChange amendNamesSpec)) amendNamesCard

/-- THE SECOND FORM's CARD OF 'novationlaw24.AmendForce'. -/
def amendForceUptoCard : Claim7 := { stood := { row := amendForceUptoRow, standIns := [], harness := (true, "5a5bde0e4a7e055d95545a1a53a708b7623a4ebd1245c3f7baff83f2d488665e"), looks := true }, kinds := [], alts := [], laidByText := true, laidKinds := [.mappedDeep, .funcs, .mapped], laidTests := true, laidLooks := .later }
def AmendForceUptoCardSaid : Prop := Claim7.holds Tryz.pinned (.plain (OpenSpec.upto amendForceSpec)) amendForceUptoCard

/-- THE SECOND FORM's CARD OF 'novationlaw24.AmendUndoes'. -/
def amendUndoesUptoCard : Claim7 := { stood := { row := amendUndoesUptoRow, standIns := [], harness := (true, "5a5bde0e4a7e055d95545a1a53a708b7623a4ebd1245c3f7baff83f2d488665e"), looks := true }, kinds := [], alts := [], laidByText := true, laidKinds := [.mappedDeep, .funcs, .mapped], laidTests := true, laidLooks := .later }
def AmendUndoesUptoCardSaid : Prop := Claim7.holds Tryz.pinned (.plain (OpenSpec.upto amendUndoesSpec)) amendUndoesUptoCard

/-- THE SECOND FORM's CARD OF 'novationlaw24.AmendSplits'. -/
def amendSplitsUptoCard : Claim7 := { stood := { row := amendSplitsUptoRow, standIns := [], harness := (true, "5a5bde0e4a7e055d95545a1a53a708b7623a4ebd1245c3f7baff83f2d488665e"), looks := true }, kinds := [], alts := [], laidByText := true, laidKinds := [.mappedDeep, .funcs, .mapped], laidTests := true, laidLooks := .later }
def AmendSplitsUptoCardSaid : Prop := Claim7.holds Tryz.pinned (.plain (OpenSpec.upto amendSplitsSpec)) amendSplitsUptoCard

/-- THE SECOND FORM's CARD OF 'novationlaw24.AmendStops'. -/
def amendStopsUptoCard : Claim7 := { stood := { row := amendStopsUptoRow, standIns := [], harness := (true, "5a5bde0e4a7e055d95545a1a53a708b7623a4ebd1245c3f7baff83f2d488665e"), looks := true }, kinds := [], alts := [], laidByText := true, laidKinds := [.mappedDeep, .funcs, .mapped], laidTests := true, laidLooks := .later }
def AmendStopsUptoCardSaid : Prop := Claim7.holds Tryz.pinned (.plain (OpenSpec.upto amendStopsSpec)) amendStopsUptoCard

/-- THE SECOND FORM's CARD OF 'novationlaw24.AmendTells'. -/
def amendTellsUptoCard : Claim7 := { stood := { row := amendTellsUptoRow, standIns := [], harness := (true, "5a5bde0e4a7e055d95545a1a53a708b7623a4ebd1245c3f7baff83f2d488665e"), looks := true }, kinds := [], alts := [], laidByText := true, laidKinds := [.mappedDeep, .funcs, .mapped], laidTests := true, laidLooks := .later }
def AmendTellsUptoCardSaid : Prop := Claim7.holds Tryz.pinned (.plain (OpenSpec.upto amendTellsSpec)) amendTellsUptoCard

/-- THE SECOND FORM's CARD OF 'novationlaw24.AmendNames'. -/
def amendNamesUptoCard : Claim7 := { stood := { row := amendNamesUptoRow, standIns := [], harness := (true, "5a5bde0e4a7e055d95545a1a53a708b7623a4ebd1245c3f7baff83f2d488665e"), looks := true }, kinds := [], alts := [], laidByText := true, laidKinds := [.mappedDeep, .funcs, .mapped], laidTests := true, laidLooks := .later }
def AmendNamesUptoCardSaid : Prop := Claim7.holds Tryz.pinned (.plain (OpenSpec.upto amendNamesSpec)) amendNamesUptoCard
end Rows
end Go.Proofs.YtihplbclhhhgdaaGreatDoor
