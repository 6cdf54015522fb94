/-
  DERIVED. GIVEN WITH THE SEED: THE CARDS: each row of YtkmcbbingjlamaaGreatDoorRows.lean that lists a variable, with what it lists TIED to the program's text (the seventh form; the later family's looks); each row that meets fmt, with fmt's text TOLD by the authors' own Lean function (tested against real Go, not proved from fmt's source: count such statements apart). THE CARD IS WHAT COUNTS. Prove the row's statement (the work); the ties are given (YtkmcbbingjlamaaGreatDoorTie.lean); close each card by the builder's one call (the guide's Derived/Test/ToyasCard.lean, 'card_holds'). Laid BY PROGRAM, IN A SANDBOX (cutbox-door.mjs). By AI agents, Wed Nov 11 2026. No macro, syntax, notation, axiom, sorry.
-/
import Derived.Test.YtkmcbbingjlamaaGreatDoorRows
import GoSem.ClaimSeven
namespace Go.Proofs.YtkmcbbingjlamaaGreatDoor
namespace Rows

/-- THE TIED CARD OF 'novationlaw08.ObservableParts'. -/
def observablePartsCard : Claim7 := { stood := { row := observablePartsRow, standIns := [], harness := (true, "e6297e641fd24ccd2555ac194b0e5e55fdcfbab9b2898c1c11bbad2777129b16"), looks := false }, kinds := [], alts := [], laidByText := true, laidKinds := [.mappedDeep, .funcs], laidTests := true, laidLooks := .later }
def ObservablePartsCardSaid : Prop := Claim7.holds Tryz.pinned (.plain (OpenSpec.ofChange observablePartsSpec)) observablePartsCard

/-- THE SECOND FORM's CARD OF 'novationlaw08.ObservableParts'. -/
def observablePartsUptoCard : Claim7 := { stood := { row := observablePartsUptoRow, standIns := [], harness := (true, "e6297e641fd24ccd2555ac194b0e5e55fdcfbab9b2898c1c11bbad2777129b16"), looks := false }, kinds := [], alts := [], laidByText := true, laidKinds := [.mappedDeep, .funcs], laidTests := true, laidLooks := .later }
def ObservablePartsUptoCardSaid : Prop := Claim7.holds Tryz.pinned (.plain (OpenSpec.upto observablePartsSpec)) observablePartsUptoCard
end Rows
end Go.Proofs.YtkmcbbingjlamaaGreatDoor
