/-
  DERIVED. GIVEN WITH THE SEED: THE CARDS: each row of YtlplmejjddgkoaaGreatDoorRows.lean that lists a variable, with what it lists TIED to the program's text (the seventh form; the later family's looks); each row that meets fmt, with fmt's text TOLD by the authors' own Lean function (tested against real Go, not proved from fmt's source: count such statements apart). THE CARD IS WHAT COUNTS. Prove the row's statement (the work); the ties are given (YtlplmejjddgkoaaGreatDoorTie.lean); close each card by the builder's one call (the guide's Derived/Test/ToyasCard.lean, 'card_holds'). Laid BY PROGRAM, IN A SANDBOX (cutbox-door.mjs). By AI agents, Wed Nov 11 2026. No macro, syntax, notation, axiom, sorry.
-/
import Derived.Test.YtlplmejjddgkoaaGreatDoorRows
import GoSem.ClaimSeven
namespace Go.Proofs.YtlplmejjddgkoaaGreatDoor
namespace Rows

/-- THE TIED CARD OF 'novationlaw08.ObservableValues'. -/
def observableValuesCard : Claim7 := { stood := { row := observableValuesRow, standIns := [], harness := (true, "5ab9f8b4439949231cf56cb542ed370275bade9fa4bda34009183e609a9ec360"), looks := false }, kinds := [], alts := [], laidByText := true, laidKinds := [.mappedDeep, .funcs], laidTests := true, laidLooks := .later }
def ObservableValuesCardSaid : Prop := Claim7.holds Tryz.pinned (.plain (OpenSpec.ofChange observableValuesSpec)) observableValuesCard

/-- THE TIED CARD OF 'novationlaw08.ObservableParts'. -/
def observablePartsCard : Claim7 := { stood := { row := observablePartsRow, standIns := [], harness := (true, "5ab9f8b4439949231cf56cb542ed370275bade9fa4bda34009183e609a9ec360"), looks := false }, kinds := [], alts := [], laidByText := true, laidKinds := [.mappedDeep, .funcs], laidTests := true, laidLooks := .later }
def ObservablePartsCardSaid : Prop := Claim7.holds Tryz.pinned (.plain (OpenSpec.ofChange observablePartsSpec)) observablePartsCard

/-- THE SECOND FORM's CARD OF 'novationlaw08.ObservableValues'. -/
def observableValuesUptoCard : Claim7 := { stood := { row := observableValuesUptoRow, standIns := [], harness := (true, "5ab9f8b4439949231cf56cb542ed370275bade9fa4bda34009183e609a9ec360"), looks := false }, kinds := [], alts := [], laidByText := true, laidKinds := [.mappedDeep, .funcs], laidTests := true, laidLooks := .later }
def ObservableValuesUptoCardSaid : Prop := Claim7.holds Tryz.pinned (.plain (OpenSpec.upto observableValuesSpec)) observableValuesUptoCard

/-- THE SECOND FORM's CARD OF 'novationlaw08.ObservableParts'. -/
def observablePartsUptoCard : Claim7 := { stood := { row := observablePartsUptoRow, standIns := [], harness := (true, "5ab9f8b4439949231cf56cb542ed370275bade9fa4bda34009183e609a9ec360"), looks := false }, kinds := [], alts := [], laidByText := true, laidKinds := [.mappedDeep, .funcs], laidTests := true, laidLooks := .later }
def ObservablePartsUptoCardSaid : Prop := Claim7.holds Tryz.pinned (.plain (OpenSpec.upto observablePartsSpec)) observablePartsUptoCard
end Rows
end Go.Proofs.YtlplmejjddgkoaaGreatDoor
