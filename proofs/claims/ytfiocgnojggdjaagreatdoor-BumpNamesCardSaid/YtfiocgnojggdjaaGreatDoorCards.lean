/-
  DERIVED. GIVEN WITH THE SEED: THE CARDS: each row of YtfiocgnojggdjaaGreatDoorRows.lean that lists a variable, with what it lists TIED to the program's text (the seventh form; the later family's looks); each row that meets fmt, with fmt's text TOLD by the authors' own Lean function (tested against real Go, not proved from fmt's source: count such statements apart). THE CARD IS WHAT COUNTS. Prove the row's statement (the work); the ties are given (YtfiocgnojggdjaaGreatDoorTie.lean); close each card by the builder's one call (the guide's Derived/Test/ToyasCard.lean, 'card_holds'). Laid BY PROGRAM, IN A SANDBOX (cutbox-door.mjs). By AI agents, Wed Nov 11 2026. No macro, syntax, notation, axiom, sorry.
-/
import Derived.Test.YtfiocgnojggdjaaGreatDoorRows
import GoSem.ClaimSeven
namespace Go.Proofs.YtfiocgnojggdjaaGreatDoor
namespace Rows

/-- THE TIED CARD OF 'novationlaw30.BumpTapes'. -/
def bumpTapesCard : Claim7 := { stood := { row := bumpTapesRow, standIns := [], harness := (true, "ab2de770cc5703e3626adf37d196ff22d575b6acd973fdd82550c7802670e158"), looks := false }, kinds := [], alts := [], laidByText := true, laidKinds := [.mappedDeep, .funcs], laidTests := true, laidLooks := .later }
def BumpTapesCardSaid : Prop := Claim7.holds Tryz.pinned (.plain (OpenSpec.ofChange bumpTapesSpec)) bumpTapesCard

/-- THE TIED CARD OF 'novationlaw30.BumpRecords'. -/
def bumpRecordsCard : Claim7 := { stood := { row := bumpRecordsRow, standIns := [], harness := (true, "ab2de770cc5703e3626adf37d196ff22d575b6acd973fdd82550c7802670e158"), looks := false }, kinds := [], alts := [], laidByText := true, laidKinds := [.mappedDeep, .funcs], laidTests := true, laidLooks := .later }
def BumpRecordsCardSaid : Prop := Claim7.holds Tryz.pinned (.plain (OpenSpec.ofChange bumpRecordsSpec)) bumpRecordsCard

/-- THE TIED CARD OF 'novationlaw30.BumpNames'. -/
def bumpNamesCard : Claim7 := { stood := { row := bumpNamesRow, standIns := [], harness := (true, "ab2de770cc5703e3626adf37d196ff22d575b6acd973fdd82550c7802670e158"), looks := false }, kinds := [], alts := [], laidByText := true, laidKinds := [.mappedDeep, .funcs], laidTests := true, laidLooks := .later }
def BumpNamesCardSaid : Prop := Claim7.holds Tryz.pinned (.plain (OpenSpec.ofChange bumpNamesSpec)) bumpNamesCard

/-- THE SECOND FORM's CARD OF 'novationlaw30.BumpTapes'. -/
def bumpTapesUptoCard : Claim7 := { stood := { row := bumpTapesUptoRow, standIns := [], harness := (true, "ab2de770cc5703e3626adf37d196ff22d575b6acd973fdd82550c7802670e158"), looks := false }, kinds := [], alts := [], laidByText := true, laidKinds := [.mappedDeep, .funcs], laidTests := true, laidLooks := .later }
def BumpTapesUptoCardSaid : Prop := Claim7.holds Tryz.pinned (.plain (OpenSpec.upto bumpTapesSpec)) bumpTapesUptoCard

/-- THE SECOND FORM's CARD OF 'novationlaw30.BumpRecords'. -/
def bumpRecordsUptoCard : Claim7 := { stood := { row := bumpRecordsUptoRow, standIns := [], harness := (true, "ab2de770cc5703e3626adf37d196ff22d575b6acd973fdd82550c7802670e158"), looks := false }, kinds := [], alts := [], laidByText := true, laidKinds := [.mappedDeep, .funcs], laidTests := true, laidLooks := .later }
def BumpRecordsUptoCardSaid : Prop := Claim7.holds Tryz.pinned (.plain (OpenSpec.upto bumpRecordsSpec)) bumpRecordsUptoCard

/-- THE SECOND FORM's CARD OF 'novationlaw30.BumpNames'. -/
def bumpNamesUptoCard : Claim7 := { stood := { row := bumpNamesUptoRow, standIns := [], harness := (true, "ab2de770cc5703e3626adf37d196ff22d575b6acd973fdd82550c7802670e158"), looks := false }, kinds := [], alts := [], laidByText := true, laidKinds := [.mappedDeep, .funcs], laidTests := true, laidLooks := .later }
def BumpNamesUptoCardSaid : Prop := Claim7.holds Tryz.pinned (.plain (OpenSpec.upto bumpNamesSpec)) bumpNamesUptoCard
end Rows
end Go.Proofs.YtfiocgnojggdjaaGreatDoor
