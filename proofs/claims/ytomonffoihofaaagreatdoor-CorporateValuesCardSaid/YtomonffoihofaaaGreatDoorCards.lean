/-
  DERIVED. GIVEN WITH THE SEED: THE CARDS: each row of YtomonffoihofaaaGreatDoorRows.lean that lists a variable, with what it lists TIED to the program's text (the seventh form; the later family's looks); each row that meets fmt, with fmt's text TOLD by the authors' own Lean function (tested against real Go, not proved from fmt's source: count such statements apart). THE CARD IS WHAT COUNTS. Prove the row's statement (the work); the ties are given (YtomonffoihofaaaGreatDoorTie.lean); close each card by the builder's one call (the guide's Derived/Test/ToyasCard.lean, 'card_holds'). Laid BY PROGRAM, IN A SANDBOX (cutbox-door.mjs). By AI agents, Wed Nov 11 2026. No macro, syntax, notation, axiom, sorry.
-/
import Derived.Test.YtomonffoihofaaaGreatDoorRows
import GoSem.ClaimSeven
namespace Go.Proofs.YtomonffoihofaaaGreatDoor
namespace Rows

/-- THE TIED CARD OF 'novationlaw22.CorporateValues'. -/
def corporateValuesCard : Claim7 := { stood := { row := corporateValuesRow, standIns := [], harness := (true, "e76ba5a2e33378a47222b895f04ceaac20cdbebecb71173047c859c5919bffe3"), looks := false }, kinds := [], alts := [], laidByText := true, laidKinds := [.mappedDeep], laidTests := true, laidLooks := .later }
def CorporateValuesCardSaid : Prop := Claim7.holds Tryz.pinned (.plain (OpenSpec.ofChange corporateValuesSpec)) corporateValuesCard

/-- THE TIED CARD OF 'novationlaw22.CorporateGrows'. -/
def corporateGrowsCard : Claim7 := { stood := { row := corporateGrowsRow, standIns := [], harness := (true, "e76ba5a2e33378a47222b895f04ceaac20cdbebecb71173047c859c5919bffe3"), looks := false }, kinds := [], alts := [], laidByText := true, laidKinds := [.mappedDeep], laidTests := true, laidLooks := .later }
def CorporateGrowsCardSaid : Prop := Claim7.holds Tryz.pinned (.plain (OpenSpec.ofChange corporateGrowsSpec)) corporateGrowsCard

/-- THE SECOND FORM's CARD OF 'novationlaw22.CorporateValues'. -/
def corporateValuesUptoCard : Claim7 := { stood := { row := corporateValuesUptoRow, standIns := [], harness := (true, "e76ba5a2e33378a47222b895f04ceaac20cdbebecb71173047c859c5919bffe3"), looks := false }, kinds := [], alts := [], laidByText := true, laidKinds := [.mappedDeep], laidTests := true, laidLooks := .later }
def CorporateValuesUptoCardSaid : Prop := Claim7.holds Tryz.pinned (.plain (OpenSpec.upto corporateValuesSpec)) corporateValuesUptoCard

/-- THE SECOND FORM's CARD OF 'novationlaw22.CorporateGrows'. -/
def corporateGrowsUptoCard : Claim7 := { stood := { row := corporateGrowsUptoRow, standIns := [], harness := (true, "e76ba5a2e33378a47222b895f04ceaac20cdbebecb71173047c859c5919bffe3"), looks := false }, kinds := [], alts := [], laidByText := true, laidKinds := [.mappedDeep], laidTests := true, laidLooks := .later }
def CorporateGrowsUptoCardSaid : Prop := Claim7.holds Tryz.pinned (.plain (OpenSpec.upto corporateGrowsSpec)) corporateGrowsUptoCard
end Rows
end Go.Proofs.YtomonffoihofaaaGreatDoor
