/-
  DERIVED. GIVEN WITH THE SEED: THE CARDS: each row of YtlkbiennfpeoiaaGreatDoorRows.lean that lists a variable, with what it lists TIED to the program's text (the seventh form; the later family's looks); each row that meets fmt, with fmt's text TOLD by the authors' own Lean function (tested against real Go, not proved from fmt's source: count such statements apart). THE CARD IS WHAT COUNTS. Prove the row's statement (the work); the ties are given (YtlkbiennfpeoiaaGreatDoorTie.lean); close each card by the builder's one call (the guide's Derived/Test/ToyasCard.lean, 'card_holds'). Laid BY PROGRAM, IN A SANDBOX (cutbox-door.mjs). By AI agents, Wed Nov 11 2026. No macro, syntax, notation, axiom, sorry.
-/
import Derived.Test.YtlkbiennfpeoiaaGreatDoorRows
import GoSem.ClaimSeven
namespace Go.Proofs.YtlkbiennfpeoiaaGreatDoor
namespace Rows

/-- THE TIED CARD OF 'novationlaw22.CorporateTells'. -/
def corporateTellsCard : Claim7 := { stood := { row := corporateTellsRow, standIns := [], harness := (true, "69ccaedfd415ad9045f2381b74d6cc68628330c4f2bc993b1bea59fec527b584"), looks := false }, kinds := [], alts := [], laidByText := true, laidKinds := [.mappedDeep, .mapped], laidTests := true, laidLooks := .later }
def CorporateTellsCardSaid : Prop := Claim7.holds Tryz.pinned (.plain (OpenSpec.ofChange corporateTellsSpec)) corporateTellsCard

/-- THE TIED CARD OF 'novationlaw22.CorporateSame'. -/
def corporateSameCard : Claim7 := { stood := { row := corporateSameRow, standIns := [], harness := (true, "69ccaedfd415ad9045f2381b74d6cc68628330c4f2bc993b1bea59fec527b584"), looks := false }, kinds := [], alts := [], laidByText := true, laidKinds := [.mappedDeep, .mapped], laidTests := true, laidLooks := .later }
def CorporateSameCardSaid : Prop := Claim7.holds Tryz.pinned (.plain (OpenSpec.ofChange corporateSameSpec)) corporateSameCard

/-- THE TIED CARD OF 'novationlaw22.CorporateNames'. -/
def corporateNamesCard : Claim7 := { stood := { row := corporateNamesRow, standIns := [], harness := (true, "69ccaedfd415ad9045f2381b74d6cc68628330c4f2bc993b1bea59fec527b584"), looks := false }, kinds := [], alts := [], laidByText := true, laidKinds := [.mappedDeep, .mapped], laidTests := true, laidLooks := .later }
def CorporateNamesCardSaid : Prop := Claim7.holds Tryz.pinned (.plain (OpenSpec.ofChange corporateNamesSpec)) corporateNamesCard

/-- THE SECOND FORM's CARD OF 'novationlaw22.CorporateTells'. -/
def corporateTellsUptoCard : Claim7 := { stood := { row := corporateTellsUptoRow, standIns := [], harness := (true, "69ccaedfd415ad9045f2381b74d6cc68628330c4f2bc993b1bea59fec527b584"), looks := false }, kinds := [], alts := [], laidByText := true, laidKinds := [.mappedDeep, .mapped], laidTests := true, laidLooks := .later }
def CorporateTellsUptoCardSaid : Prop := Claim7.holds Tryz.pinned (.plain (OpenSpec.upto corporateTellsSpec)) corporateTellsUptoCard

/-- THE SECOND FORM's CARD OF 'novationlaw22.CorporateSame'. -/
def corporateSameUptoCard : Claim7 := { stood := { row := corporateSameUptoRow, standIns := [], harness := (true, "69ccaedfd415ad9045f2381b74d6cc68628330c4f2bc993b1bea59fec527b584"), looks := false }, kinds := [], alts := [], laidByText := true, laidKinds := [.mappedDeep, .mapped], laidTests := true, laidLooks := .later }
def CorporateSameUptoCardSaid : Prop := Claim7.holds Tryz.pinned (.plain (OpenSpec.upto corporateSameSpec)) corporateSameUptoCard

/-- THE SECOND FORM's CARD OF 'novationlaw22.CorporateNames'. -/
def corporateNamesUptoCard : Claim7 := { stood := { row := corporateNamesUptoRow, standIns := [], harness := (true, "69ccaedfd415ad9045f2381b74d6cc68628330c4f2bc993b1bea59fec527b584"), looks := false }, kinds := [], alts := [], laidByText := true, laidKinds := [.mappedDeep, .mapped], laidTests := true, laidLooks := .later }
def CorporateNamesUptoCardSaid : Prop := Claim7.holds Tryz.pinned (.plain (OpenSpec.upto corporateNamesSpec)) corporateNamesUptoCard
end Rows
end Go.Proofs.YtlkbiennfpeoiaaGreatDoor
