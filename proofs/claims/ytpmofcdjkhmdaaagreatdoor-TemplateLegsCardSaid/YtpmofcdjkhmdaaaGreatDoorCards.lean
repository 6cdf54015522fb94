/-
  DERIVED. GIVEN WITH THE SEED: THE CARDS: each row of YtpmofcdjkhmdaaaGreatDoorRows.lean that lists a variable, with what it lists TIED to the program's text (the seventh form; the later family's looks); each row that meets fmt, with fmt's text TOLD by the authors' own Lean function (tested against real Go, not proved from fmt's source: count such statements apart). THE CARD IS WHAT COUNTS. Prove the row's statement (the work); the ties are given (YtpmofcdjkhmdaaaGreatDoorTie.lean); close each card by the builder's one call (the guide's Derived/Test/ToyasCard.lean, 'card_holds'). Laid BY PROGRAM, IN A SANDBOX (cutbox-door.mjs). By AI agents, Wed Nov 11 2026. No macro, syntax, notation, axiom, sorry.
-/
import Derived.Test.YtpmofcdjkhmdaaaGreatDoorRows
import GoSem.ClaimSeven
namespace Go.Proofs.YtpmofcdjkhmdaaaGreatDoor
namespace Rows

/-- THE TIED CARD OF 'novationlaw22.CorporateValues'. -/
def corporateValuesCard : Claim7 := { stood := { row := corporateValuesRow, standIns := [], harness := (true, "959d5baafc7240aa5a4bb96c02a2fe013b65c1dd6bb6c5a1db4237804d1f2d71"), looks := false }, kinds := [], alts := [], laidByText := true, laidKinds := [.mappedDeep], laidTests := true, laidLooks := .later }
def CorporateValuesCardSaid : Prop := Claim7.holds Tryz.pinned (.plain (OpenSpec.ofChange corporateValuesSpec)) corporateValuesCard

/-- THE TIED CARD OF 'novationlaw22.CorporateGrows'. -/
def corporateGrowsCard : Claim7 := { stood := { row := corporateGrowsRow, standIns := [], harness := (true, "959d5baafc7240aa5a4bb96c02a2fe013b65c1dd6bb6c5a1db4237804d1f2d71"), looks := false }, kinds := [], alts := [], laidByText := true, laidKinds := [.mappedDeep], laidTests := true, laidLooks := .later }
def CorporateGrowsCardSaid : Prop := Claim7.holds Tryz.pinned (.plain (OpenSpec.ofChange corporateGrowsSpec)) corporateGrowsCard

/-- THE TIED CARD OF 'novationlaw22.CorporateTells'. -/
def corporateTellsCard : Claim7 := { stood := { row := corporateTellsRow, standIns := [], harness := (true, "959d5baafc7240aa5a4bb96c02a2fe013b65c1dd6bb6c5a1db4237804d1f2d71"), looks := false }, kinds := [], alts := [], laidByText := true, laidKinds := [.mappedDeep, .mapped], laidTests := true, laidLooks := .later }
def CorporateTellsCardSaid : Prop := Claim7.holds Tryz.pinned (.plain (OpenSpec.ofChange corporateTellsSpec)) corporateTellsCard

/-- THE TIED CARD OF 'novationlaw22.CorporateSame'. -/
def corporateSameCard : Claim7 := { stood := { row := corporateSameRow, standIns := [], harness := (true, "959d5baafc7240aa5a4bb96c02a2fe013b65c1dd6bb6c5a1db4237804d1f2d71"), looks := false }, kinds := [], alts := [], laidByText := true, laidKinds := [.mappedDeep, .mapped], laidTests := true, laidLooks := .later }
def CorporateSameCardSaid : Prop := Claim7.holds Tryz.pinned (.plain (OpenSpec.ofChange corporateSameSpec)) corporateSameCard

/-- THE TIED CARD OF 'novationlaw24.AmendChanges'. -/
def amendChangesCard : Claim7 := { stood := { row := amendChangesRow, standIns := [], harness := (true, "959d5baafc7240aa5a4bb96c02a2fe013b65c1dd6bb6c5a1db4237804d1f2d71"), looks := false }, kinds := [], alts := [], laidByText := true, laidKinds := [.mappedDeep, .mapped], laidTests := true, laidLooks := .later }
def AmendChangesCardSaid : Prop := Claim7.holds Tryz.pinned (.plain (OpenSpec.ofChange amendChangesSpec)) amendChangesCard

/-- THE TIED CARD OF 'novationlaw20.EngineChanges'. -/
def engineChangesCard : Claim7 := { stood := { row := engineChangesRow, standIns := [], harness := (true, "959d5baafc7240aa5a4bb96c02a2fe013b65c1dd6bb6c5a1db4237804d1f2d71"), looks := false }, kinds := [], alts := [], laidByText := true, laidKinds := [.mappedDeep, .mapped], laidTests := true, laidLooks := .later }
def EngineChangesCardSaid : Prop := Claim7.holds Tryz.pinned (.plain (OpenSpec.ofChange engineChangesSpec)) engineChangesCard

/-- THE TIED CARD OF 'novationlaw16.TemplateDeals'. -/
def templateDealsCard : Claim7 := { stood := { row := templateDealsRow, standIns := [], harness := (true, "959d5baafc7240aa5a4bb96c02a2fe013b65c1dd6bb6c5a1db4237804d1f2d71"), looks := false }, kinds := [], alts := [], laidByText := true, laidKinds := [.mappedDeep, .mapped], laidTests := true, laidLooks := .later }
def TemplateDealsCardSaid : Prop := Claim7.holds Tryz.pinned (.plain (OpenSpec.ofChange templateDealsSpec)) templateDealsCard

/-- THE TIED CARD OF 'novationlaw16.TemplateJoins'. -/
def templateJoinsCard : Claim7 := { stood := { row := templateJoinsRow, standIns := [], harness := (true, "959d5baafc7240aa5a4bb96c02a2fe013b65c1dd6bb6c5a1db4237804d1f2d71"), looks := false }, kinds := [], alts := [], laidByText := true, laidKinds := [.mappedDeep, .mapped], laidTests := true, laidLooks := .later }
def TemplateJoinsCardSaid : Prop := Claim7.holds Tryz.pinned (.plain (OpenSpec.ofChange templateJoinsSpec)) templateJoinsCard

/-- THE TIED CARD OF 'novationlaw16.TemplateLegs'. -/
def templateLegsCard : Claim7 := { stood := { row := templateLegsRow, standIns := [], harness := (true, "959d5baafc7240aa5a4bb96c02a2fe013b65c1dd6bb6c5a1db4237804d1f2d71"), looks := false }, kinds := [], alts := [], laidByText := true, laidKinds := [.mappedDeep, .mapped], laidTests := true, laidLooks := .later }
def TemplateLegsCardSaid : Prop := Claim7.holds Tryz.pinned (.plain (OpenSpec.ofChange templateLegsSpec)) templateLegsCard

/-- THE SECOND FORM's CARD OF 'novationlaw22.CorporateValues'. -/
def corporateValuesUptoCard : Claim7 := { stood := { row := corporateValuesUptoRow, standIns := [], harness := (true, "959d5baafc7240aa5a4bb96c02a2fe013b65c1dd6bb6c5a1db4237804d1f2d71"), looks := false }, kinds := [], alts := [], laidByText := true, laidKinds := [.mappedDeep], laidTests := true, laidLooks := .later }
def CorporateValuesUptoCardSaid : Prop := Claim7.holds Tryz.pinned (.plain (OpenSpec.upto corporateValuesSpec)) corporateValuesUptoCard

/-- THE SECOND FORM's CARD OF 'novationlaw22.CorporateGrows'. -/
def corporateGrowsUptoCard : Claim7 := { stood := { row := corporateGrowsUptoRow, standIns := [], harness := (true, "959d5baafc7240aa5a4bb96c02a2fe013b65c1dd6bb6c5a1db4237804d1f2d71"), looks := false }, kinds := [], alts := [], laidByText := true, laidKinds := [.mappedDeep], laidTests := true, laidLooks := .later }
def CorporateGrowsUptoCardSaid : Prop := Claim7.holds Tryz.pinned (.plain (OpenSpec.upto corporateGrowsSpec)) corporateGrowsUptoCard

/-- THE SECOND FORM's CARD OF 'novationlaw22.CorporateTells'. -/
def corporateTellsUptoCard : Claim7 := { stood := { row := corporateTellsUptoRow, standIns := [], harness := (true, "959d5baafc7240aa5a4bb96c02a2fe013b65c1dd6bb6c5a1db4237804d1f2d71"), looks := false }, kinds := [], alts := [], laidByText := true, laidKinds := [.mappedDeep, .mapped], laidTests := true, laidLooks := .later }
def CorporateTellsUptoCardSaid : Prop := Claim7.holds Tryz.pinned (.plain (OpenSpec.upto corporateTellsSpec)) corporateTellsUptoCard

/-- THE SECOND FORM's CARD OF 'novationlaw22.CorporateSame'. -/
def corporateSameUptoCard : Claim7 := { stood := { row := corporateSameUptoRow, standIns := [], harness := (true, "959d5baafc7240aa5a4bb96c02a2fe013b65c1dd6bb6c5a1db4237804d1f2d71"), looks := false }, kinds := [], alts := [], laidByText := true, laidKinds := [.mappedDeep, .mapped], laidTests := true, laidLooks := .later }
def CorporateSameUptoCardSaid : Prop := Claim7.holds Tryz.pinned (.plain (OpenSpec.upto corporateSameSpec)) corporateSameUptoCard

/-- THE SECOND FORM's CARD OF 'novationlaw24.AmendChanges'. -/
def amendChangesUptoCard : Claim7 := { stood := { row := amendChangesUptoRow, standIns := [], harness := (true, "959d5baafc7240aa5a4bb96c02a2fe013b65c1dd6bb6c5a1db4237804d1f2d71"), looks := false }, kinds := [], alts := [], laidByText := true, laidKinds := [.mappedDeep, .mapped], laidTests := true, laidLooks := .later }
def AmendChangesUptoCardSaid : Prop := Claim7.holds Tryz.pinned (.plain (OpenSpec.upto amendChangesSpec)) amendChangesUptoCard

/-- THE SECOND FORM's CARD OF 'novationlaw20.EngineChanges'. -/
def engineChangesUptoCard : Claim7 := { stood := { row := engineChangesUptoRow, standIns := [], harness := (true, "959d5baafc7240aa5a4bb96c02a2fe013b65c1dd6bb6c5a1db4237804d1f2d71"), looks := false }, kinds := [], alts := [], laidByText := true, laidKinds := [.mappedDeep, .mapped], laidTests := true, laidLooks := .later }
def EngineChangesUptoCardSaid : Prop := Claim7.holds Tryz.pinned (.plain (OpenSpec.upto engineChangesSpec)) engineChangesUptoCard

/-- THE SECOND FORM's CARD OF 'novationlaw16.TemplateDeals'. -/
def templateDealsUptoCard : Claim7 := { stood := { row := templateDealsUptoRow, standIns := [], harness := (true, "959d5baafc7240aa5a4bb96c02a2fe013b65c1dd6bb6c5a1db4237804d1f2d71"), looks := false }, kinds := [], alts := [], laidByText := true, laidKinds := [.mappedDeep, .mapped], laidTests := true, laidLooks := .later }
def TemplateDealsUptoCardSaid : Prop := Claim7.holds Tryz.pinned (.plain (OpenSpec.upto templateDealsSpec)) templateDealsUptoCard

/-- THE SECOND FORM's CARD OF 'novationlaw16.TemplateJoins'. -/
def templateJoinsUptoCard : Claim7 := { stood := { row := templateJoinsUptoRow, standIns := [], harness := (true, "959d5baafc7240aa5a4bb96c02a2fe013b65c1dd6bb6c5a1db4237804d1f2d71"), looks := false }, kinds := [], alts := [], laidByText := true, laidKinds := [.mappedDeep, .mapped], laidTests := true, laidLooks := .later }
def TemplateJoinsUptoCardSaid : Prop := Claim7.holds Tryz.pinned (.plain (OpenSpec.upto templateJoinsSpec)) templateJoinsUptoCard

/-- THE SECOND FORM's CARD OF 'novationlaw16.TemplateLegs'. -/
def templateLegsUptoCard : Claim7 := { stood := { row := templateLegsUptoRow, standIns := [], harness := (true, "959d5baafc7240aa5a4bb96c02a2fe013b65c1dd6bb6c5a1db4237804d1f2d71"), looks := false }, kinds := [], alts := [], laidByText := true, laidKinds := [.mappedDeep, .mapped], laidTests := true, laidLooks := .later }
def TemplateLegsUptoCardSaid : Prop := Claim7.holds Tryz.pinned (.plain (OpenSpec.upto templateLegsSpec)) templateLegsUptoCard
end Rows
end Go.Proofs.YtpmofcdjkhmdaaaGreatDoor
