/-
  DERIVED. GIVEN WITH THE SEED: THE CARDS: each row of YtpnllbdffdpoaaaGreatDoorRows.lean that lists a variable, with what it lists TIED to the program's text (the seventh form; the later family's looks); each row that meets fmt, with fmt's text TOLD by the authors' own Lean function (tested against real Go, not proved from fmt's source: count such statements apart). THE CARD IS WHAT COUNTS. Prove the row's statement (the work); the ties are given (YtpnllbdffdpoaaaGreatDoorTie.lean); close each card by the builder's one call (the guide's Derived/Test/ToyasCard.lean, 'card_holds'). Laid BY PROGRAM, IN A SANDBOX (cutbox-door.mjs). By AI agents, Wed Nov 11 2026. No macro, syntax, notation, axiom, sorry.
-/
import Derived.Test.YtpnllbdffdpoaaaGreatDoorRows
import GoSem.ClaimSeven
namespace Go.Proofs.YtpnllbdffdpoaaaGreatDoor
namespace Rows

/-- THE TIED CARD OF 'novationlaw16.TemplatePays'. -/
def templatePaysCard : Claim7 := { stood := { row := templatePaysRow, standIns := [], harness := (true, "47370d2515ba6a51d1609e58d5aa5405615658d069b08cae6c05f31fd91428f6"), looks := true }, kinds := [], alts := [], laidByText := true, laidKinds := [.mappedDeep, .funcs, .mapped], laidTests := true, laidLooks := .later }
def TemplatePaysCardSaid : Prop := Claim7.holds Tryz.pinned (.plain (OpenSpec.ofChange templatePaysSpec)) templatePaysCard

/-- THE TIED CARD OF 'novationlaw16.TemplateLegsPay'. -/
def templateLegsPayCard : Claim7 := { stood := { row := templateLegsPayRow, standIns := [], harness := (true, "47370d2515ba6a51d1609e58d5aa5405615658d069b08cae6c05f31fd91428f6"), looks := true }, kinds := [], alts := [], laidByText := true, laidKinds := [.mappedDeep, .funcs, .mapped], laidTests := true, laidLooks := .later }
def TemplateLegsPayCardSaid : Prop := Claim7.holds Tryz.pinned (.plain (OpenSpec.ofChange templateLegsPaySpec)) templateLegsPayCard

/-- THE TIED CARD OF 'novationlaw16.TemplateInOut'. -/
def templateInOutCard : Claim7 := { stood := { row := templateInOutRow, standIns := [], harness := (true, "47370d2515ba6a51d1609e58d5aa5405615658d069b08cae6c05f31fd91428f6"), looks := true }, kinds := [], alts := [], laidByText := true, laidKinds := [.mappedDeep, .funcs, .mapped], laidTests := true, laidLooks := .later }
def TemplateInOutCardSaid : Prop := Claim7.holds Tryz.pinned (.plain (OpenSpec.ofChange templateInOutSpec)) templateInOutCard

/-- THE TIED CARD OF 'novationlaw16.TemplateParity'. -/
def templateParityCard : Claim7 := { stood := { row := templateParityRow, standIns := [], harness := (true, "47370d2515ba6a51d1609e58d5aa5405615658d069b08cae6c05f31fd91428f6"), looks := true }, kinds := [], alts := [], laidByText := true, laidKinds := [.mappedDeep, .funcs, .mapped], laidTests := true, laidLooks := .later }
def TemplateParityCardSaid : Prop := Claim7.holds Tryz.pinned (.plain (OpenSpec.ofChange templateParitySpec)) templateParityCard

/-- THE TIED CARD OF 'novationlaw16.TemplateNames'. -/
def templateNamesCard : Claim7 := { stood := { row := templateNamesRow, standIns := [], harness := (true, "47370d2515ba6a51d1609e58d5aa5405615658d069b08cae6c05f31fd91428f6"), looks := true }, kinds := [], alts := [], laidByText := true, laidKinds := [.mappedDeep, .funcs, .mapped], laidTests := true, laidLooks := .later }
def TemplateNamesCardSaid : Prop := Claim7.holds Tryz.pinned (.plain (OpenSpec.ofChange templateNamesSpec)) templateNamesCard

/-- THE SECOND FORM's CARD OF 'novationlaw16.TemplatePays'. -/
def templatePaysUptoCard : Claim7 := { stood := { row := templatePaysUptoRow, standIns := [], harness := (true, "47370d2515ba6a51d1609e58d5aa5405615658d069b08cae6c05f31fd91428f6"), looks := true }, kinds := [], alts := [], laidByText := true, laidKinds := [.mappedDeep, .funcs, .mapped], laidTests := true, laidLooks := .later }
def TemplatePaysUptoCardSaid : Prop := Claim7.holds Tryz.pinned (.plain (OpenSpec.upto templatePaysSpec)) templatePaysUptoCard

/-- THE SECOND FORM's CARD OF 'novationlaw16.TemplateLegsPay'. -/
def templateLegsPayUptoCard : Claim7 := { stood := { row := templateLegsPayUptoRow, standIns := [], harness := (true, "47370d2515ba6a51d1609e58d5aa5405615658d069b08cae6c05f31fd91428f6"), looks := true }, kinds := [], alts := [], laidByText := true, laidKinds := [.mappedDeep, .funcs, .mapped], laidTests := true, laidLooks := .later }
def TemplateLegsPayUptoCardSaid : Prop := Claim7.holds Tryz.pinned (.plain (OpenSpec.upto templateLegsPaySpec)) templateLegsPayUptoCard

/-- THE SECOND FORM's CARD OF 'novationlaw16.TemplateInOut'. -/
def templateInOutUptoCard : Claim7 := { stood := { row := templateInOutUptoRow, standIns := [], harness := (true, "47370d2515ba6a51d1609e58d5aa5405615658d069b08cae6c05f31fd91428f6"), looks := true }, kinds := [], alts := [], laidByText := true, laidKinds := [.mappedDeep, .funcs, .mapped], laidTests := true, laidLooks := .later }
def TemplateInOutUptoCardSaid : Prop := Claim7.holds Tryz.pinned (.plain (OpenSpec.upto templateInOutSpec)) templateInOutUptoCard

/-- THE SECOND FORM's CARD OF 'novationlaw16.TemplateParity'. -/
def templateParityUptoCard : Claim7 := { stood := { row := templateParityUptoRow, standIns := [], harness := (true, "47370d2515ba6a51d1609e58d5aa5405615658d069b08cae6c05f31fd91428f6"), looks := true }, kinds := [], alts := [], laidByText := true, laidKinds := [.mappedDeep, .funcs, .mapped], laidTests := true, laidLooks := .later }
def TemplateParityUptoCardSaid : Prop := Claim7.holds Tryz.pinned (.plain (OpenSpec.upto templateParitySpec)) templateParityUptoCard

/-- THE SECOND FORM's CARD OF 'novationlaw16.TemplateNames'. -/
def templateNamesUptoCard : Claim7 := { stood := { row := templateNamesUptoRow, standIns := [], harness := (true, "47370d2515ba6a51d1609e58d5aa5405615658d069b08cae6c05f31fd91428f6"), looks := true }, kinds := [], alts := [], laidByText := true, laidKinds := [.mappedDeep, .funcs, .mapped], laidTests := true, laidLooks := .later }
def TemplateNamesUptoCardSaid : Prop := Claim7.holds Tryz.pinned (.plain (OpenSpec.upto templateNamesSpec)) templateNamesUptoCard
end Rows
end Go.Proofs.YtpnllbdffdpoaaaGreatDoor
