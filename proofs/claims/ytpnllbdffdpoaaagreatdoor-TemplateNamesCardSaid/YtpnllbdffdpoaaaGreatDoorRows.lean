/-
  NARROWER THAN 'FOR EVERY INPUT', by the rows' own cells (each row's printed sentence says how): TemplatePays: laid · TemplateLegsPay: laid · TemplateInOut: laid · TemplateParity: laid · TemplateNames: laid.
  DERIVED. THE GIVEN ROWS OF THIS SEAT. 5 by the template 'for every input the law returns true; each argument reads behind the call as it read before'; 0 by the template 'total and deterministic' (their statements: YtpnllbdffdpoaaaGreatDoorTotals.lean).
  GIVEN WITH THE SEED: the statements are not yours to turn. If you find one false, say at which input.
  Laid BY PROGRAM, IN A SANDBOX (cutbox-rows.mjs): the forced cells as the released guide's own fill.sh prints them over the translation 10778c254b4c5e95… (all of the seat's roots in one cut). By AI agents, Wed Nov 11 2026. No macro, syntax, notation, axiom, sorry.
-/
import Derived.Test.YtpnllbdffdpoaaaGreatDoorChecked
import GoSem.Claim
import GoSem.ClaimJoined
import GoSem.ClaimMapViews
import Derived.JoinedTies
import Derived.KernelRfl
namespace Go.Proofs.YtpnllbdffdpoaaaGreatDoor
/- THE CELL 'sum', in the pinned program and in every row, IS THE sha256 OF THE DUMP (.gsa) THAT YtpnllbdffdpoaaaGreatDoorProg.lean LOADS. Nothing in Lean hashes anything: it is a label: what it is worth is what the hold of that sum in a sandbox is worth. -/
noncomputable def Tryz.pinned : Pinned := { name := "ytpnllbdffdpoaaagreatdoor", sum := "10778c254b4c5e95290f5a8b1570a32cf8d5de463a941022e4f0975edb883507", checked := Tryz.checked }
namespace Rows
def none {H : Type} : Left H := { results := [], args := [] }

/- WHAT THE LISTED PACKAGE-LEVEL VARIABLES READ AS WHEN THE CALL BEGINS. Each datum BY PROGRAM (the guide's laid-datum.mjs) off the statement by which the dump's own 'gosem.cut.vars' lays the variable. In a bare row this is a premise. The card (YtpnllbdffdpoaaaGreatDoorCards.lean) ties it to the program's text. -/
def laid_novation_observable_shapes {H : Type} : DataW H := .map [(.int .u8 4, .agg [.slice [.lit (.int .u8 1), .lit (.int .u8 1)] [], .lit (.int .u8 1)]), (.int .u8 5, .agg [.slice [.lit (.int .u8 1), .lit (.int .u8 1)] [], .lit (.int .u8 1)]), (.int .u8 6, .agg [.slice [.lit (.int .u8 1), .lit (.int .u8 1)] [], .lit (.int .u8 1)]), (.int .u8 7, .agg [.slice [.lit (.int .u8 1), .lit (.int .u8 1)] [], .lit (.int .u8 1)]), (.int .u8 8, .agg [.slice [.lit (.int .u8 1), .lit (.int .u8 1)] [], .lit (.int .u8 1)]), (.int .u8 9, .agg [.slice [.lit (.int .u8 2), .lit (.int .u8 1), .lit (.int .u8 1)] [], .lit (.int .u8 1)]), (.int .u8 11, .agg [.slice [.lit (.int .u8 1), .lit (.int .u8 1)] [], .lit (.int .u8 2)]), (.int .u8 12, .agg [.slice [.lit (.int .u8 1), .lit (.int .u8 1)] [], .lit (.int .u8 2)]), (.int .u8 13, .agg [.slice [.lit (.int .u8 2), .lit (.int .u8 2)] [], .lit (.int .u8 2)]), (.int .u8 14, .agg [.slice [.lit (.int .u8 2), .lit (.int .u8 2)] [], .lit (.int .u8 2)]), (.int .u8 15, .agg [.slice [.lit (.int .u8 2)] [], .lit (.int .u8 2)])]
def laid_novation_observable_operations {H : Type} : DataW H := .iface "func table" (.map [(.int .u8 4, .iface "func" (.lit (.string [40, 42, 110, 111, 118, 97, 116, 105, 111, 110, 47, 111, 98, 115, 101, 114, 118, 97, 98, 108, 101, 46, 115, 116, 97, 116, 101, 41, 46, 97, 100, 100]))), (.int .u8 5, .iface "func" (.lit (.string [40, 42, 110, 111, 118, 97, 116, 105, 111, 110, 47, 111, 98, 115, 101, 114, 118, 97, 98, 108, 101, 46, 115, 116, 97, 116, 101, 41, 46, 115, 117, 98]))), (.int .u8 6, .iface "func" (.lit (.string [40, 42, 110, 111, 118, 97, 116, 105, 111, 110, 47, 111, 98, 115, 101, 114, 118, 97, 98, 108, 101, 46, 115, 116, 97, 116, 101, 41, 46, 109, 117, 108]))), (.int .u8 7, .iface "func" (.lit (.string [40, 42, 110, 111, 118, 97, 116, 105, 111, 110, 47, 111, 98, 115, 101, 114, 118, 97, 98, 108, 101, 46, 115, 116, 97, 116, 101, 41, 46, 103, 114, 101, 97, 116, 101, 114]))), (.int .u8 8, .iface "func" (.lit (.string [40, 42, 110, 111, 118, 97, 116, 105, 111, 110, 47, 111, 98, 115, 101, 114, 118, 97, 98, 108, 101, 46, 115, 116, 97, 116, 101, 41, 46, 115, 109, 97, 108, 108, 101, 114])))])
def laid_novation_contract_parts {H : Type} : DataW H := .map [(.int .u8 1, .lit (.int .i64 0)), (.int .u8 2, .lit (.int .i64 15)), (.int .u8 3, .lit (.int .i64 256)), (.int .u8 4, .lit (.int .i64 136)), (.int .u8 5, .lit (.int .i64 272)), (.int .u8 6, .lit (.int .i64 160)), (.int .u8 7, .lit (.int .i64 261)), (.int .u8 8, .lit (.int .i64 197)), (.int .u8 9, .lit (.int .i64 208)), (.int .u8 10, .lit (.int .i64 208))]

/-- 'novationlaw16.TemplatePays': WHATEVER THE INPUT: true; the input reads as it did. -/
def templatePaysSpec : ChangeSpec := { name := "templatePays", fn := fun _ => fun
  | [d1, d2, d3, d4] => { results := [.lit (.bool true)], args := [d1, d2, d3, d4] }
  | _ => none }
def templatePaysRow : OpenClaim := { program := "ytpnllbdffdpoaaagreatdoor", sum := "10778c254b4c5e95290f5a8b1570a32cf8d5de463a941022e4f0975edb883507", func := "novation/novationlaw16.TemplatePays", spec := "templatePays", inPlace := ["internal/bytealg.IndexByteString", "internal/bytealg.IndexString"], unfollowed := true, recurses := true, named := ["internal/bytealg.MaxLen", "novation/contract.parts", "novation/observable.shapes", "novation/observable.operations"], apart := false, laid := [("novation/observable.shapes", laid_novation_observable_shapes), ("novation/observable.operations", laid_novation_observable_operations), ("novation/contract.parts", laid_novation_contract_parts)] }
def TemplatePaysSaid : Prop := templatePaysRow.holds Tryz.pinned (OpenSpec.ofChange templatePaysSpec)

/-- ITS FALSE NEIGHBOUR: 'it returns false'. Refute it at one input. -/
def templatePaysWrong : ChangeSpec := { name := "templatePays", fn := fun _ => fun
  | [d1, d2, d3, d4] => { results := [.lit (.bool false)], args := [d1, d2, d3, d4] }
  | _ => none }
def TemplatePaysWrongFalsely : Prop := templatePaysRow.holds Tryz.pinned (OpenSpec.ofChange templatePaysWrong)

/-- 'novationlaw16.TemplateLegsPay': WHATEVER THE INPUT: true; the input reads as it did. -/
def templateLegsPaySpec : ChangeSpec := { name := "templateLegsPay", fn := fun _ => fun
  | [d1, d2, d3, d4, d5] => { results := [.lit (.bool true)], args := [d1, d2, d3, d4, d5] }
  | _ => none }
def templateLegsPayRow : OpenClaim := { program := "ytpnllbdffdpoaaagreatdoor", sum := "10778c254b4c5e95290f5a8b1570a32cf8d5de463a941022e4f0975edb883507", func := "novation/novationlaw16.TemplateLegsPay", spec := "templateLegsPay", inPlace := ["internal/bytealg.IndexByteString", "internal/bytealg.IndexString"], unfollowed := true, recurses := true, named := ["internal/bytealg.MaxLen", "novation/contract.parts", "novation/observable.shapes", "novation/observable.operations"], apart := false, laid := [("novation/observable.shapes", laid_novation_observable_shapes), ("novation/observable.operations", laid_novation_observable_operations), ("novation/contract.parts", laid_novation_contract_parts)] }
def TemplateLegsPaySaid : Prop := templateLegsPayRow.holds Tryz.pinned (OpenSpec.ofChange templateLegsPaySpec)

/-- ITS FALSE NEIGHBOUR: 'it returns false'. Refute it at one input. -/
def templateLegsPayWrong : ChangeSpec := { name := "templateLegsPay", fn := fun _ => fun
  | [d1, d2, d3, d4, d5] => { results := [.lit (.bool false)], args := [d1, d2, d3, d4, d5] }
  | _ => none }
def TemplateLegsPayWrongFalsely : Prop := templateLegsPayRow.holds Tryz.pinned (OpenSpec.ofChange templateLegsPayWrong)

/-- 'novationlaw16.TemplateInOut': WHATEVER THE INPUT: true; the input reads as it did. -/
def templateInOutSpec : ChangeSpec := { name := "templateInOut", fn := fun _ => fun
  | [d1, d2, d3, d4, d5, d6, d7, d8, d9] => { results := [.lit (.bool true)], args := [d1, d2, d3, d4, d5, d6, d7, d8, d9] }
  | _ => none }
def templateInOutRow : OpenClaim := { program := "ytpnllbdffdpoaaagreatdoor", sum := "10778c254b4c5e95290f5a8b1570a32cf8d5de463a941022e4f0975edb883507", func := "novation/novationlaw16.TemplateInOut", spec := "templateInOut", inPlace := ["internal/bytealg.IndexByteString", "internal/bytealg.IndexString"], unfollowed := true, recurses := true, named := ["internal/bytealg.MaxLen", "novation/contract.parts", "novation/observable.shapes", "novation/observable.operations"], apart := false, laid := [("novation/observable.shapes", laid_novation_observable_shapes), ("novation/observable.operations", laid_novation_observable_operations), ("novation/contract.parts", laid_novation_contract_parts)] }
def TemplateInOutSaid : Prop := templateInOutRow.holds Tryz.pinned (OpenSpec.ofChange templateInOutSpec)

/-- ITS FALSE NEIGHBOUR: 'it returns false'. Refute it at one input. -/
def templateInOutWrong : ChangeSpec := { name := "templateInOut", fn := fun _ => fun
  | [d1, d2, d3, d4, d5, d6, d7, d8, d9] => { results := [.lit (.bool false)], args := [d1, d2, d3, d4, d5, d6, d7, d8, d9] }
  | _ => none }
def TemplateInOutWrongFalsely : Prop := templateInOutRow.holds Tryz.pinned (OpenSpec.ofChange templateInOutWrong)

/-- 'novationlaw16.TemplateParity': WHATEVER THE INPUT: true; the input reads as it did. -/
def templateParitySpec : ChangeSpec := { name := "templateParity", fn := fun _ => fun
  | [d1, d2, d3, d4] => { results := [.lit (.bool true)], args := [d1, d2, d3, d4] }
  | _ => none }
def templateParityRow : OpenClaim := { program := "ytpnllbdffdpoaaagreatdoor", sum := "10778c254b4c5e95290f5a8b1570a32cf8d5de463a941022e4f0975edb883507", func := "novation/novationlaw16.TemplateParity", spec := "templateParity", inPlace := ["internal/bytealg.IndexByteString", "internal/bytealg.IndexString"], unfollowed := true, recurses := true, named := ["internal/bytealg.MaxLen", "novation/contract.parts", "novation/observable.shapes", "novation/observable.operations"], apart := false, laid := [("novation/observable.shapes", laid_novation_observable_shapes), ("novation/observable.operations", laid_novation_observable_operations), ("novation/contract.parts", laid_novation_contract_parts)] }
def TemplateParitySaid : Prop := templateParityRow.holds Tryz.pinned (OpenSpec.ofChange templateParitySpec)

/-- ITS FALSE NEIGHBOUR: 'it returns false'. Refute it at one input. -/
def templateParityWrong : ChangeSpec := { name := "templateParity", fn := fun _ => fun
  | [d1, d2, d3, d4] => { results := [.lit (.bool false)], args := [d1, d2, d3, d4] }
  | _ => none }
def TemplateParityWrongFalsely : Prop := templateParityRow.holds Tryz.pinned (OpenSpec.ofChange templateParityWrong)

/-- 'novationlaw16.TemplateNames': WHATEVER THE INPUT: true; the input reads as it did. -/
def templateNamesSpec : ChangeSpec := { name := "templateNames", fn := fun _ => fun
  | [] => { results := [.lit (.bool true)], args := [] }
  | _ => none }
def templateNamesRow : OpenClaim := { program := "ytpnllbdffdpoaaagreatdoor", sum := "10778c254b4c5e95290f5a8b1570a32cf8d5de463a941022e4f0975edb883507", func := "novation/novationlaw16.TemplateNames", spec := "templateNames", inPlace := ["internal/bytealg.IndexByteString", "internal/bytealg.IndexString"], unfollowed := true, recurses := true, named := ["internal/bytealg.MaxLen", "novation/contract.parts", "novation/observable.shapes", "novation/observable.operations"], apart := false, laid := [("novation/observable.shapes", laid_novation_observable_shapes), ("novation/observable.operations", laid_novation_observable_operations), ("novation/contract.parts", laid_novation_contract_parts)] }
def TemplateNamesSaid : Prop := templateNamesRow.holds Tryz.pinned (OpenSpec.ofChange templateNamesSpec)

/-- ITS FALSE NEIGHBOUR: 'it returns false'. Refute it at one input. -/
def templateNamesWrong : ChangeSpec := { name := "templateNames", fn := fun _ => fun
  | [] => { results := [.lit (.bool false)], args := [] }
  | _ => none }
def TemplateNamesWrongFalsely : Prop := templateNamesRow.holds Tryz.pinned (OpenSpec.ofChange templateNamesWrong)

/- THE SECOND FORM. 'bulk': how many values and letters a reading holds, each counted each time it is reached (what is shared counts as often as it is met; a slice's spare places count too). A statement '..UptoSaid' is the law's where the arguments, and the package variables that the reading takes, are together of bulk at most 1048576: NARROWER than '..Said'. Prove '..Said' where nothing that the law and all that it calls make is longer than what came in: it says more and counts as full. Else prove '..UptoSaid'. A law counts once. -/
mutual
def uptoBulk {H : Type} : DataW H → Nat
  | .lit (.string bytes) => bytes.length + 1
  | .lit _ => 1
  | .nil => 1
  | .ptr d => uptoBulk d + 1
  | .slice elems spare => uptoBulkAll elems + uptoBulkAll spare + 1
  | .agg parts => uptoBulkAll parts + 1
  | .iface _ d => uptoBulk d + 1
  | .map entries => uptoBulkEntries entries + 1
  | .held _ => 1
def uptoBulkAll {H : Type} : List (DataW H) → Nat
  | [] => 0
  | d :: r => uptoBulk d + uptoBulkAll r
def uptoBulkEntries {H : Type} : List (Lit × DataW H) → Nat
  | [] => 0
  | x :: r => uptoBulkEntry x + uptoBulkEntries r
def uptoBulkEntry {H : Type} : Lit × DataW H → Nat
  | (.string bytes, d) => bytes.length + uptoBulk d + 1
  | (_, d) => uptoBulk d + 1
 end
def uptoSmall : (H : Type) → List (DataW H) → Bool := fun _ ds => decide (uptoBulkAll ds ≤ 1048576)
def OpenSpec.upto (s : _root_.Go.ChangeSpec) : _root_.Go.OpenSpec := { _root_.Go.OpenSpec.ofChange s with cond := some uptoSmall }

/-- 'novationlaw16.TemplatePays', WHERE WHAT IT READS IS OF BULK AT MOST 1048576: true; the input reads as it did. -/
def templatePaysUptoRow : OpenClaim := { program := "ytpnllbdffdpoaaagreatdoor", sum := "10778c254b4c5e95290f5a8b1570a32cf8d5de463a941022e4f0975edb883507", func := "novation/novationlaw16.TemplatePays", spec := "templatePays", inPlace := ["internal/bytealg.IndexByteString", "internal/bytealg.IndexString"], unfollowed := true, recurses := true, named := ["internal/bytealg.MaxLen", "novation/contract.parts", "novation/observable.shapes", "novation/observable.operations"], apart := false, laid := [("novation/observable.shapes", laid_novation_observable_shapes), ("novation/observable.operations", laid_novation_observable_operations), ("novation/contract.parts", laid_novation_contract_parts)], narrowed := true }
def TemplatePaysUptoSaid : Prop := templatePaysUptoRow.holds Tryz.pinned (OpenSpec.upto templatePaysSpec)

/-- 'novationlaw16.TemplateLegsPay', WHERE WHAT IT READS IS OF BULK AT MOST 1048576: true; the input reads as it did. -/
def templateLegsPayUptoRow : OpenClaim := { program := "ytpnllbdffdpoaaagreatdoor", sum := "10778c254b4c5e95290f5a8b1570a32cf8d5de463a941022e4f0975edb883507", func := "novation/novationlaw16.TemplateLegsPay", spec := "templateLegsPay", inPlace := ["internal/bytealg.IndexByteString", "internal/bytealg.IndexString"], unfollowed := true, recurses := true, named := ["internal/bytealg.MaxLen", "novation/contract.parts", "novation/observable.shapes", "novation/observable.operations"], apart := false, laid := [("novation/observable.shapes", laid_novation_observable_shapes), ("novation/observable.operations", laid_novation_observable_operations), ("novation/contract.parts", laid_novation_contract_parts)], narrowed := true }
def TemplateLegsPayUptoSaid : Prop := templateLegsPayUptoRow.holds Tryz.pinned (OpenSpec.upto templateLegsPaySpec)

/-- 'novationlaw16.TemplateInOut', WHERE WHAT IT READS IS OF BULK AT MOST 1048576: true; the input reads as it did. -/
def templateInOutUptoRow : OpenClaim := { program := "ytpnllbdffdpoaaagreatdoor", sum := "10778c254b4c5e95290f5a8b1570a32cf8d5de463a941022e4f0975edb883507", func := "novation/novationlaw16.TemplateInOut", spec := "templateInOut", inPlace := ["internal/bytealg.IndexByteString", "internal/bytealg.IndexString"], unfollowed := true, recurses := true, named := ["internal/bytealg.MaxLen", "novation/contract.parts", "novation/observable.shapes", "novation/observable.operations"], apart := false, laid := [("novation/observable.shapes", laid_novation_observable_shapes), ("novation/observable.operations", laid_novation_observable_operations), ("novation/contract.parts", laid_novation_contract_parts)], narrowed := true }
def TemplateInOutUptoSaid : Prop := templateInOutUptoRow.holds Tryz.pinned (OpenSpec.upto templateInOutSpec)

/-- 'novationlaw16.TemplateParity', WHERE WHAT IT READS IS OF BULK AT MOST 1048576: true; the input reads as it did. -/
def templateParityUptoRow : OpenClaim := { program := "ytpnllbdffdpoaaagreatdoor", sum := "10778c254b4c5e95290f5a8b1570a32cf8d5de463a941022e4f0975edb883507", func := "novation/novationlaw16.TemplateParity", spec := "templateParity", inPlace := ["internal/bytealg.IndexByteString", "internal/bytealg.IndexString"], unfollowed := true, recurses := true, named := ["internal/bytealg.MaxLen", "novation/contract.parts", "novation/observable.shapes", "novation/observable.operations"], apart := false, laid := [("novation/observable.shapes", laid_novation_observable_shapes), ("novation/observable.operations", laid_novation_observable_operations), ("novation/contract.parts", laid_novation_contract_parts)], narrowed := true }
def TemplateParityUptoSaid : Prop := templateParityUptoRow.holds Tryz.pinned (OpenSpec.upto templateParitySpec)

/-- 'novationlaw16.TemplateNames', WHERE WHAT IT READS IS OF BULK AT MOST 1048576: true; the input reads as it did. -/
def templateNamesUptoRow : OpenClaim := { program := "ytpnllbdffdpoaaagreatdoor", sum := "10778c254b4c5e95290f5a8b1570a32cf8d5de463a941022e4f0975edb883507", func := "novation/novationlaw16.TemplateNames", spec := "templateNames", inPlace := ["internal/bytealg.IndexByteString", "internal/bytealg.IndexString"], unfollowed := true, recurses := true, named := ["internal/bytealg.MaxLen", "novation/contract.parts", "novation/observable.shapes", "novation/observable.operations"], apart := false, laid := [("novation/observable.shapes", laid_novation_observable_shapes), ("novation/observable.operations", laid_novation_observable_operations), ("novation/contract.parts", laid_novation_contract_parts)], narrowed := true }
def TemplateNamesUptoSaid : Prop := templateNamesUptoRow.holds Tryz.pinned (OpenSpec.upto templateNamesSpec)

end Rows
end Go.Proofs.YtpnllbdffdpoaaaGreatDoor
