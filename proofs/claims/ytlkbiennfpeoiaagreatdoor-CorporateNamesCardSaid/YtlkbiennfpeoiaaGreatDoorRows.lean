/-
  NARROWER THAN 'FOR EVERY INPUT', by the rows' own cells (each row's printed sentence says how): CorporateTells: loops, laid · CorporateSame: loops, laid · CorporateNames: laid.
  DERIVED. THE GIVEN ROWS OF THIS SEAT. 3 by the template 'for every input the law returns true; each argument reads behind the call as it read before'; 0 by the template 'total and deterministic' (their statements: YtlkbiennfpeoiaaGreatDoorTotals.lean).
  GIVEN WITH THE SEED: the statements are not yours to turn. If you find one false, say at which input.
  Laid BY PROGRAM, IN A SANDBOX (cutbox-rows.mjs): the forced cells as the released guide's own fill.sh prints them over the translation 6f6e498d0f8e3389… (all of the seat's roots in one cut). By AI agents, Wed Nov 11 2026. No macro, syntax, notation, axiom, sorry.
-/
import Derived.Test.YtlkbiennfpeoiaaGreatDoorChecked
import GoSem.Claim
import GoSem.ClaimJoined
import GoSem.ClaimMapViews
import Derived.JoinedTies
import Derived.KernelRfl
namespace Go.Proofs.YtlkbiennfpeoiaaGreatDoor
/- THE CELL 'sum', in the pinned program and in every row, IS THE sha256 OF THE DUMP (.gsa) THAT YtlkbiennfpeoiaaGreatDoorProg.lean LOADS. Nothing in Lean hashes anything: it is a label: what it is worth is what the hold of that sum in a sandbox is worth. -/
noncomputable def Tryz.pinned : Pinned := { name := "ytlkbiennfpeoiaagreatdoor", sum := "6f6e498d0f8e33899b89e36d829a239c3ba64993059fcce58874e96473975fd7", checked := Tryz.checked }
namespace Rows
def none {H : Type} : Left H := { results := [], args := [] }

/- WHAT THE LISTED PACKAGE-LEVEL VARIABLES READ AS WHEN THE CALL BEGINS. Each datum BY PROGRAM (the guide's laid-datum.mjs) off the statement by which the dump's own 'gosem.cut.vars' lays the variable. In a bare row this is a premise. The card (YtlkbiennfpeoiaaGreatDoorCards.lean) ties it to the program's text. -/
def laid_novation_observable_shapes {H : Type} : DataW H := .map [(.int .u8 4, .agg [.slice [.lit (.int .u8 1), .lit (.int .u8 1)] [], .lit (.int .u8 1)]), (.int .u8 5, .agg [.slice [.lit (.int .u8 1), .lit (.int .u8 1)] [], .lit (.int .u8 1)]), (.int .u8 6, .agg [.slice [.lit (.int .u8 1), .lit (.int .u8 1)] [], .lit (.int .u8 1)]), (.int .u8 7, .agg [.slice [.lit (.int .u8 1), .lit (.int .u8 1)] [], .lit (.int .u8 1)]), (.int .u8 8, .agg [.slice [.lit (.int .u8 1), .lit (.int .u8 1)] [], .lit (.int .u8 1)]), (.int .u8 9, .agg [.slice [.lit (.int .u8 2), .lit (.int .u8 1), .lit (.int .u8 1)] [], .lit (.int .u8 1)]), (.int .u8 11, .agg [.slice [.lit (.int .u8 1), .lit (.int .u8 1)] [], .lit (.int .u8 2)]), (.int .u8 12, .agg [.slice [.lit (.int .u8 1), .lit (.int .u8 1)] [], .lit (.int .u8 2)]), (.int .u8 13, .agg [.slice [.lit (.int .u8 2), .lit (.int .u8 2)] [], .lit (.int .u8 2)]), (.int .u8 14, .agg [.slice [.lit (.int .u8 2), .lit (.int .u8 2)] [], .lit (.int .u8 2)]), (.int .u8 15, .agg [.slice [.lit (.int .u8 2)] [], .lit (.int .u8 2)])]
def laid_novation_contract_parts {H : Type} : DataW H := .map [(.int .u8 1, .lit (.int .i64 0)), (.int .u8 2, .lit (.int .i64 15)), (.int .u8 3, .lit (.int .i64 256)), (.int .u8 4, .lit (.int .i64 136)), (.int .u8 5, .lit (.int .i64 272)), (.int .u8 6, .lit (.int .i64 160)), (.int .u8 7, .lit (.int .i64 261)), (.int .u8 8, .lit (.int .i64 197)), (.int .u8 9, .lit (.int .i64 208)), (.int .u8 10, .lit (.int .i64 208))]

/-- 'novationlaw22.CorporateTells': WHATEVER THE INPUT: true; the input reads as it did. -/
def corporateTellsSpec : ChangeSpec := { name := "corporateTells", fn := fun _ => fun
  | [d1, d2, d3] => { results := [.lit (.bool true)], args := [d1, d2, d3] }
  | _ => none }
def corporateTellsRow : OpenClaim := { program := "ytlkbiennfpeoiaagreatdoor", sum := "6f6e498d0f8e33899b89e36d829a239c3ba64993059fcce58874e96473975fd7", func := "novation/novationlaw22.CorporateTells", spec := "corporateTells", inPlace := ["internal/bytealg.IndexByteString", "internal/bytealg.IndexString"], unfollowed := true, recurses := true, named := ["internal/bytealg.MaxLen", "novation/observable.shapes", "novation/contract.parts"], loops := true, apart := false, laid := [("novation/observable.shapes", laid_novation_observable_shapes), ("novation/contract.parts", laid_novation_contract_parts)] }
def CorporateTellsSaid : Prop := corporateTellsRow.holds Tryz.pinned (OpenSpec.ofChange corporateTellsSpec)

/-- ITS FALSE NEIGHBOUR: 'it returns false'. Refute it at one input. -/
def corporateTellsWrong : ChangeSpec := { name := "corporateTells", fn := fun _ => fun
  | [d1, d2, d3] => { results := [.lit (.bool false)], args := [d1, d2, d3] }
  | _ => none }
def CorporateTellsWrongFalsely : Prop := corporateTellsRow.holds Tryz.pinned (OpenSpec.ofChange corporateTellsWrong)

/-- 'novationlaw22.CorporateSame': WHATEVER THE INPUT: true; the input reads as it did. -/
def corporateSameSpec : ChangeSpec := { name := "corporateSame", fn := fun _ => fun
  | [d1, d2, d3, d4, d5] => { results := [.lit (.bool true)], args := [d1, d2, d3, d4, d5] }
  | _ => none }
def corporateSameRow : OpenClaim := { program := "ytlkbiennfpeoiaagreatdoor", sum := "6f6e498d0f8e33899b89e36d829a239c3ba64993059fcce58874e96473975fd7", func := "novation/novationlaw22.CorporateSame", spec := "corporateSame", inPlace := ["internal/bytealg.IndexByteString", "internal/bytealg.IndexString", "slices.overlaps[novation/api.Fixing]"], unfollowed := true, recurses := true, named := ["internal/bytealg.MaxLen", "novation/observable.shapes", "novation/contract.parts"], loops := true, apart := false, laid := [("novation/observable.shapes", laid_novation_observable_shapes), ("novation/contract.parts", laid_novation_contract_parts)] }
def CorporateSameSaid : Prop := corporateSameRow.holds Tryz.pinned (OpenSpec.ofChange corporateSameSpec)

/-- ITS FALSE NEIGHBOUR: 'it returns false'. Refute it at one input. -/
def corporateSameWrong : ChangeSpec := { name := "corporateSame", fn := fun _ => fun
  | [d1, d2, d3, d4, d5] => { results := [.lit (.bool false)], args := [d1, d2, d3, d4, d5] }
  | _ => none }
def CorporateSameWrongFalsely : Prop := corporateSameRow.holds Tryz.pinned (OpenSpec.ofChange corporateSameWrong)

/-- 'novationlaw22.CorporateNames': WHATEVER THE INPUT: true; the input reads as it did. -/
def corporateNamesSpec : ChangeSpec := { name := "corporateNames", fn := fun _ => fun
  | [] => { results := [.lit (.bool true)], args := [] }
  | _ => none }
def corporateNamesRow : OpenClaim := { program := "ytlkbiennfpeoiaagreatdoor", sum := "6f6e498d0f8e33899b89e36d829a239c3ba64993059fcce58874e96473975fd7", func := "novation/novationlaw22.CorporateNames", spec := "corporateNames", inPlace := ["internal/bytealg.IndexByteString", "internal/bytealg.IndexString", "slices.overlaps[novation/api.Fixing]"], unfollowed := true, recurses := true, named := ["internal/bytealg.MaxLen", "novation/observable.shapes", "novation/contract.parts"], apart := false, laid := [("novation/observable.shapes", laid_novation_observable_shapes), ("novation/contract.parts", laid_novation_contract_parts)] }
def CorporateNamesSaid : Prop := corporateNamesRow.holds Tryz.pinned (OpenSpec.ofChange corporateNamesSpec)

/-- ITS FALSE NEIGHBOUR: 'it returns false'. Refute it at one input. -/
def corporateNamesWrong : ChangeSpec := { name := "corporateNames", fn := fun _ => fun
  | [] => { results := [.lit (.bool false)], args := [] }
  | _ => none }
def CorporateNamesWrongFalsely : Prop := corporateNamesRow.holds Tryz.pinned (OpenSpec.ofChange corporateNamesWrong)

/- THE SECOND FORM. 'bulk': how many values and letters a reading holds, each counted each time it is reached (what is shared counts as often as it is met; a slice's spare places count too). A statement '..UptoSaid' is the law's where the arguments, and the package variables that the reading takes, are together of bulk at most 1048576: NARROWER than '..Said'. Prove '..Said' where nothing that the law and all that it calls make is longer than what came in: it says more and counts as full. Else prove '..UptoSaid'. A law counts once. -/
mutual
def uptoBulk {H : Type} : DataW H → Nat
  | .lit (.string bytes) => bytes.length + 1
  | .lit _ => 1
  | .nil => 1
  | .ptr d => uptoBulk d + 1
  | .slice elems spare => uptoBulkAll elems + uptoBulkAll spare + 1
  | .agg parts => uptoBulkAll parts + 1
  | .iface _ d => uptoBulk d + 1
  | .map entries => uptoBulkEntries entries + 1
  | .held _ => 1
def uptoBulkAll {H : Type} : List (DataW H) → Nat
  | [] => 0
  | d :: r => uptoBulk d + uptoBulkAll r
def uptoBulkEntries {H : Type} : List (Lit × DataW H) → Nat
  | [] => 0
  | x :: r => uptoBulkEntry x + uptoBulkEntries r
def uptoBulkEntry {H : Type} : Lit × DataW H → Nat
  | (.string bytes, d) => bytes.length + uptoBulk d + 1
  | (_, d) => uptoBulk d + 1
 end
def uptoSmall : (H : Type) → List (DataW H) → Bool := fun _ ds => decide (uptoBulkAll ds ≤ 1048576)
def OpenSpec.upto (s : _root_.Go.ChangeSpec) : _root_.Go.OpenSpec := { _root_.Go.OpenSpec.ofChange s with cond := some uptoSmall }

/-- 'novationlaw22.CorporateTells', WHERE WHAT IT READS IS OF BULK AT MOST 1048576: true; the input reads as it did. -/
def corporateTellsUptoRow : OpenClaim := { program := "ytlkbiennfpeoiaagreatdoor", sum := "6f6e498d0f8e33899b89e36d829a239c3ba64993059fcce58874e96473975fd7", func := "novation/novationlaw22.CorporateTells", spec := "corporateTells", inPlace := ["internal/bytealg.IndexByteString", "internal/bytealg.IndexString"], unfollowed := true, recurses := true, named := ["internal/bytealg.MaxLen", "novation/observable.shapes", "novation/contract.parts"], loops := true, apart := false, laid := [("novation/observable.shapes", laid_novation_observable_shapes), ("novation/contract.parts", laid_novation_contract_parts)], narrowed := true }
def CorporateTellsUptoSaid : Prop := corporateTellsUptoRow.holds Tryz.pinned (OpenSpec.upto corporateTellsSpec)

/-- 'novationlaw22.CorporateSame', WHERE WHAT IT READS IS OF BULK AT MOST 1048576: true; the input reads as it did. -/
def corporateSameUptoRow : OpenClaim := { program := "ytlkbiennfpeoiaagreatdoor", sum := "6f6e498d0f8e33899b89e36d829a239c3ba64993059fcce58874e96473975fd7", func := "novation/novationlaw22.CorporateSame", spec := "corporateSame", inPlace := ["internal/bytealg.IndexByteString", "internal/bytealg.IndexString", "slices.overlaps[novation/api.Fixing]"], unfollowed := true, recurses := true, named := ["internal/bytealg.MaxLen", "novation/observable.shapes", "novation/contract.parts"], loops := true, apart := false, laid := [("novation/observable.shapes", laid_novation_observable_shapes), ("novation/contract.parts", laid_novation_contract_parts)], narrowed := true }
def CorporateSameUptoSaid : Prop := corporateSameUptoRow.holds Tryz.pinned (OpenSpec.upto corporateSameSpec)

/-- 'novationlaw22.CorporateNames', WHERE WHAT IT READS IS OF BULK AT MOST 1048576: true; the input reads as it did. -/
def corporateNamesUptoRow : OpenClaim := { program := "ytlkbiennfpeoiaagreatdoor", sum := "6f6e498d0f8e33899b89e36d829a239c3ba64993059fcce58874e96473975fd7", func := "novation/novationlaw22.CorporateNames", spec := "corporateNames", inPlace := ["internal/bytealg.IndexByteString", "internal/bytealg.IndexString", "slices.overlaps[novation/api.Fixing]"], unfollowed := true, recurses := true, named := ["internal/bytealg.MaxLen", "novation/observable.shapes", "novation/contract.parts"], apart := false, laid := [("novation/observable.shapes", laid_novation_observable_shapes), ("novation/contract.parts", laid_novation_contract_parts)], narrowed := true }
def CorporateNamesUptoSaid : Prop := corporateNamesUptoRow.holds Tryz.pinned (OpenSpec.upto corporateNamesSpec)

end Rows
end Go.Proofs.YtlkbiennfpeoiaaGreatDoor
