/-
  NARROWER THAN 'FOR EVERY INPUT', by the rows' own cells (each row's printed sentence says how): AmendForce: loops, laid · AmendUndoes: loops, laid · AmendSplits: loops, laid · AmendStops: loops, laid · AmendTells: loops, laid · AmendNames: laid.
  DERIVED. THE GIVEN ROWS OF THIS SEAT. 6 by the template 'for every input the law returns true; each argument reads behind the call as it read before'; 0 by the template 'total and deterministic' (their statements: YtihplbclhhhgdaaGreatDoorTotals.lean).
  GIVEN WITH THE SEED: the statements are not yours to turn. If you find one false, say at which input.
  Laid BY PROGRAM, IN A SANDBOX (cutbox-rows.mjs): the forced cells as the released guide's own fill.sh prints them over the translation 0a1876b2f90e53aa… (all of the seat's roots in one cut). By AI agents, Wed Nov 11 2026. No macro, syntax, notation, axiom, sorry.
-/
import Derived.Test.YtihplbclhhhgdaaGreatDoorChecked
import GoSem.Claim
import GoSem.ClaimJoined
import GoSem.ClaimMapViews
import Derived.JoinedTies
import Derived.KernelRfl
namespace Go.Proofs.YtihplbclhhhgdaaGreatDoor
/- THE CELL 'sum', in the pinned program and in every row, IS THE sha256 OF THE DUMP (.gsa) THAT YtihplbclhhhgdaaGreatDoorProg.lean LOADS. Nothing in Lean hashes anything: it is a label: what it is worth is what the hold of that sum in a sandbox is worth. -/
noncomputable def Tryz.pinned : Pinned := { name := "ytihplbclhhhgdaagreatdoor", sum := "0a1876b2f90e53aa700ffdd2d13775ab1c580daf0ae00ce7ca9b356c582d411a", checked := Tryz.checked }
namespace Rows
def none {H : Type} : Left H := { results := [], args := [] }

/- WHAT THE LISTED PACKAGE-LEVEL VARIABLES READ AS WHEN THE CALL BEGINS. Each datum BY PROGRAM (the guide's laid-datum.mjs) off the statement by which the dump's own 'gosem.cut.vars' lays the variable. In a bare row this is a premise. The card (YtihplbclhhhgdaaGreatDoorCards.lean) ties it to the program's text. -/
def laid_novation_observable_shapes {H : Type} : DataW H := .map [(.int .u8 4, .agg [.slice [.lit (.int .u8 1), .lit (.int .u8 1)] [], .lit (.int .u8 1)]), (.int .u8 5, .agg [.slice [.lit (.int .u8 1), .lit (.int .u8 1)] [], .lit (.int .u8 1)]), (.int .u8 6, .agg [.slice [.lit (.int .u8 1), .lit (.int .u8 1)] [], .lit (.int .u8 1)]), (.int .u8 7, .agg [.slice [.lit (.int .u8 1), .lit (.int .u8 1)] [], .lit (.int .u8 1)]), (.int .u8 8, .agg [.slice [.lit (.int .u8 1), .lit (.int .u8 1)] [], .lit (.int .u8 1)]), (.int .u8 9, .agg [.slice [.lit (.int .u8 2), .lit (.int .u8 1), .lit (.int .u8 1)] [], .lit (.int .u8 1)]), (.int .u8 11, .agg [.slice [.lit (.int .u8 1), .lit (.int .u8 1)] [], .lit (.int .u8 2)]), (.int .u8 12, .agg [.slice [.lit (.int .u8 1), .lit (.int .u8 1)] [], .lit (.int .u8 2)]), (.int .u8 13, .agg [.slice [.lit (.int .u8 2), .lit (.int .u8 2)] [], .lit (.int .u8 2)]), (.int .u8 14, .agg [.slice [.lit (.int .u8 2), .lit (.int .u8 2)] [], .lit (.int .u8 2)]), (.int .u8 15, .agg [.slice [.lit (.int .u8 2)] [], .lit (.int .u8 2)])]
def laid_novation_observable_operations {H : Type} : DataW H := .iface "func table" (.map [(.int .u8 4, .iface "func" (.lit (.string [40, 42, 110, 111, 118, 97, 116, 105, 111, 110, 47, 111, 98, 115, 101, 114, 118, 97, 98, 108, 101, 46, 115, 116, 97, 116, 101, 41, 46, 97, 100, 100]))), (.int .u8 5, .iface "func" (.lit (.string [40, 42, 110, 111, 118, 97, 116, 105, 111, 110, 47, 111, 98, 115, 101, 114, 118, 97, 98, 108, 101, 46, 115, 116, 97, 116, 101, 41, 46, 115, 117, 98]))), (.int .u8 6, .iface "func" (.lit (.string [40, 42, 110, 111, 118, 97, 116, 105, 111, 110, 47, 111, 98, 115, 101, 114, 118, 97, 98, 108, 101, 46, 115, 116, 97, 116, 101, 41, 46, 109, 117, 108]))), (.int .u8 7, .iface "func" (.lit (.string [40, 42, 110, 111, 118, 97, 116, 105, 111, 110, 47, 111, 98, 115, 101, 114, 118, 97, 98, 108, 101, 46, 115, 116, 97, 116, 101, 41, 46, 103, 114, 101, 97, 116, 101, 114]))), (.int .u8 8, .iface "func" (.lit (.string [40, 42, 110, 111, 118, 97, 116, 105, 111, 110, 47, 111, 98, 115, 101, 114, 118, 97, 98, 108, 101, 46, 115, 116, 97, 116, 101, 41, 46, 115, 109, 97, 108, 108, 101, 114])))])
def laid_novation_contract_parts {H : Type} : DataW H := .map [(.int .u8 1, .lit (.int .i64 0)), (.int .u8 2, .lit (.int .i64 15)), (.int .u8 3, .lit (.int .i64 256)), (.int .u8 4, .lit (.int .i64 136)), (.int .u8 5, .lit (.int .i64 272)), (.int .u8 6, .lit (.int .i64 160)), (.int .u8 7, .lit (.int .i64 261)), (.int .u8 8, .lit (.int .i64 197)), (.int .u8 9, .lit (.int .i64 208)), (.int .u8 10, .lit (.int .i64 208))]

/-- 'novationlaw24.AmendForce': WHATEVER THE INPUT: true; the input reads as it did. -/
def amendForceSpec : ChangeSpec := { name := "amendForce", fn := fun _ => fun
  | [d1, d2] => { results := [.lit (.bool true)], args := [d1, d2] }
  | _ => none }
def amendForceRow : OpenClaim := { program := "ytihplbclhhhgdaagreatdoor", sum := "0a1876b2f90e53aa700ffdd2d13775ab1c580daf0ae00ce7ca9b356c582d411a", func := "novation/novationlaw24.AmendForce", spec := "amendForce", inPlace := ["internal/bytealg.IndexByteString", "internal/bytealg.IndexString"], unfollowed := true, recurses := true, named := ["novation/contract.parts", "novation/observable.shapes", "internal/bytealg.MaxLen", "novation/observable.operations"], loops := true, apart := false, laid := [("novation/observable.shapes", laid_novation_observable_shapes), ("novation/observable.operations", laid_novation_observable_operations), ("novation/contract.parts", laid_novation_contract_parts)] }
def AmendForceSaid : Prop := amendForceRow.holds Tryz.pinned (OpenSpec.ofChange amendForceSpec)

/-- ITS FALSE NEIGHBOUR: 'it returns false'. Refute it at one input. -/
def amendForceWrong : ChangeSpec := { name := "amendForce", fn := fun _ => fun
  | [d1, d2] => { results := [.lit (.bool false)], args := [d1, d2] }
  | _ => none }
def AmendForceWrongFalsely : Prop := amendForceRow.holds Tryz.pinned (OpenSpec.ofChange amendForceWrong)

/-- 'novationlaw24.AmendUndoes': WHATEVER THE INPUT: true; the input reads as it did. -/
def amendUndoesSpec : ChangeSpec := { name := "amendUndoes", fn := fun _ => fun
  | [d1, d2, d3] => { results := [.lit (.bool true)], args := [d1, d2, d3] }
  | _ => none }
def amendUndoesRow : OpenClaim := { program := "ytihplbclhhhgdaagreatdoor", sum := "0a1876b2f90e53aa700ffdd2d13775ab1c580daf0ae00ce7ca9b356c582d411a", func := "novation/novationlaw24.AmendUndoes", spec := "amendUndoes", inPlace := ["internal/bytealg.IndexByteString", "internal/bytealg.IndexString"], unfollowed := true, recurses := true, named := ["novation/contract.parts", "novation/observable.shapes", "internal/bytealg.MaxLen", "novation/observable.operations"], loops := true, apart := false, laid := [("novation/observable.shapes", laid_novation_observable_shapes), ("novation/observable.operations", laid_novation_observable_operations), ("novation/contract.parts", laid_novation_contract_parts)] }
def AmendUndoesSaid : Prop := amendUndoesRow.holds Tryz.pinned (OpenSpec.ofChange amendUndoesSpec)

/-- ITS FALSE NEIGHBOUR: 'it returns false'. Refute it at one input. -/
def amendUndoesWrong : ChangeSpec := { name := "amendUndoes", fn := fun _ => fun
  | [d1, d2, d3] => { results := [.lit (.bool false)], args := [d1, d2, d3] }
  | _ => none }
def AmendUndoesWrongFalsely : Prop := amendUndoesRow.holds Tryz.pinned (OpenSpec.ofChange amendUndoesWrong)

/-- 'novationlaw24.AmendSplits': WHATEVER THE INPUT: true; the input reads as it did. -/
def amendSplitsSpec : ChangeSpec := { name := "amendSplits", fn := fun _ => fun
  | [d1, d2, d3, d4] => { results := [.lit (.bool true)], args := [d1, d2, d3, d4] }
  | _ => none }
def amendSplitsRow : OpenClaim := { program := "ytihplbclhhhgdaagreatdoor", sum := "0a1876b2f90e53aa700ffdd2d13775ab1c580daf0ae00ce7ca9b356c582d411a", func := "novation/novationlaw24.AmendSplits", spec := "amendSplits", inPlace := ["internal/bytealg.IndexByteString", "internal/bytealg.IndexString"], unfollowed := true, recurses := true, named := ["novation/contract.parts", "novation/observable.shapes", "internal/bytealg.MaxLen", "novation/observable.operations"], loops := true, apart := false, laid := [("novation/observable.shapes", laid_novation_observable_shapes), ("novation/observable.operations", laid_novation_observable_operations), ("novation/contract.parts", laid_novation_contract_parts)] }
def AmendSplitsSaid : Prop := amendSplitsRow.holds Tryz.pinned (OpenSpec.ofChange amendSplitsSpec)

/-- ITS FALSE NEIGHBOUR: 'it returns false'. Refute it at one input. -/
def amendSplitsWrong : ChangeSpec := { name := "amendSplits", fn := fun _ => fun
  | [d1, d2, d3, d4] => { results := [.lit (.bool false)], args := [d1, d2, d3, d4] }
  | _ => none }
def AmendSplitsWrongFalsely : Prop := amendSplitsRow.holds Tryz.pinned (OpenSpec.ofChange amendSplitsWrong)

/-- 'novationlaw24.AmendStops': WHATEVER THE INPUT: true; the input reads as it did. -/
def amendStopsSpec : ChangeSpec := { name := "amendStops", fn := fun _ => fun
  | [d1, d2, d3] => { results := [.lit (.bool true)], args := [d1, d2, d3] }
  | _ => none }
def amendStopsRow : OpenClaim := { program := "ytihplbclhhhgdaagreatdoor", sum := "0a1876b2f90e53aa700ffdd2d13775ab1c580daf0ae00ce7ca9b356c582d411a", func := "novation/novationlaw24.AmendStops", spec := "amendStops", inPlace := ["internal/bytealg.IndexByteString", "internal/bytealg.IndexString"], unfollowed := true, recurses := true, named := ["novation/contract.parts", "novation/observable.shapes", "internal/bytealg.MaxLen", "novation/observable.operations"], loops := true, apart := false, laid := [("novation/observable.shapes", laid_novation_observable_shapes), ("novation/observable.operations", laid_novation_observable_operations), ("novation/contract.parts", laid_novation_contract_parts)] }
def AmendStopsSaid : Prop := amendStopsRow.holds Tryz.pinned (OpenSpec.ofChange amendStopsSpec)

/-- ITS FALSE NEIGHBOUR: 'it returns false'. Refute it at one input. -/
def amendStopsWrong : ChangeSpec := { name := "amendStops", fn := fun _ => fun
  | [d1, d2, d3] => { results := [.lit (.bool false)], args := [d1, d2, d3] }
  | _ => none }
def AmendStopsWrongFalsely : Prop := amendStopsRow.holds Tryz.pinned (OpenSpec.ofChange amendStopsWrong)

/-- 'novationlaw24.AmendTells': WHATEVER THE INPUT: true; the input reads as it did. -/
def amendTellsSpec : ChangeSpec := { name := "amendTells", fn := fun _ => fun
  | [d1, d2, d3, d4] => { results := [.lit (.bool true)], args := [d1, d2, d3, d4] }
  | _ => none }
def amendTellsRow : OpenClaim := { program := "ytihplbclhhhgdaagreatdoor", sum := "0a1876b2f90e53aa700ffdd2d13775ab1c580daf0ae00ce7ca9b356c582d411a", func := "novation/novationlaw24.AmendTells", spec := "amendTells", inPlace := ["internal/bytealg.IndexByteString", "internal/bytealg.IndexString"], unfollowed := true, recurses := true, named := ["novation/contract.parts", "novation/observable.shapes", "internal/bytealg.MaxLen", "novation/observable.operations"], loops := true, apart := false, laid := [("novation/observable.shapes", laid_novation_observable_shapes), ("novation/observable.operations", laid_novation_observable_operations), ("novation/contract.parts", laid_novation_contract_parts)] }
def AmendTellsSaid : Prop := amendTellsRow.holds Tryz.pinned (OpenSpec.ofChange amendTellsSpec)

/-- ITS FALSE NEIGHBOUR: 'it returns false'. Refute it at one input. -/
def amendTellsWrong : ChangeSpec := { name := "amendTells", fn := fun _ => fun
  | [d1, d2, d3, d4] => { results := [.lit (.bool false)], args := [d1, d2, d3, d4] }
  | _ => none }
def AmendTellsWrongFalsely : Prop := amendTellsRow.holds Tryz.pinned (OpenSpec.ofChange amendTellsWrong)

/-- 'novationlaw24.AmendNames': WHATEVER THE INPUT: true; the input reads as it did. -/
def amendNamesSpec : ChangeSpec := { name := "amendNames", fn := fun _ => fun
  | [] => { results := [.lit (.bool true)], args := [] }
  | _ => none }
def amendNamesRow : OpenClaim := { program := "ytihplbclhhhgdaagreatdoor", sum := "0a1876b2f90e53aa700ffdd2d13775ab1c580daf0ae00ce7ca9b356c582d411a", func := "novation/novationlaw24.AmendNames", spec := "amendNames", inPlace := ["internal/bytealg.IndexByteString", "internal/bytealg.IndexString"], unfollowed := true, recurses := true, named := ["novation/contract.parts", "novation/observable.shapes", "internal/bytealg.MaxLen", "novation/observable.operations"], apart := false, laid := [("novation/observable.shapes", laid_novation_observable_shapes), ("novation/observable.operations", laid_novation_observable_operations), ("novation/contract.parts", laid_novation_contract_parts)] }
def AmendNamesSaid : Prop := amendNamesRow.holds Tryz.pinned (OpenSpec.ofChange amendNamesSpec)

/-- ITS FALSE NEIGHBOUR: 'it returns false'. Refute it at one input. -/
def amendNamesWrong : ChangeSpec := { name := "amendNames", fn := fun _ => fun
  | [] => { results := [.lit (.bool false)], args := [] }
  | _ => none }
def AmendNamesWrongFalsely : Prop := amendNamesRow.holds Tryz.pinned (OpenSpec.ofChange amendNamesWrong)

/- THE SECOND FORM. 'bulk': how many values and letters a reading holds, each counted each time it is reached (what is shared counts as often as it is met; a slice's spare places count too). A statement '..UptoSaid' is the law's where the arguments, and the package variables that the reading takes, are together of bulk at most 1048576: NARROWER than '..Said'. Prove '..Said' where nothing that the law and all that it calls make is longer than what came in: it says more and counts as full. Else prove '..UptoSaid'. A law counts once. -/
mutual
def uptoBulk {H : Type} : DataW H → Nat
  | .lit (.string bytes) => bytes.length + 1
  | .lit _ => 1
  | .nil => 1
  | .ptr d => uptoBulk d + 1
  | .slice elems spare => uptoBulkAll elems + uptoBulkAll spare + 1
  | .agg parts => uptoBulkAll parts + 1
  | .iface _ d => uptoBulk d + 1
  | .map entries => uptoBulkEntries entries + 1
  | .held _ => 1
def uptoBulkAll {H : Type} : List (DataW H) → Nat
  | [] => 0
  | d :: r => uptoBulk d + uptoBulkAll r
def uptoBulkEntries {H : Type} : List (Lit × DataW H) → Nat
  | [] => 0
  | x :: r => uptoBulkEntry x + uptoBulkEntries r
def uptoBulkEntry {H : Type} : Lit × DataW H → Nat
  | (.string bytes, d) => bytes.length + uptoBulk d + 1
  | (_, d) => uptoBulk d + 1
 end
def uptoSmall : (H : Type) → List (DataW H) → Bool := fun _ ds => decide (uptoBulkAll ds ≤ 1048576)
def OpenSpec.upto (s : _root_.Go.ChangeSpec) : _root_.Go.OpenSpec := { _root_.Go.OpenSpec.ofChange s with cond := some uptoSmall }

/-- 'novationlaw24.AmendForce', WHERE WHAT IT READS IS OF BULK AT MOST 1048576: true; the input reads as it did. -/
def amendForceUptoRow : OpenClaim := { program := "ytihplbclhhhgdaagreatdoor", sum := "0a1876b2f90e53aa700ffdd2d13775ab1c580daf0ae00ce7ca9b356c582d411a", func := "novation/novationlaw24.AmendForce", spec := "amendForce", inPlace := ["internal/bytealg.IndexByteString", "internal/bytealg.IndexString"], unfollowed := true, recurses := true, named := ["novation/contract.parts", "novation/observable.shapes", "internal/bytealg.MaxLen", "novation/observable.operations"], loops := true, apart := false, laid := [("novation/observable.shapes", laid_novation_observable_shapes), ("novation/observable.operations", laid_novation_observable_operations), ("novation/contract.parts", laid_novation_contract_parts)], narrowed := true }
def AmendForceUptoSaid : Prop := amendForceUptoRow.holds Tryz.pinned (OpenSpec.upto amendForceSpec)

/-- 'novationlaw24.AmendUndoes', WHERE WHAT IT READS IS OF BULK AT MOST 1048576: true; the input reads as it did. -/
def amendUndoesUptoRow : OpenClaim := { program := "ytihplbclhhhgdaagreatdoor", sum := "0a1876b2f90e53aa700ffdd2d13775ab1c580daf0ae00ce7ca9b356c582d411a", func := "novation/novationlaw24.AmendUndoes", spec := "amendUndoes", inPlace := ["internal/bytealg.IndexByteString", "internal/bytealg.IndexString"], unfollowed := true, recurses := true, named := ["novation/contract.parts", "novation/observable.shapes", "internal/bytealg.MaxLen", "novation/observable.operations"], loops := true, apart := false, laid := [("novation/observable.shapes", laid_novation_observable_shapes), ("novation/observable.operations", laid_novation_observable_operations), ("novation/contract.parts", laid_novation_contract_parts)], narrowed := true }
def AmendUndoesUptoSaid : Prop := amendUndoesUptoRow.holds Tryz.pinned (OpenSpec.upto amendUndoesSpec)

/-- 'novationlaw24.AmendSplits', WHERE WHAT IT READS IS OF BULK AT MOST 1048576: true; the input reads as it did. -/
def amendSplitsUptoRow : OpenClaim := { program := "ytihplbclhhhgdaagreatdoor", sum := "0a1876b2f90e53aa700ffdd2d13775ab1c580daf0ae00ce7ca9b356c582d411a", func := "novation/novationlaw24.AmendSplits", spec := "amendSplits", inPlace := ["internal/bytealg.IndexByteString", "internal/bytealg.IndexString"], unfollowed := true, recurses := true, named := ["novation/contract.parts", "novation/observable.shapes", "internal/bytealg.MaxLen", "novation/observable.operations"], loops := true, apart := false, laid := [("novation/observable.shapes", laid_novation_observable_shapes), ("novation/observable.operations", laid_novation_observable_operations), ("novation/contract.parts", laid_novation_contract_parts)], narrowed := true }
def AmendSplitsUptoSaid : Prop := amendSplitsUptoRow.holds Tryz.pinned (OpenSpec.upto amendSplitsSpec)

/-- 'novationlaw24.AmendStops', WHERE WHAT IT READS IS OF BULK AT MOST 1048576: true; the input reads as it did. -/
def amendStopsUptoRow : OpenClaim := { program := "ytihplbclhhhgdaagreatdoor", sum := "0a1876b2f90e53aa700ffdd2d13775ab1c580daf0ae00ce7ca9b356c582d411a", func := "novation/novationlaw24.AmendStops", spec := "amendStops", inPlace := ["internal/bytealg.IndexByteString", "internal/bytealg.IndexString"], unfollowed := true, recurses := true, named := ["novation/contract.parts", "novation/observable.shapes", "internal/bytealg.MaxLen", "novation/observable.operations"], loops := true, apart := false, laid := [("novation/observable.shapes", laid_novation_observable_shapes), ("novation/observable.operations", laid_novation_observable_operations), ("novation/contract.parts", laid_novation_contract_parts)], narrowed := true }
def AmendStopsUptoSaid : Prop := amendStopsUptoRow.holds Tryz.pinned (OpenSpec.upto amendStopsSpec)

/-- 'novationlaw24.AmendTells', WHERE WHAT IT READS IS OF BULK AT MOST 1048576: true; the input reads as it did. -/
def amendTellsUptoRow : OpenClaim := { program := "ytihplbclhhhgdaagreatdoor", sum := "0a1876b2f90e53aa700ffdd2d13775ab1c580daf0ae00ce7ca9b356c582d411a", func := "novation/novationlaw24.AmendTells", spec := "amendTells", inPlace := ["internal/bytealg.IndexByteString", "internal/bytealg.IndexString"], unfollowed := true, recurses := true, named := ["novation/contract.parts", "novation/observable.shapes", "internal/bytealg.MaxLen", "novation/observable.operations"], loops := true, apart := false, laid := [("novation/observable.shapes", laid_novation_observable_shapes), ("novation/observable.operations", laid_novation_observable_operations), ("novation/contract.parts", laid_novation_contract_parts)], narrowed := true }
def AmendTellsUptoSaid : Prop := amendTellsUptoRow.holds Tryz.pinned (OpenSpec.upto amendTellsSpec)

/-- 'novationlaw24.AmendNames', WHERE WHAT IT READS IS OF BULK AT MOST 1048576: true; the input reads as it did. -/
def amendNamesUptoRow : OpenClaim := { program := "ytihplbclhhhgdaagreatdoor", sum := "0a1876b2f90e53aa700ffdd2d13775ab1c580daf0ae00ce7ca9b356c582d411a", func := "novation/novationlaw24.AmendNames", spec := "amendNames", inPlace := ["internal/bytealg.IndexByteString", "internal/bytealg.IndexString"], unfollowed := true, recurses := true, named := ["novation/contract.parts", "novation/observable.shapes", "internal/bytealg.MaxLen", "novation/observable.operations"], apart := false, laid := [("novation/observable.shapes", laid_novation_observable_shapes), ("novation/observable.operations", laid_novation_observable_operations), ("novation/contract.parts", laid_novation_contract_parts)], narrowed := true }
def AmendNamesUptoSaid : Prop := amendNamesUptoRow.holds Tryz.pinned (OpenSpec.upto amendNamesSpec)

end Rows
end Go.Proofs.YtihplbclhhhgdaaGreatDoor
