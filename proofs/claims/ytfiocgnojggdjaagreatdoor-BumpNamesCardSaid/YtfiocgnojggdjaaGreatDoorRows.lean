/-
  NARROWER THAN 'FOR EVERY INPUT', by the rows' own cells (each row's printed sentence says how): BumpTapes: loops, laid · BumpRecords: loops, laid · BumpNames: laid.
  DERIVED. THE GIVEN ROWS OF THIS SEAT. 3 by the template 'for every input the law returns true; each argument reads behind the call as it read before'; 0 by the template 'total and deterministic' (their statements: YtfiocgnojggdjaaGreatDoorTotals.lean).
  GIVEN WITH THE SEED: the statements are not yours to turn. If you find one false, say at which input.
  Laid BY PROGRAM, IN A SANDBOX (cutbox-rows.mjs): the forced cells as the released guide's own fill.sh prints them over the translation 97774ee0b5a9331b… (all of the seat's roots in one cut). By AI agents, Wed Nov 11 2026. No macro, syntax, notation, axiom, sorry.
-/
import Derived.Test.YtfiocgnojggdjaaGreatDoorChecked
import GoSem.Claim
import GoSem.ClaimJoined
import GoSem.ClaimMapViews
import Derived.JoinedTies
import Derived.KernelRfl
namespace Go.Proofs.YtfiocgnojggdjaaGreatDoor
/- THE CELL 'sum', in the pinned program and in every row, IS THE sha256 OF THE DUMP (.gsa) THAT YtfiocgnojggdjaaGreatDoorProg.lean LOADS. Nothing in Lean hashes anything: it is a label: what it is worth is what the hold of that sum in a sandbox is worth. -/
noncomputable def Tryz.pinned : Pinned := { name := "ytfiocgnojggdjaagreatdoor", sum := "97774ee0b5a9331bc60c8224edeecc0d74f2accfa55ddd76b81f6f432e46bae0", checked := Tryz.checked }
namespace Rows
def none {H : Type} : Left H := { results := [], args := [] }

/- WHAT THE LISTED PACKAGE-LEVEL VARIABLES READ AS WHEN THE CALL BEGINS. Each datum BY PROGRAM (the guide's laid-datum.mjs) off the statement by which the dump's own 'gosem.cut.vars' lays the variable. In a bare row this is a premise. The card (YtfiocgnojggdjaaGreatDoorCards.lean) ties it to the program's text. -/
def laid_novation_observable_shapes {H : Type} : DataW H := .map [(.int .u8 4, .agg [.slice [.lit (.int .u8 1), .lit (.int .u8 1)] [], .lit (.int .u8 1)]), (.int .u8 5, .agg [.slice [.lit (.int .u8 1), .lit (.int .u8 1)] [], .lit (.int .u8 1)]), (.int .u8 6, .agg [.slice [.lit (.int .u8 1), .lit (.int .u8 1)] [], .lit (.int .u8 1)]), (.int .u8 7, .agg [.slice [.lit (.int .u8 1), .lit (.int .u8 1)] [], .lit (.int .u8 1)]), (.int .u8 8, .agg [.slice [.lit (.int .u8 1), .lit (.int .u8 1)] [], .lit (.int .u8 1)]), (.int .u8 9, .agg [.slice [.lit (.int .u8 2), .lit (.int .u8 1), .lit (.int .u8 1)] [], .lit (.int .u8 1)]), (.int .u8 11, .agg [.slice [.lit (.int .u8 1), .lit (.int .u8 1)] [], .lit (.int .u8 2)]), (.int .u8 12, .agg [.slice [.lit (.int .u8 1), .lit (.int .u8 1)] [], .lit (.int .u8 2)]), (.int .u8 13, .agg [.slice [.lit (.int .u8 2), .lit (.int .u8 2)] [], .lit (.int .u8 2)]), (.int .u8 14, .agg [.slice [.lit (.int .u8 2), .lit (.int .u8 2)] [], .lit (.int .u8 2)]), (.int .u8 15, .agg [.slice [.lit (.int .u8 2)] [], .lit (.int .u8 2)])]
def laid_novation_observable_operations {H : Type} : DataW H := .iface "func table" (.map [(.int .u8 4, .iface "func" (.lit (.string [40, 42, 110, 111, 118, 97, 116, 105, 111, 110, 47, 111, 98, 115, 101, 114, 118, 97, 98, 108, 101, 46, 115, 116, 97, 116, 101, 41, 46, 97, 100, 100]))), (.int .u8 5, .iface "func" (.lit (.string [40, 42, 110, 111, 118, 97, 116, 105, 111, 110, 47, 111, 98, 115, 101, 114, 118, 97, 98, 108, 101, 46, 115, 116, 97, 116, 101, 41, 46, 115, 117, 98]))), (.int .u8 6, .iface "func" (.lit (.string [40, 42, 110, 111, 118, 97, 116, 105, 111, 110, 47, 111, 98, 115, 101, 114, 118, 97, 98, 108, 101, 46, 115, 116, 97, 116, 101, 41, 46, 109, 117, 108]))), (.int .u8 7, .iface "func" (.lit (.string [40, 42, 110, 111, 118, 97, 116, 105, 111, 110, 47, 111, 98, 115, 101, 114, 118, 97, 98, 108, 101, 46, 115, 116, 97, 116, 101, 41, 46, 103, 114, 101, 97, 116, 101, 114]))), (.int .u8 8, .iface "func" (.lit (.string [40, 42, 110, 111, 118, 97, 116, 105, 111, 110, 47, 111, 98, 115, 101, 114, 118, 97, 98, 108, 101, 46, 115, 116, 97, 116, 101, 41, 46, 115, 109, 97, 108, 108, 101, 114])))])

/-- 'novationlaw30.BumpTapes': WHATEVER THE INPUT: true; the input reads as it did. -/
def bumpTapesSpec : ChangeSpec := { name := "bumpTapes", fn := fun _ => fun
  | [d1, d2, d3] => { results := [.lit (.bool true)], args := [d1, d2, d3] }
  | _ => none }
def bumpTapesRow : OpenClaim := { program := "ytfiocgnojggdjaagreatdoor", sum := "97774ee0b5a9331bc60c8224edeecc0d74f2accfa55ddd76b81f6f432e46bae0", func := "novation/novationlaw30.BumpTapes", spec := "bumpTapes", inPlace := ["internal/bytealg.IndexByteString", "internal/bytealg.IndexString"], unfollowed := true, recurses := true, named := ["novation/observable.shapes", "internal/bytealg.MaxLen", "novation/observable.operations"], loops := true, plainKeys := false, apart := false, laid := [("novation/observable.shapes", laid_novation_observable_shapes), ("novation/observable.operations", laid_novation_observable_operations)] }
def BumpTapesSaid : Prop := bumpTapesRow.holds Tryz.pinned (OpenSpec.ofChange bumpTapesSpec)

/-- ITS FALSE NEIGHBOUR: 'it returns false'. Refute it at one input. -/
def bumpTapesWrong : ChangeSpec := { name := "bumpTapes", fn := fun _ => fun
  | [d1, d2, d3] => { results := [.lit (.bool false)], args := [d1, d2, d3] }
  | _ => none }
def BumpTapesWrongFalsely : Prop := bumpTapesRow.holds Tryz.pinned (OpenSpec.ofChange bumpTapesWrong)

/-- 'novationlaw30.BumpRecords': WHATEVER THE INPUT: true; the input reads as it did. -/
def bumpRecordsSpec : ChangeSpec := { name := "bumpRecords", fn := fun _ => fun
  | [d1, d2, d3] => { results := [.lit (.bool true)], args := [d1, d2, d3] }
  | _ => none }
def bumpRecordsRow : OpenClaim := { program := "ytfiocgnojggdjaagreatdoor", sum := "97774ee0b5a9331bc60c8224edeecc0d74f2accfa55ddd76b81f6f432e46bae0", func := "novation/novationlaw30.BumpRecords", spec := "bumpRecords", inPlace := ["internal/bytealg.IndexByteString", "internal/bytealg.IndexString"], unfollowed := true, recurses := true, named := ["internal/bytealg.MaxLen", "novation/observable.shapes", "novation/observable.operations"], loops := true, plainKeys := false, apart := false, laid := [("novation/observable.shapes", laid_novation_observable_shapes), ("novation/observable.operations", laid_novation_observable_operations)] }
def BumpRecordsSaid : Prop := bumpRecordsRow.holds Tryz.pinned (OpenSpec.ofChange bumpRecordsSpec)

/-- ITS FALSE NEIGHBOUR: 'it returns false'. Refute it at one input. -/
def bumpRecordsWrong : ChangeSpec := { name := "bumpRecords", fn := fun _ => fun
  | [d1, d2, d3] => { results := [.lit (.bool false)], args := [d1, d2, d3] }
  | _ => none }
def BumpRecordsWrongFalsely : Prop := bumpRecordsRow.holds Tryz.pinned (OpenSpec.ofChange bumpRecordsWrong)

/-- 'novationlaw30.BumpNames': WHATEVER THE INPUT: true; the input reads as it did. -/
def bumpNamesSpec : ChangeSpec := { name := "bumpNames", fn := fun _ => fun
  | [] => { results := [.lit (.bool true)], args := [] }
  | _ => none }
def bumpNamesRow : OpenClaim := { program := "ytfiocgnojggdjaagreatdoor", sum := "97774ee0b5a9331bc60c8224edeecc0d74f2accfa55ddd76b81f6f432e46bae0", func := "novation/novationlaw30.BumpNames", spec := "bumpNames", inPlace := ["internal/bytealg.IndexByteString", "internal/bytealg.IndexString"], unfollowed := true, recurses := true, named := ["internal/bytealg.MaxLen", "novation/observable.shapes", "novation/observable.operations"], plainKeys := false, apart := false, laid := [("novation/observable.shapes", laid_novation_observable_shapes), ("novation/observable.operations", laid_novation_observable_operations)] }
def BumpNamesSaid : Prop := bumpNamesRow.holds Tryz.pinned (OpenSpec.ofChange bumpNamesSpec)

/-- ITS FALSE NEIGHBOUR: 'it returns false'. Refute it at one input. -/
def bumpNamesWrong : ChangeSpec := { name := "bumpNames", fn := fun _ => fun
  | [] => { results := [.lit (.bool false)], args := [] }
  | _ => none }
def BumpNamesWrongFalsely : Prop := bumpNamesRow.holds Tryz.pinned (OpenSpec.ofChange bumpNamesWrong)

/- THE SECOND FORM. 'bulk': how many values and letters a reading holds, each counted each time it is reached (what is shared counts as often as it is met; a slice's spare places count too). A statement '..UptoSaid' is the law's where the arguments, and the package variables that the reading takes, are together of bulk at most 1048576: NARROWER than '..Said'. Prove '..Said' where nothing that the law and all that it calls make is longer than what came in: it says more and counts as full. Else prove '..UptoSaid'. A law counts once. -/
mutual
def uptoBulk {H : Type} : DataW H → Nat
  | .lit (.string bytes) => bytes.length + 1
  | .lit _ => 1
  | .nil => 1
  | .ptr d => uptoBulk d + 1
  | .slice elems spare => uptoBulkAll elems + uptoBulkAll spare + 1
  | .agg parts => uptoBulkAll parts + 1
  | .iface _ d => uptoBulk d + 1
  | .map entries => uptoBulkEntries entries + 1
  | .held _ => 1
def uptoBulkAll {H : Type} : List (DataW H) → Nat
  | [] => 0
  | d :: r => uptoBulk d + uptoBulkAll r
def uptoBulkEntries {H : Type} : List (Lit × DataW H) → Nat
  | [] => 0
  | x :: r => uptoBulkEntry x + uptoBulkEntries r
def uptoBulkEntry {H : Type} : Lit × DataW H → Nat
  | (.string bytes, d) => bytes.length + uptoBulk d + 1
  | (_, d) => uptoBulk d + 1
 end
def uptoSmall : (H : Type) → List (DataW H) → Bool := fun _ ds => decide (uptoBulkAll ds ≤ 1048576)
def OpenSpec.upto (s : _root_.Go.ChangeSpec) : _root_.Go.OpenSpec := { _root_.Go.OpenSpec.ofChange s with cond := some uptoSmall }

/-- 'novationlaw30.BumpTapes', WHERE WHAT IT READS IS OF BULK AT MOST 1048576: true; the input reads as it did. -/
def bumpTapesUptoRow : OpenClaim := { program := "ytfiocgnojggdjaagreatdoor", sum := "97774ee0b5a9331bc60c8224edeecc0d74f2accfa55ddd76b81f6f432e46bae0", func := "novation/novationlaw30.BumpTapes", spec := "bumpTapes", inPlace := ["internal/bytealg.IndexByteString", "internal/bytealg.IndexString"], unfollowed := true, recurses := true, named := ["novation/observable.shapes", "internal/bytealg.MaxLen", "novation/observable.operations"], loops := true, plainKeys := false, apart := false, laid := [("novation/observable.shapes", laid_novation_observable_shapes), ("novation/observable.operations", laid_novation_observable_operations)], narrowed := true }
def BumpTapesUptoSaid : Prop := bumpTapesUptoRow.holds Tryz.pinned (OpenSpec.upto bumpTapesSpec)

/-- 'novationlaw30.BumpRecords', WHERE WHAT IT READS IS OF BULK AT MOST 1048576: true; the input reads as it did. -/
def bumpRecordsUptoRow : OpenClaim := { program := "ytfiocgnojggdjaagreatdoor", sum := "97774ee0b5a9331bc60c8224edeecc0d74f2accfa55ddd76b81f6f432e46bae0", func := "novation/novationlaw30.BumpRecords", spec := "bumpRecords", inPlace := ["internal/bytealg.IndexByteString", "internal/bytealg.IndexString"], unfollowed := true, recurses := true, named := ["internal/bytealg.MaxLen", "novation/observable.shapes", "novation/observable.operations"], loops := true, plainKeys := false, apart := false, laid := [("novation/observable.shapes", laid_novation_observable_shapes), ("novation/observable.operations", laid_novation_observable_operations)], narrowed := true }
def BumpRecordsUptoSaid : Prop := bumpRecordsUptoRow.holds Tryz.pinned (OpenSpec.upto bumpRecordsSpec)

/-- 'novationlaw30.BumpNames', WHERE WHAT IT READS IS OF BULK AT MOST 1048576: true; the input reads as it did. -/
def bumpNamesUptoRow : OpenClaim := { program := "ytfiocgnojggdjaagreatdoor", sum := "97774ee0b5a9331bc60c8224edeecc0d74f2accfa55ddd76b81f6f432e46bae0", func := "novation/novationlaw30.BumpNames", spec := "bumpNames", inPlace := ["internal/bytealg.IndexByteString", "internal/bytealg.IndexString"], unfollowed := true, recurses := true, named := ["internal/bytealg.MaxLen", "novation/observable.shapes", "novation/observable.operations"], plainKeys := false, apart := false, laid := [("novation/observable.shapes", laid_novation_observable_shapes), ("novation/observable.operations", laid_novation_observable_operations)], narrowed := true }
def BumpNamesUptoSaid : Prop := bumpNamesUptoRow.holds Tryz.pinned (OpenSpec.upto bumpNamesSpec)

end Rows
end Go.Proofs.YtfiocgnojggdjaaGreatDoor
