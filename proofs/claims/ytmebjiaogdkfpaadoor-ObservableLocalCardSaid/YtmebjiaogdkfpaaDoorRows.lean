/-
  NARROWER THAN 'FOR EVERY INPUT', by the rows' own cells (each row's printed sentence says how): ObservableLocal: loops, laid · ObservableLogic: loops, laid · ObservablePuts: laid · ObservableNames: laid.
  DERIVED. THE GIVEN ROWS OF THIS SEAT. 4 by the template 'for every input the law returns true; each argument reads behind the call as it read before'; 0 by the template 'total and deterministic' (their statements: YtmebjiaogdkfpaaDoorTotals.lean).
  GIVEN WITH THE SEED: the statements are not yours to turn. If you find one false, say at which input.
  Laid BY PROGRAM, IN A SANDBOX (cutbox-rows.mjs): the forced cells as the released guide's own fill.sh prints them over the translation 5ea2db73873ce82b… (all of the seat's roots in one cut). By AI agents, Wed Nov 11 2026. No macro, syntax, notation, axiom, sorry.
-/
import Derived.Test.YtmebjiaogdkfpaaDoorChecked
import GoSem.Claim
import GoSem.ClaimJoined
import GoSem.ClaimMapViews
import Derived.JoinedTies
import Derived.KernelRfl
namespace Go.Proofs.YtmebjiaogdkfpaaDoor
/- THE CELL 'sum', in the pinned program and in every row, IS THE sha256 OF THE DUMP (.gsa) THAT YtmebjiaogdkfpaaDoorProg.lean LOADS. Nothing in Lean hashes anything: it is a label: what it is worth is what the hold of that sum in a sandbox is worth. -/
noncomputable def Tryd.pinned : Pinned := { name := "ytmebjiaogdkfpaadoor", sum := "5ea2db73873ce82bdb6eee6a9cb1d389abc1e505d736f7dca6f63bb70014b78b", checked := Tryd.checked }
namespace Rows
def none {H : Type} : Left H := { results := [], args := [] }

/- WHAT THE LISTED PACKAGE-LEVEL VARIABLES READ AS WHEN THE CALL BEGINS. Each datum BY PROGRAM (the guide's laid-datum.mjs) off the statement by which the dump's own 'gosem.cut.vars' lays the variable. In a bare row this is a premise. The card (YtmebjiaogdkfpaaDoorCards.lean) ties it to the program's text. -/
def laid_novation_observable_shapes {H : Type} : DataW H := .map [(.int .u8 4, .agg [.slice [.lit (.int .u8 1), .lit (.int .u8 1)] [], .lit (.int .u8 1)]), (.int .u8 5, .agg [.slice [.lit (.int .u8 1), .lit (.int .u8 1)] [], .lit (.int .u8 1)]), (.int .u8 6, .agg [.slice [.lit (.int .u8 1), .lit (.int .u8 1)] [], .lit (.int .u8 1)]), (.int .u8 7, .agg [.slice [.lit (.int .u8 1), .lit (.int .u8 1)] [], .lit (.int .u8 1)]), (.int .u8 8, .agg [.slice [.lit (.int .u8 1), .lit (.int .u8 1)] [], .lit (.int .u8 1)]), (.int .u8 9, .agg [.slice [.lit (.int .u8 2), .lit (.int .u8 1), .lit (.int .u8 1)] [], .lit (.int .u8 1)]), (.int .u8 11, .agg [.slice [.lit (.int .u8 1), .lit (.int .u8 1)] [], .lit (.int .u8 2)]), (.int .u8 12, .agg [.slice [.lit (.int .u8 1), .lit (.int .u8 1)] [], .lit (.int .u8 2)]), (.int .u8 13, .agg [.slice [.lit (.int .u8 2), .lit (.int .u8 2)] [], .lit (.int .u8 2)]), (.int .u8 14, .agg [.slice [.lit (.int .u8 2), .lit (.int .u8 2)] [], .lit (.int .u8 2)]), (.int .u8 15, .agg [.slice [.lit (.int .u8 2)] [], .lit (.int .u8 2)])]
def laid_novation_observable_operations {H : Type} : DataW H := .iface "func table" (.map [(.int .u8 4, .iface "func" (.lit (.string [40, 42, 110, 111, 118, 97, 116, 105, 111, 110, 47, 111, 98, 115, 101, 114, 118, 97, 98, 108, 101, 46, 115, 116, 97, 116, 101, 41, 46, 97, 100, 100]))), (.int .u8 5, .iface "func" (.lit (.string [40, 42, 110, 111, 118, 97, 116, 105, 111, 110, 47, 111, 98, 115, 101, 114, 118, 97, 98, 108, 101, 46, 115, 116, 97, 116, 101, 41, 46, 115, 117, 98]))), (.int .u8 6, .iface "func" (.lit (.string [40, 42, 110, 111, 118, 97, 116, 105, 111, 110, 47, 111, 98, 115, 101, 114, 118, 97, 98, 108, 101, 46, 115, 116, 97, 116, 101, 41, 46, 109, 117, 108]))), (.int .u8 7, .iface "func" (.lit (.string [40, 42, 110, 111, 118, 97, 116, 105, 111, 110, 47, 111, 98, 115, 101, 114, 118, 97, 98, 108, 101, 46, 115, 116, 97, 116, 101, 41, 46, 103, 114, 101, 97, 116, 101, 114]))), (.int .u8 8, .iface "func" (.lit (.string [40, 42, 110, 111, 118, 97, 116, 105, 111, 110, 47, 111, 98, 115, 101, 114, 118, 97, 98, 108, 101, 46, 115, 116, 97, 116, 101, 41, 46, 115, 109, 97, 108, 108, 101, 114])))])

/-- 'novationlaw08.ObservableLocal': WHATEVER THE INPUT: true; the input reads as it did. -/
def observableLocalSpec : ChangeSpec := { name := "observableLocal", fn := fun _ => fun
  | [d1, d2, d3, d4] => { results := [.lit (.bool true)], args := [d1, d2, d3, d4] }
  | _ => none }
def observableLocalRow : OpenClaim := { program := "ytmebjiaogdkfpaadoor", sum := "5ea2db73873ce82bdb6eee6a9cb1d389abc1e505d736f7dca6f63bb70014b78b", func := "novation/novationlaw08.ObservableLocal", spec := "observableLocal", inPlace := ["internal/bytealg.IndexByteString", "internal/bytealg.IndexString", "slices.overlaps[novation/api.Fixing]"], unfollowed := true, recurses := true, named := ["internal/bytealg.MaxLen", "novation/observable.shapes", "novation/observable.operations"], loops := true, apart := false, laid := [("novation/observable.shapes", laid_novation_observable_shapes), ("novation/observable.operations", laid_novation_observable_operations)] }
def ObservableLocalSaid : Prop := observableLocalRow.holds Tryd.pinned (OpenSpec.ofChange observableLocalSpec)

/-- ITS FALSE NEIGHBOUR: 'it returns false'. Refute it at one input. -/
def observableLocalWrong : ChangeSpec := { name := "observableLocal", fn := fun _ => fun
  | [d1, d2, d3, d4] => { results := [.lit (.bool false)], args := [d1, d2, d3, d4] }
  | _ => none }
def ObservableLocalWrongFalsely : Prop := observableLocalRow.holds Tryd.pinned (OpenSpec.ofChange observableLocalWrong)

/-- 'novationlaw08.ObservableLogic': WHATEVER THE INPUT: true; the input reads as it did. -/
def observableLogicSpec : ChangeSpec := { name := "observableLogic", fn := fun _ => fun
  | [d1, d2, d3, d4, d5, d6] => { results := [.lit (.bool true)], args := [d1, d2, d3, d4, d5, d6] }
  | _ => none }
def observableLogicRow : OpenClaim := { program := "ytmebjiaogdkfpaadoor", sum := "5ea2db73873ce82bdb6eee6a9cb1d389abc1e505d736f7dca6f63bb70014b78b", func := "novation/novationlaw08.ObservableLogic", spec := "observableLogic", inPlace := ["internal/bytealg.IndexByteString", "internal/bytealg.IndexString", "slices.overlaps[novation/api.Fixing]"], unfollowed := true, recurses := true, named := ["internal/bytealg.MaxLen", "novation/observable.shapes", "novation/observable.operations"], loops := true, apart := false, laid := [("novation/observable.shapes", laid_novation_observable_shapes), ("novation/observable.operations", laid_novation_observable_operations)] }
def ObservableLogicSaid : Prop := observableLogicRow.holds Tryd.pinned (OpenSpec.ofChange observableLogicSpec)

/-- ITS FALSE NEIGHBOUR: 'it returns false'. Refute it at one input. -/
def observableLogicWrong : ChangeSpec := { name := "observableLogic", fn := fun _ => fun
  | [d1, d2, d3, d4, d5, d6] => { results := [.lit (.bool false)], args := [d1, d2, d3, d4, d5, d6] }
  | _ => none }
def ObservableLogicWrongFalsely : Prop := observableLogicRow.holds Tryd.pinned (OpenSpec.ofChange observableLogicWrong)

/-- 'novationlaw08.ObservablePuts': WHATEVER THE INPUT: true; the input reads as it did. -/
def observablePutsSpec : ChangeSpec := { name := "observablePuts", fn := fun _ => fun
  | [d1, d2, d3, d4] => { results := [.lit (.bool true)], args := [d1, d2, d3, d4] }
  | _ => none }
def observablePutsRow : OpenClaim := { program := "ytmebjiaogdkfpaadoor", sum := "5ea2db73873ce82bdb6eee6a9cb1d389abc1e505d736f7dca6f63bb70014b78b", func := "novation/novationlaw08.ObservablePuts", spec := "observablePuts", inPlace := ["internal/bytealg.IndexByteString", "internal/bytealg.IndexString", "slices.overlaps[novation/api.Fixing]", "slices.overlaps[novation/api.Choice]"], unfollowed := true, recurses := true, named := ["internal/bytealg.MaxLen", "novation/observable.shapes", "novation/observable.operations"], apart := false, laid := [("novation/observable.shapes", laid_novation_observable_shapes), ("novation/observable.operations", laid_novation_observable_operations)] }
def ObservablePutsSaid : Prop := observablePutsRow.holds Tryd.pinned (OpenSpec.ofChange observablePutsSpec)

/-- ITS FALSE NEIGHBOUR: 'it returns false'. Refute it at one input. -/
def observablePutsWrong : ChangeSpec := { name := "observablePuts", fn := fun _ => fun
  | [d1, d2, d3, d4] => { results := [.lit (.bool false)], args := [d1, d2, d3, d4] }
  | _ => none }
def ObservablePutsWrongFalsely : Prop := observablePutsRow.holds Tryd.pinned (OpenSpec.ofChange observablePutsWrong)

/-- 'novationlaw08.ObservableNames': WHATEVER THE INPUT: true; the input reads as it did. -/
def observableNamesSpec : ChangeSpec := { name := "observableNames", fn := fun _ => fun
  | [] => { results := [.lit (.bool true)], args := [] }
  | _ => none }
def observableNamesRow : OpenClaim := { program := "ytmebjiaogdkfpaadoor", sum := "5ea2db73873ce82bdb6eee6a9cb1d389abc1e505d736f7dca6f63bb70014b78b", func := "novation/novationlaw08.ObservableNames", spec := "observableNames", inPlace := ["internal/bytealg.IndexByteString", "internal/bytealg.IndexString", "slices.overlaps[novation/api.Fixing]", "slices.overlaps[novation/api.Choice]"], unfollowed := true, recurses := true, named := ["novation/observable.shapes", "internal/bytealg.MaxLen", "novation/observable.operations"], apart := false, laid := [("novation/observable.shapes", laid_novation_observable_shapes), ("novation/observable.operations", laid_novation_observable_operations)] }
def ObservableNamesSaid : Prop := observableNamesRow.holds Tryd.pinned (OpenSpec.ofChange observableNamesSpec)

/-- ITS FALSE NEIGHBOUR: 'it returns false'. Refute it at one input. -/
def observableNamesWrong : ChangeSpec := { name := "observableNames", fn := fun _ => fun
  | [] => { results := [.lit (.bool false)], args := [] }
  | _ => none }
def ObservableNamesWrongFalsely : Prop := observableNamesRow.holds Tryd.pinned (OpenSpec.ofChange observableNamesWrong)

/- THE SECOND FORM. 'bulk': how many values and letters a reading holds, each counted each time it is reached (what is shared counts as often as it is met; a slice's spare places count too). A statement '..UptoSaid' is the law's where the arguments, and the package variables that the reading takes, are together of bulk at most 1048576: NARROWER than '..Said'. Prove '..Said' where nothing that the law and all that it calls make is longer than what came in: it says more and counts as full. Else prove '..UptoSaid'. A law counts once. -/
mutual
def uptoBulk {H : Type} : DataW H → Nat
  | .lit (.string bytes) => bytes.length + 1
  | .lit _ => 1
  | .nil => 1
  | .ptr d => uptoBulk d + 1
  | .slice elems spare => uptoBulkAll elems + uptoBulkAll spare + 1
  | .agg parts => uptoBulkAll parts + 1
  | .iface _ d => uptoBulk d + 1
  | .map entries => uptoBulkEntries entries + 1
  | .held _ => 1
def uptoBulkAll {H : Type} : List (DataW H) → Nat
  | [] => 0
  | d :: r => uptoBulk d + uptoBulkAll r
def uptoBulkEntries {H : Type} : List (Lit × DataW H) → Nat
  | [] => 0
  | x :: r => uptoBulkEntry x + uptoBulkEntries r
def uptoBulkEntry {H : Type} : Lit × DataW H → Nat
  | (.string bytes, d) => bytes.length + uptoBulk d + 1
  | (_, d) => uptoBulk d + 1
 end
def uptoSmall : (H : Type) → List (DataW H) → Bool := fun _ ds => decide (uptoBulkAll ds ≤ 1048576)
def OpenSpec.upto (s : _root_.Go.ChangeSpec) : _root_.Go.OpenSpec := { _root_.Go.OpenSpec.ofChange s with cond := some uptoSmall }

/-- 'novationlaw08.ObservableLocal', WHERE WHAT IT READS IS OF BULK AT MOST 1048576: true; the input reads as it did. -/
def observableLocalUptoRow : OpenClaim := { program := "ytmebjiaogdkfpaadoor", sum := "5ea2db73873ce82bdb6eee6a9cb1d389abc1e505d736f7dca6f63bb70014b78b", func := "novation/novationlaw08.ObservableLocal", spec := "observableLocal", inPlace := ["internal/bytealg.IndexByteString", "internal/bytealg.IndexString", "slices.overlaps[novation/api.Fixing]"], unfollowed := true, recurses := true, named := ["internal/bytealg.MaxLen", "novation/observable.shapes", "novation/observable.operations"], loops := true, apart := false, laid := [("novation/observable.shapes", laid_novation_observable_shapes), ("novation/observable.operations", laid_novation_observable_operations)], narrowed := true }
def ObservableLocalUptoSaid : Prop := observableLocalUptoRow.holds Tryd.pinned (OpenSpec.upto observableLocalSpec)

/-- 'novationlaw08.ObservableLogic', WHERE WHAT IT READS IS OF BULK AT MOST 1048576: true; the input reads as it did. -/
def observableLogicUptoRow : OpenClaim := { program := "ytmebjiaogdkfpaadoor", sum := "5ea2db73873ce82bdb6eee6a9cb1d389abc1e505d736f7dca6f63bb70014b78b", func := "novation/novationlaw08.ObservableLogic", spec := "observableLogic", inPlace := ["internal/bytealg.IndexByteString", "internal/bytealg.IndexString", "slices.overlaps[novation/api.Fixing]"], unfollowed := true, recurses := true, named := ["internal/bytealg.MaxLen", "novation/observable.shapes", "novation/observable.operations"], loops := true, apart := false, laid := [("novation/observable.shapes", laid_novation_observable_shapes), ("novation/observable.operations", laid_novation_observable_operations)], narrowed := true }
def ObservableLogicUptoSaid : Prop := observableLogicUptoRow.holds Tryd.pinned (OpenSpec.upto observableLogicSpec)

/-- 'novationlaw08.ObservablePuts', WHERE WHAT IT READS IS OF BULK AT MOST 1048576: true; the input reads as it did. -/
def observablePutsUptoRow : OpenClaim := { program := "ytmebjiaogdkfpaadoor", sum := "5ea2db73873ce82bdb6eee6a9cb1d389abc1e505d736f7dca6f63bb70014b78b", func := "novation/novationlaw08.ObservablePuts", spec := "observablePuts", inPlace := ["internal/bytealg.IndexByteString", "internal/bytealg.IndexString", "slices.overlaps[novation/api.Fixing]", "slices.overlaps[novation/api.Choice]"], unfollowed := true, recurses := true, named := ["internal/bytealg.MaxLen", "novation/observable.shapes", "novation/observable.operations"], apart := false, laid := [("novation/observable.shapes", laid_novation_observable_shapes), ("novation/observable.operations", laid_novation_observable_operations)], narrowed := true }
def ObservablePutsUptoSaid : Prop := observablePutsUptoRow.holds Tryd.pinned (OpenSpec.upto observablePutsSpec)

/-- 'novationlaw08.ObservableNames', WHERE WHAT IT READS IS OF BULK AT MOST 1048576: true; the input reads as it did. -/
def observableNamesUptoRow : OpenClaim := { program := "ytmebjiaogdkfpaadoor", sum := "5ea2db73873ce82bdb6eee6a9cb1d389abc1e505d736f7dca6f63bb70014b78b", func := "novation/novationlaw08.ObservableNames", spec := "observableNames", inPlace := ["internal/bytealg.IndexByteString", "internal/bytealg.IndexString", "slices.overlaps[novation/api.Fixing]", "slices.overlaps[novation/api.Choice]"], unfollowed := true, recurses := true, named := ["novation/observable.shapes", "internal/bytealg.MaxLen", "novation/observable.operations"], apart := false, laid := [("novation/observable.shapes", laid_novation_observable_shapes), ("novation/observable.operations", laid_novation_observable_operations)], narrowed := true }
def ObservableNamesUptoSaid : Prop := observableNamesUptoRow.holds Tryd.pinned (OpenSpec.upto observableNamesSpec)

end Rows
end Go.Proofs.YtmebjiaogdkfpaaDoor
