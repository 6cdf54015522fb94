/-
  NARROWER THAN 'FOR EVERY INPUT', by the rows' own cells (each row's printed sentence says how): CorporateValues: laid · CorporateGrows: loops, laid.
  DERIVED. THE GIVEN ROWS OF THIS SEAT. 2 by the template 'for every input the law returns true; each argument reads behind the call as it read before'; 0 by the template 'total and deterministic' (their statements: YtomonffoihofaaaGreatDoorTotals.lean).
  GIVEN WITH THE SEED: the statements are not yours to turn. If you find one false, say at which input.
  Laid BY PROGRAM, IN A SANDBOX (cutbox-rows.mjs): the forced cells as the released guide's own fill.sh prints them over the translation 4337957425a1cb75… (all of the seat's roots in one cut). By AI agents, Wed Nov 11 2026. No macro, syntax, notation, axiom, sorry.
-/
import Derived.Test.YtomonffoihofaaaGreatDoorChecked
import GoSem.Claim
import GoSem.ClaimJoined
import GoSem.ClaimMapViews
import Derived.JoinedTies
import Derived.KernelRfl
namespace Go.Proofs.YtomonffoihofaaaGreatDoor
/- THE CELL 'sum', in the pinned program and in every row, IS THE sha256 OF THE DUMP (.gsa) THAT YtomonffoihofaaaGreatDoorProg.lean LOADS. Nothing in Lean hashes anything: it is a label: what it is worth is what the hold of that sum in a sandbox is worth. -/
noncomputable def Tryz.pinned : Pinned := { name := "ytomonffoihofaaagreatdoor", sum := "4337957425a1cb752c680f4945d9e45f3be4673a613ad246120a420edbcf1416", checked := Tryz.checked }
namespace Rows
def none {H : Type} : Left H := { results := [], args := [] }

/- WHAT THE LISTED PACKAGE-LEVEL VARIABLES READ AS WHEN THE CALL BEGINS. Each datum BY PROGRAM (the guide's laid-datum.mjs) off the statement by which the dump's own 'gosem.cut.vars' lays the variable. In a bare row this is a premise. The card (YtomonffoihofaaaGreatDoorCards.lean) ties it to the program's text. -/
def laid_novation_observable_shapes {H : Type} : DataW H := .map [(.int .u8 4, .agg [.slice [.lit (.int .u8 1), .lit (.int .u8 1)] [], .lit (.int .u8 1)]), (.int .u8 5, .agg [.slice [.lit (.int .u8 1), .lit (.int .u8 1)] [], .lit (.int .u8 1)]), (.int .u8 6, .agg [.slice [.lit (.int .u8 1), .lit (.int .u8 1)] [], .lit (.int .u8 1)]), (.int .u8 7, .agg [.slice [.lit (.int .u8 1), .lit (.int .u8 1)] [], .lit (.int .u8 1)]), (.int .u8 8, .agg [.slice [.lit (.int .u8 1), .lit (.int .u8 1)] [], .lit (.int .u8 1)]), (.int .u8 9, .agg [.slice [.lit (.int .u8 2), .lit (.int .u8 1), .lit (.int .u8 1)] [], .lit (.int .u8 1)]), (.int .u8 11, .agg [.slice [.lit (.int .u8 1), .lit (.int .u8 1)] [], .lit (.int .u8 2)]), (.int .u8 12, .agg [.slice [.lit (.int .u8 1), .lit (.int .u8 1)] [], .lit (.int .u8 2)]), (.int .u8 13, .agg [.slice [.lit (.int .u8 2), .lit (.int .u8 2)] [], .lit (.int .u8 2)]), (.int .u8 14, .agg [.slice [.lit (.int .u8 2), .lit (.int .u8 2)] [], .lit (.int .u8 2)]), (.int .u8 15, .agg [.slice [.lit (.int .u8 2)] [], .lit (.int .u8 2)])]

/-- 'novationlaw22.CorporateValues': WHATEVER THE INPUT: true; the input reads as it did. -/
def corporateValuesSpec : ChangeSpec := { name := "corporateValues", fn := fun _ => fun
  | [d1, d2, d3, d4] => { results := [.lit (.bool true)], args := [d1, d2, d3, d4] }
  | _ => none }
def corporateValuesRow : OpenClaim := { program := "ytomonffoihofaaagreatdoor", sum := "4337957425a1cb752c680f4945d9e45f3be4673a613ad246120a420edbcf1416", func := "novation/novationlaw22.CorporateValues", spec := "corporateValues", inPlace := ["internal/bytealg.IndexByteString", "internal/bytealg.IndexString", "slices.overlaps[novation/api.Fixing]"], unfollowed := true, recurses := true, named := ["internal/bytealg.MaxLen", "novation/observable.shapes"], apart := false, laid := [("novation/observable.shapes", laid_novation_observable_shapes)] }
def CorporateValuesSaid : Prop := corporateValuesRow.holds Tryz.pinned (OpenSpec.ofChange corporateValuesSpec)

/-- ITS FALSE NEIGHBOUR: 'it returns false'. Refute it at one input. -/
def corporateValuesWrong : ChangeSpec := { name := "corporateValues", fn := fun _ => fun
  | [d1, d2, d3, d4] => { results := [.lit (.bool false)], args := [d1, d2, d3, d4] }
  | _ => none }
def CorporateValuesWrongFalsely : Prop := corporateValuesRow.holds Tryz.pinned (OpenSpec.ofChange corporateValuesWrong)

/-- 'novationlaw22.CorporateGrows': WHATEVER THE INPUT: true; the input reads as it did. -/
def corporateGrowsSpec : ChangeSpec := { name := "corporateGrows", fn := fun _ => fun
  | [d1, d2] => { results := [.lit (.bool true)], args := [d1, d2] }
  | _ => none }
def corporateGrowsRow : OpenClaim := { program := "ytomonffoihofaaagreatdoor", sum := "4337957425a1cb752c680f4945d9e45f3be4673a613ad246120a420edbcf1416", func := "novation/novationlaw22.CorporateGrows", spec := "corporateGrows", inPlace := ["internal/bytealg.IndexByteString", "internal/bytealg.IndexString", "slices.overlaps[novation/api.Fixing]"], unfollowed := true, recurses := true, named := ["internal/bytealg.MaxLen", "novation/observable.shapes"], loops := true, apart := false, laid := [("novation/observable.shapes", laid_novation_observable_shapes)] }
def CorporateGrowsSaid : Prop := corporateGrowsRow.holds Tryz.pinned (OpenSpec.ofChange corporateGrowsSpec)

/-- ITS FALSE NEIGHBOUR: 'it returns false'. Refute it at one input. -/
def corporateGrowsWrong : ChangeSpec := { name := "corporateGrows", fn := fun _ => fun
  | [d1, d2] => { results := [.lit (.bool false)], args := [d1, d2] }
  | _ => none }
def CorporateGrowsWrongFalsely : Prop := corporateGrowsRow.holds Tryz.pinned (OpenSpec.ofChange corporateGrowsWrong)

/- THE SECOND FORM. 'bulk': how many values and letters a reading holds, each counted each time it is reached (what is shared counts as often as it is met; a slice's spare places count too). A statement '..UptoSaid' is the law's where the arguments, and the package variables that the reading takes, are together of bulk at most 1048576: NARROWER than '..Said'. Prove '..Said' where nothing that the law and all that it calls make is longer than what came in: it says more and counts as full. Else prove '..UptoSaid'. A law counts once. -/
mutual
def uptoBulk {H : Type} : DataW H → Nat
  | .lit (.string bytes) => bytes.length + 1
  | .lit _ => 1
  | .nil => 1
  | .ptr d => uptoBulk d + 1
  | .slice elems spare => uptoBulkAll elems + uptoBulkAll spare + 1
  | .agg parts => uptoBulkAll parts + 1
  | .iface _ d => uptoBulk d + 1
  | .map entries => uptoBulkEntries entries + 1
  | .held _ => 1
def uptoBulkAll {H : Type} : List (DataW H) → Nat
  | [] => 0
  | d :: r => uptoBulk d + uptoBulkAll r
def uptoBulkEntries {H : Type} : List (Lit × DataW H) → Nat
  | [] => 0
  | x :: r => uptoBulkEntry x + uptoBulkEntries r
def uptoBulkEntry {H : Type} : Lit × DataW H → Nat
  | (.string bytes, d) => bytes.length + uptoBulk d + 1
  | (_, d) => uptoBulk d + 1
 end
def uptoSmall : (H : Type) → List (DataW H) → Bool := fun _ ds => decide (uptoBulkAll ds ≤ 1048576)
def OpenSpec.upto (s : _root_.Go.ChangeSpec) : _root_.Go.OpenSpec := { _root_.Go.OpenSpec.ofChange s with cond := some uptoSmall }

/-- 'novationlaw22.CorporateValues', WHERE WHAT IT READS IS OF BULK AT MOST 1048576: true; the input reads as it did. -/
def corporateValuesUptoRow : OpenClaim := { program := "ytomonffoihofaaagreatdoor", sum := "4337957425a1cb752c680f4945d9e45f3be4673a613ad246120a420edbcf1416", func := "novation/novationlaw22.CorporateValues", spec := "corporateValues", inPlace := ["internal/bytealg.IndexByteString", "internal/bytealg.IndexString", "slices.overlaps[novation/api.Fixing]"], unfollowed := true, recurses := true, named := ["internal/bytealg.MaxLen", "novation/observable.shapes"], apart := false, laid := [("novation/observable.shapes", laid_novation_observable_shapes)], narrowed := true }
def CorporateValuesUptoSaid : Prop := corporateValuesUptoRow.holds Tryz.pinned (OpenSpec.upto corporateValuesSpec)

/-- 'novationlaw22.CorporateGrows', WHERE WHAT IT READS IS OF BULK AT MOST 1048576: true; the input reads as it did. -/
def corporateGrowsUptoRow : OpenClaim := { program := "ytomonffoihofaaagreatdoor", sum := "4337957425a1cb752c680f4945d9e45f3be4673a613ad246120a420edbcf1416", func := "novation/novationlaw22.CorporateGrows", spec := "corporateGrows", inPlace := ["internal/bytealg.IndexByteString", "internal/bytealg.IndexString", "slices.overlaps[novation/api.Fixing]"], unfollowed := true, recurses := true, named := ["internal/bytealg.MaxLen", "novation/observable.shapes"], loops := true, apart := false, laid := [("novation/observable.shapes", laid_novation_observable_shapes)], narrowed := true }
def CorporateGrowsUptoSaid : Prop := corporateGrowsUptoRow.holds Tryz.pinned (OpenSpec.upto corporateGrowsSpec)

end Rows
end Go.Proofs.YtomonffoihofaaaGreatDoor
