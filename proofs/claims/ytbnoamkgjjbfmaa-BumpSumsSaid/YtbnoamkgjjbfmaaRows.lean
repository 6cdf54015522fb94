/-
  No cell of these rows narrows 'for every input' (looked for: loops, veiled, ifaces, maps, wideKeys, modest, calm, conditions, laid).
  DERIVED. THE GIVEN ROWS OF THIS SEAT. 5 by the template 'for every input the law returns true; each argument reads behind the call as it read before'; 0 by the template 'total and deterministic' (their statements: YtbnoamkgjjbfmaaTotals.lean).
  GIVEN WITH THE SEED: the statements are not yours to turn. If you find one false, say at which input.
  Laid BY PROGRAM, IN A SANDBOX (cutbox-rows.mjs): the forced cells as the released guide's own fill.sh prints them over the translation 0f7ce229ba059f9f… (all of the seat's roots in one cut). By AI agents, Wed Nov 11 2026. No macro, syntax, notation, axiom, sorry.
-/
import Derived.Test.YtbnoamkgjjbfmaaChecked
import GoSem.Claim
import GoSem.ClaimJoined
import GoSem.ClaimMapViews
import Derived.JoinedTies
import Derived.KernelRfl
namespace Go.Proofs.Ytbnoamkgjjbfmaa
/- THE CELL 'sum', in the pinned program and in every row, IS THE sha256 OF THE DUMP (.gsa) THAT YtbnoamkgjjbfmaaProg.lean LOADS. Nothing in Lean hashes anything: it is a label: what it is worth is what the hold of that sum in a sandbox is worth. -/
noncomputable def Try.pinned : Pinned := { name := "ytbnoamkgjjbfmaa", sum := "0f7ce229ba059f9faf976ec86d5dc4f231e1c6fce4846784d7b118b74e36a1d4", checked := Try.checked }
namespace Rows
def none {H : Type} : Left H := { results := [], args := [] }

/-- 'novationlaw30.BumpRuns': WHATEVER THE INPUT: true; the input reads as it did. -/
def bumpRunsSpec : ChangeSpec := { name := "bumpRuns", fn := fun _ => fun
  | [d1, d2, d3] => { results := [.lit (.bool true)], args := [d1, d2, d3] }
  | _ => none }
def bumpRunsRow : OpenClaim := { program := "ytbnoamkgjjbfmaa", sum := "0f7ce229ba059f9faf976ec86d5dc4f231e1c6fce4846784d7b118b74e36a1d4", func := "novation/novationlaw30.BumpRuns", spec := "bumpRuns", inPlace := ["internal/bytealg.IndexByteString", "internal/bytealg.IndexString"], unfollowed := true, recurses := true, named := ["internal/bytealg.MaxLen"], apart := false }
def BumpRunsSaid : Prop := bumpRunsRow.holds Try.pinned (OpenSpec.ofChange bumpRunsSpec)

/-- ITS FALSE NEIGHBOUR: 'it returns false'. Refute it at one input. -/
def bumpRunsWrong : ChangeSpec := { name := "bumpRuns", fn := fun _ => fun
  | [d1, d2, d3] => { results := [.lit (.bool false)], args := [d1, d2, d3] }
  | _ => none }
def BumpRunsWrongFalsely : Prop := bumpRunsRow.holds Try.pinned (OpenSpec.ofChange bumpRunsWrong)

/-- 'novationlaw30.BumpSums': WHATEVER THE INPUT: true; the input reads as it did. -/
def bumpSumsSpec : ChangeSpec := { name := "bumpSums", fn := fun _ => fun
  | [d1, d2, d3, d4, d5] => { results := [.lit (.bool true)], args := [d1, d2, d3, d4, d5] }
  | _ => none }
def bumpSumsRow : OpenClaim := { program := "ytbnoamkgjjbfmaa", sum := "0f7ce229ba059f9faf976ec86d5dc4f231e1c6fce4846784d7b118b74e36a1d4", func := "novation/novationlaw30.BumpSums", spec := "bumpSums", inPlace := ["internal/bytealg.IndexByteString", "internal/bytealg.IndexString"], unfollowed := true, recurses := true, named := ["internal/bytealg.MaxLen"], apart := false }
def BumpSumsSaid : Prop := bumpSumsRow.holds Try.pinned (OpenSpec.ofChange bumpSumsSpec)

/-- ITS FALSE NEIGHBOUR: 'it returns false'. Refute it at one input. -/
def bumpSumsWrong : ChangeSpec := { name := "bumpSums", fn := fun _ => fun
  | [d1, d2, d3, d4, d5] => { results := [.lit (.bool false)], args := [d1, d2, d3, d4, d5] }
  | _ => none }
def BumpSumsWrongFalsely : Prop := bumpSumsRow.holds Try.pinned (OpenSpec.ofChange bumpSumsWrong)

/-- 'novationlaw30.BumpCrosses': WHATEVER THE INPUT: true; the input reads as it did. -/
def bumpCrossesSpec : ChangeSpec := { name := "bumpCrosses", fn := fun _ => fun
  | [d1, d2, d3, d4, d5] => { results := [.lit (.bool true)], args := [d1, d2, d3, d4, d5] }
  | _ => none }
def bumpCrossesRow : OpenClaim := { program := "ytbnoamkgjjbfmaa", sum := "0f7ce229ba059f9faf976ec86d5dc4f231e1c6fce4846784d7b118b74e36a1d4", func := "novation/novationlaw30.BumpCrosses", spec := "bumpCrosses", inPlace := ["internal/bytealg.IndexByteString", "internal/bytealg.IndexString"], unfollowed := true, recurses := true, named := ["internal/bytealg.MaxLen"], apart := false }
def BumpCrossesSaid : Prop := bumpCrossesRow.holds Try.pinned (OpenSpec.ofChange bumpCrossesSpec)

/-- ITS FALSE NEIGHBOUR: 'it returns false'. Refute it at one input. -/
def bumpCrossesWrong : ChangeSpec := { name := "bumpCrosses", fn := fun _ => fun
  | [d1, d2, d3, d4, d5] => { results := [.lit (.bool false)], args := [d1, d2, d3, d4, d5] }
  | _ => none }
def BumpCrossesWrongFalsely : Prop := bumpCrossesRow.holds Try.pinned (OpenSpec.ofChange bumpCrossesWrong)

/-- 'novationlaw30.BumpShifts': WHATEVER THE INPUT: true; the input reads as it did. -/
def bumpShiftsSpec : ChangeSpec := { name := "bumpShifts", fn := fun _ => fun
  | [d1, d2, d3, d4] => { results := [.lit (.bool true)], args := [d1, d2, d3, d4] }
  | _ => none }
def bumpShiftsRow : OpenClaim := { program := "ytbnoamkgjjbfmaa", sum := "0f7ce229ba059f9faf976ec86d5dc4f231e1c6fce4846784d7b118b74e36a1d4", func := "novation/novationlaw30.BumpShifts", spec := "bumpShifts", inPlace := ["internal/bytealg.IndexByteString", "internal/bytealg.IndexString"], unfollowed := true, recurses := true, named := ["internal/bytealg.MaxLen"], apart := false }
def BumpShiftsSaid : Prop := bumpShiftsRow.holds Try.pinned (OpenSpec.ofChange bumpShiftsSpec)

/-- ITS FALSE NEIGHBOUR: 'it returns false'. Refute it at one input. -/
def bumpShiftsWrong : ChangeSpec := { name := "bumpShifts", fn := fun _ => fun
  | [d1, d2, d3, d4] => { results := [.lit (.bool false)], args := [d1, d2, d3, d4] }
  | _ => none }
def BumpShiftsWrongFalsely : Prop := bumpShiftsRow.holds Try.pinned (OpenSpec.ofChange bumpShiftsWrong)

/-- 'novationlaw30.BumpLinear': WHATEVER THE INPUT: true; the input reads as it did. -/
def bumpLinearSpec : ChangeSpec := { name := "bumpLinear", fn := fun _ => fun
  | [d1, d2, d3, d4, d5] => { results := [.lit (.bool true)], args := [d1, d2, d3, d4, d5] }
  | _ => none }
def bumpLinearRow : OpenClaim := { program := "ytbnoamkgjjbfmaa", sum := "0f7ce229ba059f9faf976ec86d5dc4f231e1c6fce4846784d7b118b74e36a1d4", func := "novation/novationlaw30.BumpLinear", spec := "bumpLinear", inPlace := ["internal/bytealg.IndexByteString", "internal/bytealg.IndexString"], unfollowed := true, recurses := true, named := ["internal/bytealg.MaxLen"], apart := false }
def BumpLinearSaid : Prop := bumpLinearRow.holds Try.pinned (OpenSpec.ofChange bumpLinearSpec)

/-- ITS FALSE NEIGHBOUR: 'it returns false'. Refute it at one input. -/
def bumpLinearWrong : ChangeSpec := { name := "bumpLinear", fn := fun _ => fun
  | [d1, d2, d3, d4, d5] => { results := [.lit (.bool false)], args := [d1, d2, d3, d4, d5] }
  | _ => none }
def BumpLinearWrongFalsely : Prop := bumpLinearRow.holds Try.pinned (OpenSpec.ofChange bumpLinearWrong)

/- THE SECOND FORM. 'bulk': how many values and letters a reading holds, each counted each time it is reached (what is shared counts as often as it is met; a slice's spare places count too). A statement '..UptoSaid' is the law's where the arguments, and the package variables that the reading takes, are together of bulk at most 1048576: NARROWER than '..Said'. Prove '..Said' where nothing that the law and all that it calls make is longer than what came in: it says more and counts as full. Else prove '..UptoSaid'. A law counts once. -/
mutual
def uptoBulk {H : Type} : DataW H → Nat
  | .lit (.string bytes) => bytes.length + 1
  | .lit _ => 1
  | .nil => 1
  | .ptr d => uptoBulk d + 1
  | .slice elems spare => uptoBulkAll elems + uptoBulkAll spare + 1
  | .agg parts => uptoBulkAll parts + 1
  | .iface _ d => uptoBulk d + 1
  | .map entries => uptoBulkEntries entries + 1
  | .held _ => 1
def uptoBulkAll {H : Type} : List (DataW H) → Nat
  | [] => 0
  | d :: r => uptoBulk d + uptoBulkAll r
def uptoBulkEntries {H : Type} : List (Lit × DataW H) → Nat
  | [] => 0
  | x :: r => uptoBulkEntry x + uptoBulkEntries r
def uptoBulkEntry {H : Type} : Lit × DataW H → Nat
  | (.string bytes, d) => bytes.length + uptoBulk d + 1
  | (_, d) => uptoBulk d + 1
 end
def uptoSmall : (H : Type) → List (DataW H) → Bool := fun _ ds => decide (uptoBulkAll ds ≤ 1048576)
def OpenSpec.upto (s : _root_.Go.ChangeSpec) : _root_.Go.OpenSpec := { _root_.Go.OpenSpec.ofChange s with cond := some uptoSmall }

/-- 'novationlaw30.BumpRuns', WHERE WHAT IT READS IS OF BULK AT MOST 1048576: true; the input reads as it did. -/
def bumpRunsUptoRow : OpenClaim := { program := "ytbnoamkgjjbfmaa", sum := "0f7ce229ba059f9faf976ec86d5dc4f231e1c6fce4846784d7b118b74e36a1d4", func := "novation/novationlaw30.BumpRuns", spec := "bumpRuns", inPlace := ["internal/bytealg.IndexByteString", "internal/bytealg.IndexString"], unfollowed := true, recurses := true, named := ["internal/bytealg.MaxLen"], apart := false, narrowed := true }
def BumpRunsUptoSaid : Prop := bumpRunsUptoRow.holds Try.pinned (OpenSpec.upto bumpRunsSpec)

/-- 'novationlaw30.BumpSums', WHERE WHAT IT READS IS OF BULK AT MOST 1048576: true; the input reads as it did. -/
def bumpSumsUptoRow : OpenClaim := { program := "ytbnoamkgjjbfmaa", sum := "0f7ce229ba059f9faf976ec86d5dc4f231e1c6fce4846784d7b118b74e36a1d4", func := "novation/novationlaw30.BumpSums", spec := "bumpSums", inPlace := ["internal/bytealg.IndexByteString", "internal/bytealg.IndexString"], unfollowed := true, recurses := true, named := ["internal/bytealg.MaxLen"], apart := false, narrowed := true }
def BumpSumsUptoSaid : Prop := bumpSumsUptoRow.holds Try.pinned (OpenSpec.upto bumpSumsSpec)

/-- 'novationlaw30.BumpCrosses', WHERE WHAT IT READS IS OF BULK AT MOST 1048576: true; the input reads as it did. -/
def bumpCrossesUptoRow : OpenClaim := { program := "ytbnoamkgjjbfmaa", sum := "0f7ce229ba059f9faf976ec86d5dc4f231e1c6fce4846784d7b118b74e36a1d4", func := "novation/novationlaw30.BumpCrosses", spec := "bumpCrosses", inPlace := ["internal/bytealg.IndexByteString", "internal/bytealg.IndexString"], unfollowed := true, recurses := true, named := ["internal/bytealg.MaxLen"], apart := false, narrowed := true }
def BumpCrossesUptoSaid : Prop := bumpCrossesUptoRow.holds Try.pinned (OpenSpec.upto bumpCrossesSpec)

/-- 'novationlaw30.BumpShifts', WHERE WHAT IT READS IS OF BULK AT MOST 1048576: true; the input reads as it did. -/
def bumpShiftsUptoRow : OpenClaim := { program := "ytbnoamkgjjbfmaa", sum := "0f7ce229ba059f9faf976ec86d5dc4f231e1c6fce4846784d7b118b74e36a1d4", func := "novation/novationlaw30.BumpShifts", spec := "bumpShifts", inPlace := ["internal/bytealg.IndexByteString", "internal/bytealg.IndexString"], unfollowed := true, recurses := true, named := ["internal/bytealg.MaxLen"], apart := false, narrowed := true }
def BumpShiftsUptoSaid : Prop := bumpShiftsUptoRow.holds Try.pinned (OpenSpec.upto bumpShiftsSpec)

/-- 'novationlaw30.BumpLinear', WHERE WHAT IT READS IS OF BULK AT MOST 1048576: true; the input reads as it did. -/
def bumpLinearUptoRow : OpenClaim := { program := "ytbnoamkgjjbfmaa", sum := "0f7ce229ba059f9faf976ec86d5dc4f231e1c6fce4846784d7b118b74e36a1d4", func := "novation/novationlaw30.BumpLinear", spec := "bumpLinear", inPlace := ["internal/bytealg.IndexByteString", "internal/bytealg.IndexString"], unfollowed := true, recurses := true, named := ["internal/bytealg.MaxLen"], apart := false, narrowed := true }
def BumpLinearUptoSaid : Prop := bumpLinearUptoRow.holds Try.pinned (OpenSpec.upto bumpLinearSpec)

end Rows
end Go.Proofs.Ytbnoamkgjjbfmaa
