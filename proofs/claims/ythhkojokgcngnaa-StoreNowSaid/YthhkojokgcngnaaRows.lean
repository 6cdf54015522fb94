/-
  No cell of these rows narrows 'for every input' (looked for: loops, veiled, ifaces, maps, wideKeys, modest, calm, conditions, laid).
  DERIVED. THE GIVEN ROWS OF THIS SEAT. 7 by the template 'for every input the law returns true; each argument reads behind the call as it read before'; 0 by the template 'total and deterministic' (their statements: YthhkojokgcngnaaTotals.lean).
  GIVEN WITH THE SEED: the statements are not yours to turn. If you find one false, say at which input.
  Laid BY PROGRAM, IN A SANDBOX (cutbox-rows.mjs): the forced cells as the released guide's own fill.sh prints them over the translation db9ec3b27d2cb318… (all of the seat's roots in one cut). By AI agents, Wed Nov 11 2026. No macro, syntax, notation, axiom, sorry.
-/
import Derived.Test.YthhkojokgcngnaaChecked
import GoSem.Claim
import GoSem.ClaimJoined
import GoSem.ClaimMapViews
import Derived.JoinedTies
import Derived.KernelRfl
namespace Go.Proofs.Ythhkojokgcngnaa
/- THE CELL 'sum', in the pinned program and in every row, IS THE sha256 OF THE DUMP (.gsa) THAT YthhkojokgcngnaaProg.lean LOADS. Nothing in Lean hashes anything: it is a label: what it is worth is what the hold of that sum in a sandbox is worth. -/
noncomputable def Try.pinned : Pinned := { name := "ythhkojokgcngnaa", sum := "db9ec3b27d2cb3181e2e1bb0312ecd294739f9f5253aeddbe5bb2c31eda3bd5b", checked := Try.checked }
namespace Rows
def none {H : Type} : Left H := { results := [], args := [] }

/-- 'novationlaw18.StoreAppends': WHATEVER THE INPUT: true; the input reads as it did. -/
def storeAppendsSpec : ChangeSpec := { name := "storeAppends", fn := fun _ => fun
  | [d1, d2] => { results := [.lit (.bool true)], args := [d1, d2] }
  | _ => none }
def storeAppendsRow : OpenClaim := { program := "ythhkojokgcngnaa", sum := "db9ec3b27d2cb3181e2e1bb0312ecd294739f9f5253aeddbe5bb2c31eda3bd5b", func := "novation/novationlaw18.StoreAppends", spec := "storeAppends", inPlace := ["internal/bytealg.IndexByteString", "internal/bytealg.IndexString"], unfollowed := true, recurses := true, named := ["internal/bytealg.MaxLen"], plainKeys := false, apart := false }
def StoreAppendsSaid : Prop := storeAppendsRow.holds Try.pinned (OpenSpec.ofChange storeAppendsSpec)

/-- ITS FALSE NEIGHBOUR: 'it returns false'. Refute it at one input. -/
def storeAppendsWrong : ChangeSpec := { name := "storeAppends", fn := fun _ => fun
  | [d1, d2] => { results := [.lit (.bool false)], args := [d1, d2] }
  | _ => none }
def StoreAppendsWrongFalsely : Prop := storeAppendsRow.holds Try.pinned (OpenSpec.ofChange storeAppendsWrong)

/-- 'novationlaw18.StoreRebuilt': WHATEVER THE INPUT: true; the input reads as it did. -/
def storeRebuiltSpec : ChangeSpec := { name := "storeRebuilt", fn := fun _ => fun
  | [d1, d2] => { results := [.lit (.bool true)], args := [d1, d2] }
  | _ => none }
def storeRebuiltRow : OpenClaim := { program := "ythhkojokgcngnaa", sum := "db9ec3b27d2cb3181e2e1bb0312ecd294739f9f5253aeddbe5bb2c31eda3bd5b", func := "novation/novationlaw18.StoreRebuilt", spec := "storeRebuilt", inPlace := ["internal/bytealg.IndexByteString", "internal/bytealg.IndexString", "slices.overlaps[novation/api.Fixing]", "slices.overlaps[novation/api.Choice]"], unfollowed := true, recurses := true, named := ["internal/bytealg.MaxLen"], plainKeys := false, apart := false }
def StoreRebuiltSaid : Prop := storeRebuiltRow.holds Try.pinned (OpenSpec.ofChange storeRebuiltSpec)

/-- ITS FALSE NEIGHBOUR: 'it returns false'. Refute it at one input. -/
def storeRebuiltWrong : ChangeSpec := { name := "storeRebuilt", fn := fun _ => fun
  | [d1, d2] => { results := [.lit (.bool false)], args := [d1, d2] }
  | _ => none }
def StoreRebuiltWrongFalsely : Prop := storeRebuiltRow.holds Try.pinned (OpenSpec.ofChange storeRebuiltWrong)

/-- 'novationlaw18.StoreOld': WHATEVER THE INPUT: true; the input reads as it did. -/
def storeOldSpec : ChangeSpec := { name := "storeOld", fn := fun _ => fun
  | [d1, d2, d3, d4] => { results := [.lit (.bool true)], args := [d1, d2, d3, d4] }
  | _ => none }
def storeOldRow : OpenClaim := { program := "ythhkojokgcngnaa", sum := "db9ec3b27d2cb3181e2e1bb0312ecd294739f9f5253aeddbe5bb2c31eda3bd5b", func := "novation/novationlaw18.StoreOld", spec := "storeOld", inPlace := ["internal/bytealg.IndexByteString", "internal/bytealg.IndexString", "slices.overlaps[novation/api.Fixing]", "slices.overlaps[novation/api.Choice]"], unfollowed := true, recurses := true, named := ["internal/bytealg.MaxLen"], plainKeys := false, apart := false }
def StoreOldSaid : Prop := storeOldRow.holds Try.pinned (OpenSpec.ofChange storeOldSpec)

/-- ITS FALSE NEIGHBOUR: 'it returns false'. Refute it at one input. -/
def storeOldWrong : ChangeSpec := { name := "storeOld", fn := fun _ => fun
  | [d1, d2, d3, d4] => { results := [.lit (.bool false)], args := [d1, d2, d3, d4] }
  | _ => none }
def StoreOldWrongFalsely : Prop := storeOldRow.holds Try.pinned (OpenSpec.ofChange storeOldWrong)

/-- 'novationlaw18.StorePart': WHATEVER THE INPUT: true; the input reads as it did. -/
def storePartSpec : ChangeSpec := { name := "storePart", fn := fun _ => fun
  | [d1, d2, d3] => { results := [.lit (.bool true)], args := [d1, d2, d3] }
  | _ => none }
def storePartRow : OpenClaim := { program := "ythhkojokgcngnaa", sum := "db9ec3b27d2cb3181e2e1bb0312ecd294739f9f5253aeddbe5bb2c31eda3bd5b", func := "novation/novationlaw18.StorePart", spec := "storePart", inPlace := ["internal/bytealg.IndexByteString", "internal/bytealg.IndexString", "slices.overlaps[novation/api.Fixing]", "slices.overlaps[novation/api.Choice]"], unfollowed := true, recurses := true, named := ["internal/bytealg.MaxLen"], plainKeys := false, apart := false }
def StorePartSaid : Prop := storePartRow.holds Try.pinned (OpenSpec.ofChange storePartSpec)

/-- ITS FALSE NEIGHBOUR: 'it returns false'. Refute it at one input. -/
def storePartWrong : ChangeSpec := { name := "storePart", fn := fun _ => fun
  | [d1, d2, d3] => { results := [.lit (.bool false)], args := [d1, d2, d3] }
  | _ => none }
def StorePartWrongFalsely : Prop := storePartRow.holds Try.pinned (OpenSpec.ofChange storePartWrong)

/-- 'novationlaw18.StoreNow': WHATEVER THE INPUT: true; the input reads as it did. -/
def storeNowSpec : ChangeSpec := { name := "storeNow", fn := fun _ => fun
  | [d1, d2] => { results := [.lit (.bool true)], args := [d1, d2] }
  | _ => none }
def storeNowRow : OpenClaim := { program := "ythhkojokgcngnaa", sum := "db9ec3b27d2cb3181e2e1bb0312ecd294739f9f5253aeddbe5bb2c31eda3bd5b", func := "novation/novationlaw18.StoreNow", spec := "storeNow", inPlace := ["internal/bytealg.IndexByteString", "internal/bytealg.IndexString", "slices.overlaps[novation/api.Fixing]", "slices.overlaps[novation/api.Choice]"], unfollowed := true, recurses := true, named := ["internal/bytealg.MaxLen"], plainKeys := false, apart := false }
def StoreNowSaid : Prop := storeNowRow.holds Try.pinned (OpenSpec.ofChange storeNowSpec)

/-- ITS FALSE NEIGHBOUR: 'it returns false'. Refute it at one input. -/
def storeNowWrong : ChangeSpec := { name := "storeNow", fn := fun _ => fun
  | [d1, d2] => { results := [.lit (.bool false)], args := [d1, d2] }
  | _ => none }
def StoreNowWrongFalsely : Prop := storeNowRow.holds Try.pinned (OpenSpec.ofChange storeNowWrong)

/-- 'novationlaw18.StoreTrails': WHATEVER THE INPUT: true; the input reads as it did. -/
def storeTrailsSpec : ChangeSpec := { name := "storeTrails", fn := fun _ => fun
  | [d1, d2] => { results := [.lit (.bool true)], args := [d1, d2] }
  | _ => none }
def storeTrailsRow : OpenClaim := { program := "ythhkojokgcngnaa", sum := "db9ec3b27d2cb3181e2e1bb0312ecd294739f9f5253aeddbe5bb2c31eda3bd5b", func := "novation/novationlaw18.StoreTrails", spec := "storeTrails", inPlace := ["internal/bytealg.IndexByteString", "internal/bytealg.IndexString", "slices.overlaps[novation/api.Fixing]", "slices.overlaps[novation/api.Choice]"], unfollowed := true, recurses := true, named := ["internal/bytealg.MaxLen"], plainKeys := false, apart := false }
def StoreTrailsSaid : Prop := storeTrailsRow.holds Try.pinned (OpenSpec.ofChange storeTrailsSpec)

/-- ITS FALSE NEIGHBOUR: 'it returns false'. Refute it at one input. -/
def storeTrailsWrong : ChangeSpec := { name := "storeTrails", fn := fun _ => fun
  | [d1, d2] => { results := [.lit (.bool false)], args := [d1, d2] }
  | _ => none }
def StoreTrailsWrongFalsely : Prop := storeTrailsRow.holds Try.pinned (OpenSpec.ofChange storeTrailsWrong)

/-- 'novationlaw18.StoreNames': WHATEVER THE INPUT: true; the input reads as it did. -/
def storeNamesSpec : ChangeSpec := { name := "storeNames", fn := fun _ => fun
  | [] => { results := [.lit (.bool true)], args := [] }
  | _ => none }
def storeNamesRow : OpenClaim := { program := "ythhkojokgcngnaa", sum := "db9ec3b27d2cb3181e2e1bb0312ecd294739f9f5253aeddbe5bb2c31eda3bd5b", func := "novation/novationlaw18.StoreNames", spec := "storeNames", inPlace := ["internal/bytealg.IndexByteString", "internal/bytealg.IndexString", "slices.overlaps[novation/api.Fixing]", "slices.overlaps[novation/api.Choice]"], unfollowed := true, recurses := true, named := ["internal/bytealg.MaxLen"], plainKeys := false, apart := false }
def StoreNamesSaid : Prop := storeNamesRow.holds Try.pinned (OpenSpec.ofChange storeNamesSpec)

/-- ITS FALSE NEIGHBOUR: 'it returns false'. Refute it at one input. -/
def storeNamesWrong : ChangeSpec := { name := "storeNames", fn := fun _ => fun
  | [] => { results := [.lit (.bool false)], args := [] }
  | _ => none }
def StoreNamesWrongFalsely : Prop := storeNamesRow.holds Try.pinned (OpenSpec.ofChange storeNamesWrong)

/- THE SECOND FORM. 'bulk': how many values and letters a reading holds, each counted each time it is reached (what is shared counts as often as it is met; a slice's spare places count too). A statement '..UptoSaid' is the law's where the arguments, and the package variables that the reading takes, are together of bulk at most 1048576: NARROWER than '..Said'. Prove '..Said' where nothing that the law and all that it calls make is longer than what came in: it says more and counts as full. Else prove '..UptoSaid'. A law counts once. -/
mutual
def uptoBulk {H : Type} : DataW H → Nat
  | .lit (.string bytes) => bytes.length + 1
  | .lit _ => 1
  | .nil => 1
  | .ptr d => uptoBulk d + 1
  | .slice elems spare => uptoBulkAll elems + uptoBulkAll spare + 1
  | .agg parts => uptoBulkAll parts + 1
  | .iface _ d => uptoBulk d + 1
  | .map entries => uptoBulkEntries entries + 1
  | .held _ => 1
def uptoBulkAll {H : Type} : List (DataW H) → Nat
  | [] => 0
  | d :: r => uptoBulk d + uptoBulkAll r
def uptoBulkEntries {H : Type} : List (Lit × DataW H) → Nat
  | [] => 0
  | x :: r => uptoBulkEntry x + uptoBulkEntries r
def uptoBulkEntry {H : Type} : Lit × DataW H → Nat
  | (.string bytes, d) => bytes.length + uptoBulk d + 1
  | (_, d) => uptoBulk d + 1
 end
def uptoSmall : (H : Type) → List (DataW H) → Bool := fun _ ds => decide (uptoBulkAll ds ≤ 1048576)
def OpenSpec.upto (s : _root_.Go.ChangeSpec) : _root_.Go.OpenSpec := { _root_.Go.OpenSpec.ofChange s with cond := some uptoSmall }

/-- 'novationlaw18.StoreAppends', WHERE WHAT IT READS IS OF BULK AT MOST 1048576: true; the input reads as it did. -/
def storeAppendsUptoRow : OpenClaim := { program := "ythhkojokgcngnaa", sum := "db9ec3b27d2cb3181e2e1bb0312ecd294739f9f5253aeddbe5bb2c31eda3bd5b", func := "novation/novationlaw18.StoreAppends", spec := "storeAppends", inPlace := ["internal/bytealg.IndexByteString", "internal/bytealg.IndexString"], unfollowed := true, recurses := true, named := ["internal/bytealg.MaxLen"], plainKeys := false, apart := false, narrowed := true }
def StoreAppendsUptoSaid : Prop := storeAppendsUptoRow.holds Try.pinned (OpenSpec.upto storeAppendsSpec)

/-- 'novationlaw18.StoreRebuilt', WHERE WHAT IT READS IS OF BULK AT MOST 1048576: true; the input reads as it did. -/
def storeRebuiltUptoRow : OpenClaim := { program := "ythhkojokgcngnaa", sum := "db9ec3b27d2cb3181e2e1bb0312ecd294739f9f5253aeddbe5bb2c31eda3bd5b", func := "novation/novationlaw18.StoreRebuilt", spec := "storeRebuilt", inPlace := ["internal/bytealg.IndexByteString", "internal/bytealg.IndexString", "slices.overlaps[novation/api.Fixing]", "slices.overlaps[novation/api.Choice]"], unfollowed := true, recurses := true, named := ["internal/bytealg.MaxLen"], plainKeys := false, apart := false, narrowed := true }
def StoreRebuiltUptoSaid : Prop := storeRebuiltUptoRow.holds Try.pinned (OpenSpec.upto storeRebuiltSpec)

/-- 'novationlaw18.StoreOld', WHERE WHAT IT READS IS OF BULK AT MOST 1048576: true; the input reads as it did. -/
def storeOldUptoRow : OpenClaim := { program := "ythhkojokgcngnaa", sum := "db9ec3b27d2cb3181e2e1bb0312ecd294739f9f5253aeddbe5bb2c31eda3bd5b", func := "novation/novationlaw18.StoreOld", spec := "storeOld", inPlace := ["internal/bytealg.IndexByteString", "internal/bytealg.IndexString", "slices.overlaps[novation/api.Fixing]", "slices.overlaps[novation/api.Choice]"], unfollowed := true, recurses := true, named := ["internal/bytealg.MaxLen"], plainKeys := false, apart := false, narrowed := true }
def StoreOldUptoSaid : Prop := storeOldUptoRow.holds Try.pinned (OpenSpec.upto storeOldSpec)

/-- 'novationlaw18.StorePart', WHERE WHAT IT READS IS OF BULK AT MOST 1048576: true; the input reads as it did. -/
def storePartUptoRow : OpenClaim := { program := "ythhkojokgcngnaa", sum := "db9ec3b27d2cb3181e2e1bb0312ecd294739f9f5253aeddbe5bb2c31eda3bd5b", func := "novation/novationlaw18.StorePart", spec := "storePart", inPlace := ["internal/bytealg.IndexByteString", "internal/bytealg.IndexString", "slices.overlaps[novation/api.Fixing]", "slices.overlaps[novation/api.Choice]"], unfollowed := true, recurses := true, named := ["internal/bytealg.MaxLen"], plainKeys := false, apart := false, narrowed := true }
def StorePartUptoSaid : Prop := storePartUptoRow.holds Try.pinned (OpenSpec.upto storePartSpec)

/-- 'novationlaw18.StoreNow', WHERE WHAT IT READS IS OF BULK AT MOST 1048576: true; the input reads as it did. -/
def storeNowUptoRow : OpenClaim := { program := "ythhkojokgcngnaa", sum := "db9ec3b27d2cb3181e2e1bb0312ecd294739f9f5253aeddbe5bb2c31eda3bd5b", func := "novation/novationlaw18.StoreNow", spec := "storeNow", inPlace := ["internal/bytealg.IndexByteString", "internal/bytealg.IndexString", "slices.overlaps[novation/api.Fixing]", "slices.overlaps[novation/api.Choice]"], unfollowed := true, recurses := true, named := ["internal/bytealg.MaxLen"], plainKeys := false, apart := false, narrowed := true }
def StoreNowUptoSaid : Prop := storeNowUptoRow.holds Try.pinned (OpenSpec.upto storeNowSpec)

/-- 'novationlaw18.StoreTrails', WHERE WHAT IT READS IS OF BULK AT MOST 1048576: true; the input reads as it did. -/
def storeTrailsUptoRow : OpenClaim := { program := "ythhkojokgcngnaa", sum := "db9ec3b27d2cb3181e2e1bb0312ecd294739f9f5253aeddbe5bb2c31eda3bd5b", func := "novation/novationlaw18.StoreTrails", spec := "storeTrails", inPlace := ["internal/bytealg.IndexByteString", "internal/bytealg.IndexString", "slices.overlaps[novation/api.Fixing]", "slices.overlaps[novation/api.Choice]"], unfollowed := true, recurses := true, named := ["internal/bytealg.MaxLen"], plainKeys := false, apart := false, narrowed := true }
def StoreTrailsUptoSaid : Prop := storeTrailsUptoRow.holds Try.pinned (OpenSpec.upto storeTrailsSpec)

/-- 'novationlaw18.StoreNames', WHERE WHAT IT READS IS OF BULK AT MOST 1048576: true; the input reads as it did. -/
def storeNamesUptoRow : OpenClaim := { program := "ythhkojokgcngnaa", sum := "db9ec3b27d2cb3181e2e1bb0312ecd294739f9f5253aeddbe5bb2c31eda3bd5b", func := "novation/novationlaw18.StoreNames", spec := "storeNames", inPlace := ["internal/bytealg.IndexByteString", "internal/bytealg.IndexString", "slices.overlaps[novation/api.Fixing]", "slices.overlaps[novation/api.Choice]"], unfollowed := true, recurses := true, named := ["internal/bytealg.MaxLen"], plainKeys := false, apart := false, narrowed := true }
def StoreNamesUptoSaid : Prop := storeNamesUptoRow.holds Try.pinned (OpenSpec.upto storeNamesSpec)

end Rows
end Go.Proofs.Ythhkojokgcngnaa
