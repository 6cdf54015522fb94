/-
  DERIVED. GIVEN WITH THE SEED: THE PROGRAM's TIES (one call each: nine closed facts by the kernel) AND EACH ROW's TIE, after the 31st guide's Derived/Test/Toyas{Tie, Card}.lean. No idea stands in it: it is a product of the set-up. Laid BY PROGRAM, IN A SANDBOX (cutbox-door.mjs). By AI agents, Wed Nov 11 2026. No macro, syntax, notation, axiom, sorry.
-/
import Derived.Test.YtmebjiaogdkfpaaDoorRows
import Derived.LaidByTextLater
import Derived.SevenTiedAt
import Derived.LaidSub
import Derived.LaidOnce
namespace Go.Proofs.YtmebjiaogdkfpaaDoor
open Go
set_option maxRecDepth 100000
theorem seatTie1 : Tryd.prog.laidByTextLater [("novation/observable.shapes", Rows.laid_novation_observable_shapes), ("novation/observable.operations", Rows.laid_novation_observable_operations)] [.mappedDeep, .funcs] true :=
  Program.laidByTextLater_by_one 121 8 4 (by kernel_rfl) (by kernel_rfl) (by kernel_rfl) (by kernel_rfl) (by kernel_rfl) (by kernel_rfl) (fun _ _ => by kernel_rfl)
theorem noOwnUnsafe : Tryd.pinned.checked.prog.headLifts.contains "ownunsafe" = false := by kernel_rfl
theorem tie : Tryd.prog.laidByTextLater [("novation/observable.shapes", Rows.laid_novation_observable_shapes), ("novation/observable.operations", Rows.laid_novation_observable_operations)] [.mappedDeep, .funcs] true :=
  Program.laidByTextLater.sub seatTie1 ["novation/observable.shapes", "novation/observable.operations"] (by kernel_rfl) (by kernel_rfl)
theorem observableLocal_row_tie : Rows.observableLocalRow.laidByTextAt .later Tryd.pinned [.mappedDeep, .funcs] true :=
  OpenClaim.laidByTextAt_later rfl rfl tie noOwnUnsafe
theorem observableLogic_row_tie : Rows.observableLogicRow.laidByTextAt .later Tryd.pinned [.mappedDeep, .funcs] true :=
  OpenClaim.laidByTextAt_later rfl rfl tie noOwnUnsafe
theorem observablePuts_row_tie : Rows.observablePutsRow.laidByTextAt .later Tryd.pinned [.mappedDeep, .funcs] true :=
  OpenClaim.laidByTextAt_later rfl rfl tie noOwnUnsafe
theorem observableNames_row_tie : Rows.observableNamesRow.laidByTextAt .later Tryd.pinned [.mappedDeep, .funcs] true :=
  OpenClaim.laidByTextAt_later rfl rfl tie noOwnUnsafe
theorem observableLocalUpto_row_tie : Rows.observableLocalUptoRow.laidByTextAt .later Tryd.pinned [.mappedDeep, .funcs] true :=
  OpenClaim.laidByTextAt_later rfl rfl tie noOwnUnsafe
theorem observableLogicUpto_row_tie : Rows.observableLogicUptoRow.laidByTextAt .later Tryd.pinned [.mappedDeep, .funcs] true :=
  OpenClaim.laidByTextAt_later rfl rfl tie noOwnUnsafe
theorem observablePutsUpto_row_tie : Rows.observablePutsUptoRow.laidByTextAt .later Tryd.pinned [.mappedDeep, .funcs] true :=
  OpenClaim.laidByTextAt_later rfl rfl tie noOwnUnsafe
theorem observableNamesUpto_row_tie : Rows.observableNamesUptoRow.laidByTextAt .later Tryd.pinned [.mappedDeep, .funcs] true :=
  OpenClaim.laidByTextAt_later rfl rfl tie noOwnUnsafe
end Go.Proofs.YtmebjiaogdkfpaaDoor
