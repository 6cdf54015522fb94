/-
  DERIVED. GIVEN WITH THE SEED: THE PROGRAM's TIES (one call each: nine closed facts by the kernel) AND EACH ROW's TIE, after the 31st guide's Derived/Test/Toyas{Tie, Card}.lean. No idea stands in it: it is a product of the set-up. Laid BY PROGRAM, IN A SANDBOX (cutbox-door.mjs). By AI agents, Wed Nov 11 2026. No macro, syntax, notation, axiom, sorry.
-/
import Derived.Test.YtihplbclhhhgdaaGreatDoorRows
import Derived.LaidByTextLater
import Derived.SevenTiedAt
import Derived.LaidSub
import Derived.LaidOnce
namespace Go.Proofs.YtihplbclhhhgdaaGreatDoor
open Go
set_option maxRecDepth 100000
theorem seatTie1 : Tryz.prog.laidByTextLater [("novation/observable.shapes", Rows.laid_novation_observable_shapes), ("novation/observable.operations", Rows.laid_novation_observable_operations), ("novation/contract.parts", Rows.laid_novation_contract_parts)] [.mappedDeep, .funcs, .mapped] true :=
  Program.laidByTextLater_by_one 176 8 4 (by kernel_rfl) (by kernel_rfl) (by kernel_rfl) (by kernel_rfl) (by kernel_rfl) (by kernel_rfl) (fun _ _ => by kernel_rfl)
theorem noOwnUnsafe : Tryz.pinned.checked.prog.headLifts.contains "ownunsafe" = false := by kernel_rfl
theorem tie : Tryz.prog.laidByTextLater [("novation/observable.shapes", Rows.laid_novation_observable_shapes), ("novation/observable.operations", Rows.laid_novation_observable_operations), ("novation/contract.parts", Rows.laid_novation_contract_parts)] [.mappedDeep, .funcs, .mapped] true :=
  Program.laidByTextLater.sub seatTie1 ["novation/observable.shapes", "novation/observable.operations", "novation/contract.parts"] (by kernel_rfl) (by kernel_rfl)
theorem amendForce_row_tie : Rows.amendForceRow.laidByTextAt .later Tryz.pinned [.mappedDeep, .funcs, .mapped] true :=
  OpenClaim.laidByTextAt_later rfl rfl tie noOwnUnsafe
theorem amendUndoes_row_tie : Rows.amendUndoesRow.laidByTextAt .later Tryz.pinned [.mappedDeep, .funcs, .mapped] true :=
  OpenClaim.laidByTextAt_later rfl rfl tie noOwnUnsafe
theorem amendSplits_row_tie : Rows.amendSplitsRow.laidByTextAt .later Tryz.pinned [.mappedDeep, .funcs, .mapped] true :=
  OpenClaim.laidByTextAt_later rfl rfl tie noOwnUnsafe
theorem amendStops_row_tie : Rows.amendStopsRow.laidByTextAt .later Tryz.pinned [.mappedDeep, .funcs, .mapped] true :=
  OpenClaim.laidByTextAt_later rfl rfl tie noOwnUnsafe
theorem amendTells_row_tie : Rows.amendTellsRow.laidByTextAt .later Tryz.pinned [.mappedDeep, .funcs, .mapped] true :=
  OpenClaim.laidByTextAt_later rfl rfl tie noOwnUnsafe
theorem amendNames_row_tie : Rows.amendNamesRow.laidByTextAt .later Tryz.pinned [.mappedDeep, .funcs, .mapped] true :=
  OpenClaim.laidByTextAt_later rfl rfl tie noOwnUnsafe
theorem amendForceUpto_row_tie : Rows.amendForceUptoRow.laidByTextAt .later Tryz.pinned [.mappedDeep, .funcs, .mapped] true :=
  OpenClaim.laidByTextAt_later rfl rfl tie noOwnUnsafe
theorem amendUndoesUpto_row_tie : Rows.amendUndoesUptoRow.laidByTextAt .later Tryz.pinned [.mappedDeep, .funcs, .mapped] true :=
  OpenClaim.laidByTextAt_later rfl rfl tie noOwnUnsafe
theorem amendSplitsUpto_row_tie : Rows.amendSplitsUptoRow.laidByTextAt .later Tryz.pinned [.mappedDeep, .funcs, .mapped] true :=
  OpenClaim.laidByTextAt_later rfl rfl tie noOwnUnsafe
theorem amendStopsUpto_row_tie : Rows.amendStopsUptoRow.laidByTextAt .later Tryz.pinned [.mappedDeep, .funcs, .mapped] true :=
  OpenClaim.laidByTextAt_later rfl rfl tie noOwnUnsafe
theorem amendTellsUpto_row_tie : Rows.amendTellsUptoRow.laidByTextAt .later Tryz.pinned [.mappedDeep, .funcs, .mapped] true :=
  OpenClaim.laidByTextAt_later rfl rfl tie noOwnUnsafe
theorem amendNamesUpto_row_tie : Rows.amendNamesUptoRow.laidByTextAt .later Tryz.pinned [.mappedDeep, .funcs, .mapped] true :=
  OpenClaim.laidByTextAt_later rfl rfl tie noOwnUnsafe
end Go.Proofs.YtihplbclhhhgdaaGreatDoor
