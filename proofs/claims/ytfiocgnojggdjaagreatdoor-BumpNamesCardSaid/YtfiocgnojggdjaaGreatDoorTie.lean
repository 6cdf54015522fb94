/-
  DERIVED. GIVEN WITH THE SEED: THE PROGRAM's TIES (one call each: nine closed facts by the kernel) AND EACH ROW's TIE, after the 31st guide's Derived/Test/Toyas{Tie, Card}.lean. No idea stands in it: it is a product of the set-up. Laid BY PROGRAM, IN A SANDBOX (cutbox-door.mjs). By AI agents, Wed Nov 11 2026. No macro, syntax, notation, axiom, sorry.
-/
import Derived.Test.YtfiocgnojggdjaaGreatDoorRows
import Derived.LaidByTextLater
import Derived.SevenTiedAt
import Derived.LaidSub
import Derived.LaidOnce
namespace Go.Proofs.YtfiocgnojggdjaaGreatDoor
open Go
set_option maxRecDepth 100000
theorem seatTie1 : Tryz.prog.laidByTextLater [("novation/observable.shapes", Rows.laid_novation_observable_shapes), ("novation/observable.operations", Rows.laid_novation_observable_operations)] [.mappedDeep, .funcs] true :=
  Program.laidByTextLater_by_one 121 8 4 (by kernel_rfl) (by kernel_rfl) (by kernel_rfl) (by kernel_rfl) (by kernel_rfl) (by kernel_rfl) (fun _ _ => by kernel_rfl)
theorem noOwnUnsafe : Tryz.pinned.checked.prog.headLifts.contains "ownunsafe" = false := by kernel_rfl
theorem tie : Tryz.prog.laidByTextLater [("novation/observable.shapes", Rows.laid_novation_observable_shapes), ("novation/observable.operations", Rows.laid_novation_observable_operations)] [.mappedDeep, .funcs] true :=
  Program.laidByTextLater.sub seatTie1 ["novation/observable.shapes", "novation/observable.operations"] (by kernel_rfl) (by kernel_rfl)
theorem bumpTapes_row_tie : Rows.bumpTapesRow.laidByTextAt .later Tryz.pinned [.mappedDeep, .funcs] true :=
  OpenClaim.laidByTextAt_later rfl rfl tie noOwnUnsafe
theorem bumpRecords_row_tie : Rows.bumpRecordsRow.laidByTextAt .later Tryz.pinned [.mappedDeep, .funcs] true :=
  OpenClaim.laidByTextAt_later rfl rfl tie noOwnUnsafe
theorem bumpNames_row_tie : Rows.bumpNamesRow.laidByTextAt .later Tryz.pinned [.mappedDeep, .funcs] true :=
  OpenClaim.laidByTextAt_later rfl rfl tie noOwnUnsafe
theorem bumpTapesUpto_row_tie : Rows.bumpTapesUptoRow.laidByTextAt .later Tryz.pinned [.mappedDeep, .funcs] true :=
  OpenClaim.laidByTextAt_later rfl rfl tie noOwnUnsafe
theorem bumpRecordsUpto_row_tie : Rows.bumpRecordsUptoRow.laidByTextAt .later Tryz.pinned [.mappedDeep, .funcs] true :=
  OpenClaim.laidByTextAt_later rfl rfl tie noOwnUnsafe
theorem bumpNamesUpto_row_tie : Rows.bumpNamesUptoRow.laidByTextAt .later Tryz.pinned [.mappedDeep, .funcs] true :=
  OpenClaim.laidByTextAt_later rfl rfl tie noOwnUnsafe
end Go.Proofs.YtfiocgnojggdjaaGreatDoor
