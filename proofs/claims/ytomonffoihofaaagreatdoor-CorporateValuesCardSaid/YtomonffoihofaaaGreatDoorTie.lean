/-
  DERIVED. GIVEN WITH THE SEED: THE PROGRAM's TIES (one call each: nine closed facts by the kernel) AND EACH ROW's TIE, after the 31st guide's Derived/Test/Toyas{Tie, Card}.lean. No idea stands in it: it is a product of the set-up. Laid BY PROGRAM, IN A SANDBOX (cutbox-door.mjs). By AI agents, Wed Nov 11 2026. No macro, syntax, notation, axiom, sorry.
-/
import Derived.Test.YtomonffoihofaaaGreatDoorRows
import Derived.LaidByTextLater
import Derived.SevenTiedAt
import Derived.LaidSub
import Derived.LaidOnce
namespace Go.Proofs.YtomonffoihofaaaGreatDoor
open Go
set_option maxRecDepth 100000
theorem seatTie1 : Tryz.prog.laidByTextLater [("novation/observable.shapes", Rows.laid_novation_observable_shapes)] [.mappedDeep] true :=
  Program.laidByTextLater_by_one 91 8 4 (by kernel_rfl) (by kernel_rfl) (by kernel_rfl) (by kernel_rfl) (by kernel_rfl) (by kernel_rfl) (fun _ _ => by kernel_rfl)
theorem noOwnUnsafe : Tryz.pinned.checked.prog.headLifts.contains "ownunsafe" = false := by kernel_rfl
theorem tie : Tryz.prog.laidByTextLater [("novation/observable.shapes", Rows.laid_novation_observable_shapes)] [.mappedDeep] true :=
  Program.laidByTextLater.sub seatTie1 ["novation/observable.shapes"] (by kernel_rfl) (by kernel_rfl)
theorem corporateValues_row_tie : Rows.corporateValuesRow.laidByTextAt .later Tryz.pinned [.mappedDeep] true :=
  OpenClaim.laidByTextAt_later rfl rfl tie noOwnUnsafe
theorem corporateGrows_row_tie : Rows.corporateGrowsRow.laidByTextAt .later Tryz.pinned [.mappedDeep] true :=
  OpenClaim.laidByTextAt_later rfl rfl tie noOwnUnsafe
theorem corporateValuesUpto_row_tie : Rows.corporateValuesUptoRow.laidByTextAt .later Tryz.pinned [.mappedDeep] true :=
  OpenClaim.laidByTextAt_later rfl rfl tie noOwnUnsafe
theorem corporateGrowsUpto_row_tie : Rows.corporateGrowsUptoRow.laidByTextAt .later Tryz.pinned [.mappedDeep] true :=
  OpenClaim.laidByTextAt_later rfl rfl tie noOwnUnsafe
end Go.Proofs.YtomonffoihofaaaGreatDoor
