/-
  DERIVED. GIVEN WITH THE SEED: THE PROGRAM's TIES (one call each: nine closed facts by the kernel) AND EACH ROW's TIE, after the 31st guide's Derived/Test/Toyas{Tie, Card}.lean. No idea stands in it: it is a product of the set-up. Laid BY PROGRAM, IN A SANDBOX (cutbox-door.mjs). By AI agents, Wed Nov 11 2026. No macro, syntax, notation, axiom, sorry.
-/
import Derived.Test.YtjhnhncmkllgmaaGreatDoorRows
import Derived.LaidByTextLater
import Derived.SevenTiedAt
import Derived.LaidSub
import Derived.LaidOnce
namespace Go.Proofs.YtjhnhncmkllgmaaGreatDoor
open Go
set_option maxRecDepth 100000
theorem seatTie1 : Tryz.prog.laidByTextLater [("novation/observable.shapes", Rows.laid_novation_observable_shapes), ("novation/observable.operations", Rows.laid_novation_observable_operations), ("novation/contract.parts", Rows.laid_novation_contract_parts)] [.mappedDeep, .funcs, .mapped] true :=
  Program.laidByTextLater_by_one 176 8 4 (by kernel_rfl) (by kernel_rfl) (by kernel_rfl) (by kernel_rfl) (by kernel_rfl) (by kernel_rfl) (fun _ _ => by kernel_rfl)
theorem noOwnUnsafe : Tryz.pinned.checked.prog.headLifts.contains "ownunsafe" = false := by kernel_rfl
theorem tie : Tryz.prog.laidByTextLater [("novation/observable.shapes", Rows.laid_novation_observable_shapes), ("novation/observable.operations", Rows.laid_novation_observable_operations), ("novation/contract.parts", Rows.laid_novation_contract_parts)] [.mappedDeep, .funcs, .mapped] true :=
  Program.laidByTextLater.sub seatTie1 ["novation/observable.shapes", "novation/observable.operations", "novation/contract.parts"] (by kernel_rfl) (by kernel_rfl)
theorem corporateFlows_row_tie : Rows.corporateFlowsRow.laidByTextAt .later Tryz.pinned [.mappedDeep, .funcs, .mapped] true :=
  OpenClaim.laidByTextAt_later rfl rfl tie noOwnUnsafe
theorem corporateChain_row_tie : Rows.corporateChainRow.laidByTextAt .later Tryz.pinned [.mappedDeep, .funcs, .mapped] true :=
  OpenClaim.laidByTextAt_later rfl rfl tie noOwnUnsafe
theorem corporateFlowsUpto_row_tie : Rows.corporateFlowsUptoRow.laidByTextAt .later Tryz.pinned [.mappedDeep, .funcs, .mapped] true :=
  OpenClaim.laidByTextAt_later rfl rfl tie noOwnUnsafe
theorem corporateChainUpto_row_tie : Rows.corporateChainUptoRow.laidByTextAt .later Tryz.pinned [.mappedDeep, .funcs, .mapped] true :=
  OpenClaim.laidByTextAt_later rfl rfl tie noOwnUnsafe
end Go.Proofs.YtjhnhncmkllgmaaGreatDoor
