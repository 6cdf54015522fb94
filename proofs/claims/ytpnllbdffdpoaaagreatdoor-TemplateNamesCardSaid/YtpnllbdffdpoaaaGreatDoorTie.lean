/-
  DERIVED. GIVEN WITH THE SEED: THE PROGRAM's TIES (one call each: nine closed facts by the kernel) AND EACH ROW's TIE, after the 31st guide's Derived/Test/Toyas{Tie, Card}.lean. No idea stands in it: it is a product of the set-up. Laid BY PROGRAM, IN A SANDBOX (cutbox-door.mjs). By AI agents, Wed Nov 11 2026. No macro, syntax, notation, axiom, sorry.
-/
import Derived.Test.YtpnllbdffdpoaaaGreatDoorRows
import Derived.LaidByTextLater
import Derived.SevenTiedAt
import Derived.LaidSub
import Derived.LaidOnce
namespace Go.Proofs.YtpnllbdffdpoaaaGreatDoor
open Go
set_option maxRecDepth 100000
theorem seatTie1 : Tryz.prog.laidByTextLater [("novation/observable.shapes", Rows.laid_novation_observable_shapes), ("novation/observable.operations", Rows.laid_novation_observable_operations), ("novation/contract.parts", Rows.laid_novation_contract_parts)] [.mappedDeep, .funcs, .mapped] true :=
  Program.laidByTextLater_by_one 176 8 4 (by kernel_rfl) (by kernel_rfl) (by kernel_rfl) (by kernel_rfl) (by kernel_rfl) (by kernel_rfl) (fun _ _ => by kernel_rfl)
theorem noOwnUnsafe : Tryz.pinned.checked.prog.headLifts.contains "ownunsafe" = false := by kernel_rfl
theorem tie : Tryz.prog.laidByTextLater [("novation/observable.shapes", Rows.laid_novation_observable_shapes), ("novation/observable.operations", Rows.laid_novation_observable_operations), ("novation/contract.parts", Rows.laid_novation_contract_parts)] [.mappedDeep, .funcs, .mapped] true :=
  Program.laidByTextLater.sub seatTie1 ["novation/observable.shapes", "novation/observable.operations", "novation/contract.parts"] (by kernel_rfl) (by kernel_rfl)
theorem templatePays_row_tie : Rows.templatePaysRow.laidByTextAt .later Tryz.pinned [.mappedDeep, .funcs, .mapped] true :=
  OpenClaim.laidByTextAt_later rfl rfl tie noOwnUnsafe
theorem templateLegsPay_row_tie : Rows.templateLegsPayRow.laidByTextAt .later Tryz.pinned [.mappedDeep, .funcs, .mapped] true :=
  OpenClaim.laidByTextAt_later rfl rfl tie noOwnUnsafe
theorem templateInOut_row_tie : Rows.templateInOutRow.laidByTextAt .later Tryz.pinned [.mappedDeep, .funcs, .mapped] true :=
  OpenClaim.laidByTextAt_later rfl rfl tie noOwnUnsafe
theorem templateParity_row_tie : Rows.templateParityRow.laidByTextAt .later Tryz.pinned [.mappedDeep, .funcs, .mapped] true :=
  OpenClaim.laidByTextAt_later rfl rfl tie noOwnUnsafe
theorem templateNames_row_tie : Rows.templateNamesRow.laidByTextAt .later Tryz.pinned [.mappedDeep, .funcs, .mapped] true :=
  OpenClaim.laidByTextAt_later rfl rfl tie noOwnUnsafe
theorem templatePaysUpto_row_tie : Rows.templatePaysUptoRow.laidByTextAt .later Tryz.pinned [.mappedDeep, .funcs, .mapped] true :=
  OpenClaim.laidByTextAt_later rfl rfl tie noOwnUnsafe
theorem templateLegsPayUpto_row_tie : Rows.templateLegsPayUptoRow.laidByTextAt .later Tryz.pinned [.mappedDeep, .funcs, .mapped] true :=
  OpenClaim.laidByTextAt_later rfl rfl tie noOwnUnsafe
theorem templateInOutUpto_row_tie : Rows.templateInOutUptoRow.laidByTextAt .later Tryz.pinned [.mappedDeep, .funcs, .mapped] true :=
  OpenClaim.laidByTextAt_later rfl rfl tie noOwnUnsafe
theorem templateParityUpto_row_tie : Rows.templateParityUptoRow.laidByTextAt .later Tryz.pinned [.mappedDeep, .funcs, .mapped] true :=
  OpenClaim.laidByTextAt_later rfl rfl tie noOwnUnsafe
theorem templateNamesUpto_row_tie : Rows.templateNamesUptoRow.laidByTextAt .later Tryz.pinned [.mappedDeep, .funcs, .mapped] true :=
  OpenClaim.laidByTextAt_later rfl rfl tie noOwnUnsafe
end Go.Proofs.YtpnllbdffdpoaaaGreatDoor
