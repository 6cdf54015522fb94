/-
  DERIVED. GIVEN WITH THE SEED: THE CARDS: each row of YtmebjiaogdkfpaaDoorRows.lean that lists a variable, with what it lists TIED to the program's text (the seventh form; the later family's looks); each row that meets fmt, with fmt's text TOLD by the authors' own Lean function (tested against real Go, not proved from fmt's source: count such statements apart). THE CARD IS WHAT COUNTS. Prove the row's statement (the work); the ties are given (YtmebjiaogdkfpaaDoorTie.lean); close each card by the builder's one call (the guide's Derived/Test/ToyasCard.lean, 'card_holds'). Laid BY PROGRAM, IN A SANDBOX (cutbox-door.mjs). By AI agents, Wed Nov 11 2026. No macro, syntax, notation, axiom, sorry.
-/
import Derived.Test.YtmebjiaogdkfpaaDoorRows
import GoSem.ClaimSeven
namespace Go.Proofs.YtmebjiaogdkfpaaDoor
namespace Rows

/-- THE TIED CARD OF 'novationlaw08.ObservableLocal'. -/
def observableLocalCard : Claim7 := { stood := { row := observableLocalRow, standIns := [], harness := (true, "18a95e671ad8668c5004985c3c74422b3fb37ea83b85c6b4f47e8e2ae29b764e"), looks := false }, kinds := [], alts := [], laidByText := true, laidKinds := [.mappedDeep, .funcs], laidTests := true, laidLooks := .later }
def ObservableLocalCardSaid : Prop := Claim7.holds Tryd.pinned (.plain (OpenSpec.ofChange observableLocalSpec)) observableLocalCard

/-- THE TIED CARD OF 'novationlaw08.ObservableLogic'. -/
def observableLogicCard : Claim7 := { stood := { row := observableLogicRow, standIns := [], harness := (true, "18a95e671ad8668c5004985c3c74422b3fb37ea83b85c6b4f47e8e2ae29b764e"), looks := false }, kinds := [], alts := [], laidByText := true, laidKinds := [.mappedDeep, .funcs], laidTests := true, laidLooks := .later }
def ObservableLogicCardSaid : Prop := Claim7.holds Tryd.pinned (.plain (OpenSpec.ofChange observableLogicSpec)) observableLogicCard

/-- THE TIED CARD OF 'novationlaw08.ObservablePuts'. -/
def observablePutsCard : Claim7 := { stood := { row := observablePutsRow, standIns := [], harness := (true, "18a95e671ad8668c5004985c3c74422b3fb37ea83b85c6b4f47e8e2ae29b764e"), looks := false }, kinds := [], alts := [], laidByText := true, laidKinds := [.mappedDeep, .funcs], laidTests := true, laidLooks := .later }
def ObservablePutsCardSaid : Prop := Claim7.holds Tryd.pinned (.plain (OpenSpec.ofChange observablePutsSpec)) observablePutsCard

/-- THE TIED CARD OF 'novationlaw08.ObservableNames'. -/
def observableNamesCard : Claim7 := { stood := { row := observableNamesRow, standIns := [], harness := (true, "18a95e671ad8668c5004985c3c74422b3fb37ea83b85c6b4f47e8e2ae29b764e"), looks := false }, kinds := [], alts := [], laidByText := true, laidKinds := [.mappedDeep, .funcs], laidTests := true, laidLooks := .later }
def ObservableNamesCardSaid : Prop := Claim7.holds Tryd.pinned (.plain (OpenSpec.ofChange observableNamesSpec)) observableNamesCard

/-- THE SECOND FORM's CARD OF 'novationlaw08.ObservableLocal'. -/
def observableLocalUptoCard : Claim7 := { stood := { row := observableLocalUptoRow, standIns := [], harness := (true, "18a95e671ad8668c5004985c3c74422b3fb37ea83b85c6b4f47e8e2ae29b764e"), looks := false }, kinds := [], alts := [], laidByText := true, laidKinds := [.mappedDeep, .funcs], laidTests := true, laidLooks := .later }
def ObservableLocalUptoCardSaid : Prop := Claim7.holds Tryd.pinned (.plain (OpenSpec.upto observableLocalSpec)) observableLocalUptoCard

/-- THE SECOND FORM's CARD OF 'novationlaw08.ObservableLogic'. -/
def observableLogicUptoCard : Claim7 := { stood := { row := observableLogicUptoRow, standIns := [], harness := (true, "18a95e671ad8668c5004985c3c74422b3fb37ea83b85c6b4f47e8e2ae29b764e"), looks := false }, kinds := [], alts := [], laidByText := true, laidKinds := [.mappedDeep, .funcs], laidTests := true, laidLooks := .later }
def ObservableLogicUptoCardSaid : Prop := Claim7.holds Tryd.pinned (.plain (OpenSpec.upto observableLogicSpec)) observableLogicUptoCard

/-- THE SECOND FORM's CARD OF 'novationlaw08.ObservablePuts'. -/
def observablePutsUptoCard : Claim7 := { stood := { row := observablePutsUptoRow, standIns := [], harness := (true, "18a95e671ad8668c5004985c3c74422b3fb37ea83b85c6b4f47e8e2ae29b764e"), looks := false }, kinds := [], alts := [], laidByText := true, laidKinds := [.mappedDeep, .funcs], laidTests := true, laidLooks := .later }
def ObservablePutsUptoCardSaid : Prop := Claim7.holds Tryd.pinned (.plain (OpenSpec.upto observablePutsSpec)) observablePutsUptoCard

/-- THE SECOND FORM's CARD OF 'novationlaw08.ObservableNames'. -/
def observableNamesUptoCard : Claim7 := { stood := { row := observableNamesUptoRow, standIns := [], harness := (true, "18a95e671ad8668c5004985c3c74422b3fb37ea83b85c6b4f47e8e2ae29b764e"), looks := false }, kinds := [], alts := [], laidByText := true, laidKinds := [.mappedDeep, .funcs], laidTests := true, laidLooks := .later }
def ObservableNamesUptoCardSaid : Prop := Claim7.holds Tryd.pinned (.plain (OpenSpec.upto observableNamesSpec)) observableNamesUptoCard
end Rows
end Go.Proofs.YtmebjiaogdkfpaaDoor
