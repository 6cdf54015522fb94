/-
  DERIVED. GIVEN WITH THE SEED: THE CARDS: each row of YtppdnjninbblaaaDoorRows.lean that lists a variable, with what it lists TIED to the program's text (the seventh form; the later family's looks); each row that meets fmt, with fmt's text TOLD by the authors' own Lean function (tested against real Go, not proved from fmt's source: count such statements apart). THE CARD IS WHAT COUNTS. Prove the row's statement (the work); the ties are given (YtppdnjninbblaaaDoorTie.lean); close each card by the builder's one call (the guide's Derived/Test/ToyasCard.lean, 'card_holds'). Laid BY PROGRAM, IN A SANDBOX (cutbox-door.mjs). By AI agents, Wed Nov 11 2026. No macro, syntax, notation, axiom, sorry.
-/
import Derived.Test.YtppdnjninbblaaaDoorRows
import GoSem.ClaimSeven
namespace Go.Proofs.YtppdnjninbblaaaDoor
namespace Rows

/-- THE TIED CARD OF 'novationlaw08.ObservableChecks'. -/
def observableChecksCard : Claim7 := { stood := { row := observableChecksRow, standIns := [], harness := (true, "e41f5e946afb945b6fa076553bff1bafe19479eaf0e80b8360fb409d60bb2260"), looks := false }, kinds := [], alts := [], laidByText := true, laidKinds := [.mappedDeep], laidTests := true, laidLooks := .later }
def ObservableChecksCardSaid : Prop := Claim7.holds Tryd.pinned (.plain (OpenSpec.ofChange observableChecksSpec)) observableChecksCard

/-- THE SECOND FORM's CARD OF 'novationlaw08.ObservableChecks'. -/
def observableChecksUptoCard : Claim7 := { stood := { row := observableChecksUptoRow, standIns := [], harness := (true, "e41f5e946afb945b6fa076553bff1bafe19479eaf0e80b8360fb409d60bb2260"), looks := false }, kinds := [], alts := [], laidByText := true, laidKinds := [.mappedDeep], laidTests := true, laidLooks := .later }
def ObservableChecksUptoCardSaid : Prop := Claim7.holds Tryd.pinned (.plain (OpenSpec.upto observableChecksSpec)) observableChecksUptoCard
end Rows
end Go.Proofs.YtppdnjninbblaaaDoor
