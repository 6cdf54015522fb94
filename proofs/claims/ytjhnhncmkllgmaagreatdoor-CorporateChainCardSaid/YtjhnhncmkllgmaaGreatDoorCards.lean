/-
  DERIVED. GIVEN WITH THE SEED: THE CARDS: each row of YtjhnhncmkllgmaaGreatDoorRows.lean that lists a variable, with what it lists TIED to the program's text (the seventh form; the later family's looks); each row that meets fmt, with fmt's text TOLD by the authors' own Lean function (tested against real Go, not proved from fmt's source: count such statements apart). THE CARD IS WHAT COUNTS. Prove the row's statement (the work); the ties are given (YtjhnhncmkllgmaaGreatDoorTie.lean); close each card by the builder's one call (the guide's Derived/Test/ToyasCard.lean, 'card_holds'). Laid BY PROGRAM, IN A SANDBOX (cutbox-door.mjs). By AI agents, Wed Nov 11 2026. No macro, syntax, notation, axiom, sorry.
-/
import Derived.Test.YtjhnhncmkllgmaaGreatDoorRows
import GoSem.ClaimSeven
namespace Go.Proofs.YtjhnhncmkllgmaaGreatDoor
namespace Rows

/-- THE TIED CARD OF 'novationlaw22.CorporateFlows'. -/
def corporateFlowsCard : Claim7 := { stood := { row := corporateFlowsRow, standIns := [], harness := (true, "00600166dce18979989580a86775c7876ed7784e2f6a6f652b783daefcc17c3d"), looks := true }, kinds := [], alts := [], laidByText := true, laidKinds := [.mappedDeep, .funcs, .mapped], laidTests := true, laidLooks := .later }
def CorporateFlowsCardSaid : Prop := Claim7.holds Tryz.pinned (.plain (OpenSpec.ofChange corporateFlowsSpec)) corporateFlowsCard

/-- THE TIED CARD OF 'novationlaw22.CorporateChain'. -/
def corporateChainCard : Claim7 := { stood := { row := corporateChainRow, standIns := [], harness := (true, "00600166dce18979989580a86775c7876ed7784e2f6a6f652b783daefcc17c3d"), looks := true }, kinds := [], alts := [], laidByText := true, laidKinds := [.mappedDeep, .funcs, .mapped], laidTests := true, laidLooks := .later }
def CorporateChainCardSaid : Prop := Claim7.holds Tryz.pinned (.plain (OpenSpec.ofChange corporateChainSpec)) corporateChainCard

/-- THE SECOND FORM's CARD OF 'novationlaw22.CorporateFlows'. -/
def corporateFlowsUptoCard : Claim7 := { stood := { row := corporateFlowsUptoRow, standIns := [], harness := (true, "00600166dce18979989580a86775c7876ed7784e2f6a6f652b783daefcc17c3d"), looks := true }, kinds := [], alts := [], laidByText := true, laidKinds := [.mappedDeep, .funcs, .mapped], laidTests := true, laidLooks := .later }
def CorporateFlowsUptoCardSaid : Prop := Claim7.holds Tryz.pinned (.plain (OpenSpec.upto corporateFlowsSpec)) corporateFlowsUptoCard

/-- THE SECOND FORM's CARD OF 'novationlaw22.CorporateChain'. -/
def corporateChainUptoCard : Claim7 := { stood := { row := corporateChainUptoRow, standIns := [], harness := (true, "00600166dce18979989580a86775c7876ed7784e2f6a6f652b783daefcc17c3d"), looks := true }, kinds := [], alts := [], laidByText := true, laidKinds := [.mappedDeep, .funcs, .mapped], laidTests := true, laidLooks := .later }
def CorporateChainUptoCardSaid : Prop := Claim7.holds Tryz.pinned (.plain (OpenSpec.upto corporateChainSpec)) corporateChainUptoCard
end Rows
end Go.Proofs.YtjhnhncmkllgmaaGreatDoor
