/-
  DERIVED. GIVEN WITH THE SEED: THE CARDS: each row of YthdnodmidbcgpaaGreatDoorRows.lean that lists a variable, with what it lists TIED to the program's text (the seventh form; the later family's looks); each row that meets fmt, with fmt's text TOLD by the authors' own Lean function (tested against real Go, not proved from fmt's source: count such statements apart). THE CARD IS WHAT COUNTS. Prove the row's statement (the work); the ties are given (YthdnodmidbcgpaaGreatDoorTie.lean); close each card by the builder's one call (the guide's Derived/Test/ToyasCard.lean, 'card_holds'). Laid BY PROGRAM, IN A SANDBOX (cutbox-door.mjs). By AI agents, Wed Nov 11 2026. No macro, syntax, notation, axiom, sorry.
-/
import Derived.Test.YthdnodmidbcgpaaGreatDoorRows
import GoSem.ClaimSeven
namespace Go.Proofs.YthdnodmidbcgpaaGreatDoor
namespace Rows

/-- THE TIED CARD OF 'laws.FnBusesRun'. -/
def fnBusesRunCard : Claim7 := { stood := { row := fnBusesRunRow, standIns := [], harness := (true, "7b83286aa57d4593924d34a949715f63c8b4b3df9ca75ad70a8858a5af5b4512"), looks := true }, kinds := [], alts := [], laidByText := true, laidKinds := [.data, .data, .data, .data, .sentinel, .sentinel, .pinned], laidTests := true, laidLooks := .later }
def FnBusesRunCardSaid : Prop := Claim7.holds Tryz.pinned (.plain (OpenSpec.ofChange fnBusesRunSpec)) fnBusesRunCard

/-- THE SECOND FORM's CARD OF 'laws.FnBusesRun'. -/
def fnBusesRunUptoCard : Claim7 := { stood := { row := fnBusesRunUptoRow, standIns := [], harness := (true, "7b83286aa57d4593924d34a949715f63c8b4b3df9ca75ad70a8858a5af5b4512"), looks := true }, kinds := [], alts := [], laidByText := true, laidKinds := [.data, .data, .data, .data, .sentinel, .sentinel, .pinned], laidTests := true, laidLooks := .later }
def FnBusesRunUptoCardSaid : Prop := Claim7.holds Tryz.pinned (.plain (OpenSpec.upto fnBusesRunSpec)) fnBusesRunUptoCard
end Rows
end Go.Proofs.YthdnodmidbcgpaaGreatDoor
