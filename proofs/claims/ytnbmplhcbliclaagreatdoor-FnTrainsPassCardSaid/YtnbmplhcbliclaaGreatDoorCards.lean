/-
  DERIVED. GIVEN WITH THE SEED: THE CARDS: each row of YtnbmplhcbliclaaGreatDoorRows.lean that lists a variable, with what it lists TIED to the program's text (the seventh form; the later family's looks); each row that meets fmt, with fmt's text TOLD by the authors' own Lean function (tested against real Go, not proved from fmt's source: count such statements apart). THE CARD IS WHAT COUNTS. Prove the row's statement (the work); the ties are given (YtnbmplhcbliclaaGreatDoorTie.lean); close each card by the builder's one call (the guide's Derived/Test/ToyasCard.lean, 'card_holds'). Laid BY PROGRAM, IN A SANDBOX (cutbox-door.mjs). By AI agents, Wed Nov 11 2026. No macro, syntax, notation, axiom, sorry.
-/
import Derived.Test.YtnbmplhcbliclaaGreatDoorRows
import GoSem.ClaimSeven
namespace Go.Proofs.YtnbmplhcbliclaaGreatDoor
namespace Rows

/-- THE TIED CARD OF 'laws.FnTrainsPass'. -/
def fnTrainsPassCard : Claim7 := { stood := { row := fnTrainsPassRow, standIns := [], harness := (true, "2b644c61066511cfdcf6bc9f9a146726c2242cdf2ef1ba5cf6f8bcb4adbc6313"), looks := true }, kinds := [], alts := [], laidByText := true, laidKinds := [.data, .data, .data, .data, .sentinel, .sentinel, .pinned], laidTests := true, laidLooks := .later }
def FnTrainsPassCardSaid : Prop := Claim7.holds Tryz.pinned (.plain (OpenSpec.ofChange fnTrainsPassSpec)) fnTrainsPassCard

/-- THE SECOND FORM's CARD OF 'laws.FnTrainsPass'. -/
def fnTrainsPassUptoCard : Claim7 := { stood := { row := fnTrainsPassUptoRow, standIns := [], harness := (true, "2b644c61066511cfdcf6bc9f9a146726c2242cdf2ef1ba5cf6f8bcb4adbc6313"), looks := true }, kinds := [], alts := [], laidByText := true, laidKinds := [.data, .data, .data, .data, .sentinel, .sentinel, .pinned], laidTests := true, laidLooks := .later }
def FnTrainsPassUptoCardSaid : Prop := Claim7.holds Tryz.pinned (.plain (OpenSpec.upto fnTrainsPassSpec)) fnTrainsPassUptoCard
end Rows
end Go.Proofs.YtnbmplhcbliclaaGreatDoor
