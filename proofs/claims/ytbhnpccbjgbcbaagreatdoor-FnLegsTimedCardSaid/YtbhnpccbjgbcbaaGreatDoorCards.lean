/-
  DERIVED. GIVEN WITH THE SEED: THE CARDS: each row of YtbhnpccbjgbcbaaGreatDoorRows.lean that lists a variable, with what it lists TIED to the program's text (the seventh form; the later family's looks); each row that meets fmt, with fmt's text TOLD by the authors' own Lean function (tested against real Go, not proved from fmt's source: count such statements apart). THE CARD IS WHAT COUNTS. Prove the row's statement (the work); the ties are given (YtbhnpccbjgbcbaaGreatDoorTie.lean); close each card by the builder's one call (the guide's Derived/Test/ToyasCard.lean, 'card_holds'). Laid BY PROGRAM, IN A SANDBOX (cutbox-door.mjs). By AI agents, Wed Nov 11 2026. No macro, syntax, notation, axiom, sorry.
-/
import Derived.Test.YtbhnpccbjgbcbaaGreatDoorRows
import GoSem.ClaimSeven
namespace Go.Proofs.YtbhnpccbjgbcbaaGreatDoor
namespace Rows

/-- THE TIED CARD OF 'laws.FnLegsTimedOfAll'. -/
def fnLegsTimedOfAllCard : Claim7 := { stood := { row := fnLegsTimedOfAllRow, standIns := [], harness := (true, "84bcbe29d97e9847be8489f580734a7d0d422442ed61a91ed00ae6962b26df4a"), looks := true }, kinds := [], alts := [], laidByText := true, laidKinds := [.data, .data, .data, .data, .sentinel, .sentinel, .pinned], laidTests := true, laidLooks := .later }
def FnLegsTimedOfAllCardSaid : Prop := Claim7.holds Tryz.pinned (.plain (OpenSpec.ofChange fnLegsTimedOfAllSpec)) fnLegsTimedOfAllCard

/-- THE TIED CARD OF 'laws.FnLegsTimed'. -/
def fnLegsTimedCard : Claim7 := { stood := { row := fnLegsTimedRow, standIns := [], harness := (true, "84bcbe29d97e9847be8489f580734a7d0d422442ed61a91ed00ae6962b26df4a"), looks := true }, kinds := [], alts := [], laidByText := true, laidKinds := [.data, .data, .data, .data, .sentinel, .sentinel, .pinned], laidTests := true, laidLooks := .later }
def FnLegsTimedCardSaid : Prop := Claim7.holds Tryz.pinned (.plain (OpenSpec.ofChange fnLegsTimedSpec)) fnLegsTimedCard

/-- THE SECOND FORM's CARD OF 'laws.FnLegsTimedOfAll'. -/
def fnLegsTimedOfAllUptoCard : Claim7 := { stood := { row := fnLegsTimedOfAllUptoRow, standIns := [], harness := (true, "84bcbe29d97e9847be8489f580734a7d0d422442ed61a91ed00ae6962b26df4a"), looks := true }, kinds := [], alts := [], laidByText := true, laidKinds := [.data, .data, .data, .data, .sentinel, .sentinel, .pinned], laidTests := true, laidLooks := .later }
def FnLegsTimedOfAllUptoCardSaid : Prop := Claim7.holds Tryz.pinned (.plain (OpenSpec.upto fnLegsTimedOfAllSpec)) fnLegsTimedOfAllUptoCard

/-- THE SECOND FORM's CARD OF 'laws.FnLegsTimed'. -/
def fnLegsTimedUptoCard : Claim7 := { stood := { row := fnLegsTimedUptoRow, standIns := [], harness := (true, "84bcbe29d97e9847be8489f580734a7d0d422442ed61a91ed00ae6962b26df4a"), looks := true }, kinds := [], alts := [], laidByText := true, laidKinds := [.data, .data, .data, .data, .sentinel, .sentinel, .pinned], laidTests := true, laidLooks := .later }
def FnLegsTimedUptoCardSaid : Prop := Claim7.holds Tryz.pinned (.plain (OpenSpec.upto fnLegsTimedSpec)) fnLegsTimedUptoCard
end Rows
end Go.Proofs.YtbhnpccbjgbcbaaGreatDoor
