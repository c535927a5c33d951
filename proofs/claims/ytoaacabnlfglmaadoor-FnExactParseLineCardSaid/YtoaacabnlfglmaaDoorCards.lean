/-
  DERIVED. GIVEN WITH THE SEED: THE CARDS: each row of YtoaacabnlfglmaaDoorRows.lean that lists a variable, with what it lists TIED to the program's text (the seventh form; the later family's looks); each row that meets fmt, with fmt's text TOLD by the authors' own Lean function (tested against real Go, not proved from fmt's source: count such statements apart). THE CARD IS WHAT COUNTS. Prove the row's statement (the work); the ties are given (YtoaacabnlfglmaaDoorTie.lean); close each card by the builder's one call (the guide's Derived/Test/ToyasCard.lean, 'card_holds'). Laid BY PROGRAM, IN A SANDBOX (cutbox-door.mjs). By AI agents, Wed Nov 11 2026. No macro, syntax, notation, axiom, sorry.
-/
import Derived.Test.YtoaacabnlfglmaaDoorRows
import GoSem.ClaimSeven
namespace Go.Proofs.YtoaacabnlfglmaaDoor
namespace Rows

/-- THE TIED CARD OF 'laws.FnExactTrainText'. -/
def fnExactTrainTextCard : Claim7 := { stood := { row := fnExactTrainTextRow, standIns := [], harness := (true, "f6d39109e27f1a83681a15dda9fa153af9a067f2c295c96e663dcaf19bdef25d"), looks := true }, kinds := [], alts := [], laidByText := true, laidKinds := [.data, .data, .data], laidTests := true, laidLooks := .later }
def FnExactTrainTextCardSaid : Prop := Claim7.holds Tryd.pinned (.plain (OpenSpec.ofChange fnExactTrainTextSpec)) fnExactTrainTextCard

/-- THE TIED CARD OF 'laws.FnExactLegsText'. -/
def fnExactLegsTextCard : Claim7 := { stood := { row := fnExactLegsTextRow, standIns := [], harness := (true, "f6d39109e27f1a83681a15dda9fa153af9a067f2c295c96e663dcaf19bdef25d"), looks := true }, kinds := [], alts := [], laidByText := true, laidKinds := [.data, .data, .data], laidTests := true, laidLooks := .later }
def FnExactLegsTextCardSaid : Prop := Claim7.holds Tryd.pinned (.plain (OpenSpec.ofChange fnExactLegsTextSpec)) fnExactLegsTextCard

/-- THE TIED CARD OF 'laws.FnExactLineText'. -/
def fnExactLineTextCard : Claim7 := { stood := { row := fnExactLineTextRow, standIns := [], harness := (true, "f6d39109e27f1a83681a15dda9fa153af9a067f2c295c96e663dcaf19bdef25d"), looks := true }, kinds := [], alts := [], laidByText := true, laidKinds := [.data, .data, .data], laidTests := true, laidLooks := .later }
def FnExactLineTextCardSaid : Prop := Claim7.holds Tryd.pinned (.plain (OpenSpec.ofChange fnExactLineTextSpec)) fnExactLineTextCard

/-- THE TIED CARD OF 'laws.FnExactParseTrain'. -/
def fnExactParseTrainCard : Claim7 := { stood := { row := fnExactParseTrainRow, standIns := [], harness := (true, "f6d39109e27f1a83681a15dda9fa153af9a067f2c295c96e663dcaf19bdef25d"), looks := true }, kinds := [], alts := [], laidByText := true, laidKinds := [.data, .data, .data, .data, .sentinel, .sentinel, .pinned], laidTests := true, laidLooks := .later }
def FnExactParseTrainCardSaid : Prop := Claim7.holds Tryd.pinned (.plain (OpenSpec.ofChange fnExactParseTrainSpec)) fnExactParseTrainCard

/-- THE TIED CARD OF 'laws.FnExactParseLegs'. -/
def fnExactParseLegsCard : Claim7 := { stood := { row := fnExactParseLegsRow, standIns := [], harness := (true, "f6d39109e27f1a83681a15dda9fa153af9a067f2c295c96e663dcaf19bdef25d"), looks := true }, kinds := [], alts := [], laidByText := true, laidKinds := [.data, .data, .data, .data, .sentinel, .sentinel, .pinned], laidTests := true, laidLooks := .later }
def FnExactParseLegsCardSaid : Prop := Claim7.holds Tryd.pinned (.plain (OpenSpec.ofChange fnExactParseLegsSpec)) fnExactParseLegsCard

/-- THE TIED CARD OF 'laws.FnExactParseLine'. -/
def fnExactParseLineCard : Claim7 := { stood := { row := fnExactParseLineRow, standIns := [], harness := (true, "f6d39109e27f1a83681a15dda9fa153af9a067f2c295c96e663dcaf19bdef25d"), looks := true }, kinds := [], alts := [], laidByText := true, laidKinds := [.data, .data, .data, .data, .sentinel, .sentinel, .pinned], laidTests := true, laidLooks := .later }
def FnExactParseLineCardSaid : Prop := Claim7.holds Tryd.pinned (.plain (OpenSpec.ofChange fnExactParseLineSpec)) fnExactParseLineCard

/-- THE SECOND FORM's CARD OF 'laws.FnExactTrainText'. -/
def fnExactTrainTextUptoCard : Claim7 := { stood := { row := fnExactTrainTextUptoRow, standIns := [], harness := (true, "f6d39109e27f1a83681a15dda9fa153af9a067f2c295c96e663dcaf19bdef25d"), looks := true }, kinds := [], alts := [], laidByText := true, laidKinds := [.data, .data, .data], laidTests := true, laidLooks := .later }
def FnExactTrainTextUptoCardSaid : Prop := Claim7.holds Tryd.pinned (.plain (OpenSpec.upto fnExactTrainTextSpec)) fnExactTrainTextUptoCard

/-- THE SECOND FORM's CARD OF 'laws.FnExactLegsText'. -/
def fnExactLegsTextUptoCard : Claim7 := { stood := { row := fnExactLegsTextUptoRow, standIns := [], harness := (true, "f6d39109e27f1a83681a15dda9fa153af9a067f2c295c96e663dcaf19bdef25d"), looks := true }, kinds := [], alts := [], laidByText := true, laidKinds := [.data, .data, .data], laidTests := true, laidLooks := .later }
def FnExactLegsTextUptoCardSaid : Prop := Claim7.holds Tryd.pinned (.plain (OpenSpec.upto fnExactLegsTextSpec)) fnExactLegsTextUptoCard

/-- THE SECOND FORM's CARD OF 'laws.FnExactLineText'. -/
def fnExactLineTextUptoCard : Claim7 := { stood := { row := fnExactLineTextUptoRow, standIns := [], harness := (true, "f6d39109e27f1a83681a15dda9fa153af9a067f2c295c96e663dcaf19bdef25d"), looks := true }, kinds := [], alts := [], laidByText := true, laidKinds := [.data, .data, .data], laidTests := true, laidLooks := .later }
def FnExactLineTextUptoCardSaid : Prop := Claim7.holds Tryd.pinned (.plain (OpenSpec.upto fnExactLineTextSpec)) fnExactLineTextUptoCard

/-- THE SECOND FORM's CARD OF 'laws.FnExactParseTrain'. -/
def fnExactParseTrainUptoCard : Claim7 := { stood := { row := fnExactParseTrainUptoRow, standIns := [], harness := (true, "f6d39109e27f1a83681a15dda9fa153af9a067f2c295c96e663dcaf19bdef25d"), looks := true }, kinds := [], alts := [], laidByText := true, laidKinds := [.data, .data, .data, .data, .sentinel, .sentinel, .pinned], laidTests := true, laidLooks := .later }
def FnExactParseTrainUptoCardSaid : Prop := Claim7.holds Tryd.pinned (.plain (OpenSpec.upto fnExactParseTrainSpec)) fnExactParseTrainUptoCard

/-- THE SECOND FORM's CARD OF 'laws.FnExactParseLegs'. -/
def fnExactParseLegsUptoCard : Claim7 := { stood := { row := fnExactParseLegsUptoRow, standIns := [], harness := (true, "f6d39109e27f1a83681a15dda9fa153af9a067f2c295c96e663dcaf19bdef25d"), looks := true }, kinds := [], alts := [], laidByText := true, laidKinds := [.data, .data, .data, .data, .sentinel, .sentinel, .pinned], laidTests := true, laidLooks := .later }
def FnExactParseLegsUptoCardSaid : Prop := Claim7.holds Tryd.pinned (.plain (OpenSpec.upto fnExactParseLegsSpec)) fnExactParseLegsUptoCard

/-- THE SECOND FORM's CARD OF 'laws.FnExactParseLine'. -/
def fnExactParseLineUptoCard : Claim7 := { stood := { row := fnExactParseLineUptoRow, standIns := [], harness := (true, "f6d39109e27f1a83681a15dda9fa153af9a067f2c295c96e663dcaf19bdef25d"), looks := true }, kinds := [], alts := [], laidByText := true, laidKinds := [.data, .data, .data, .data, .sentinel, .sentinel, .pinned], laidTests := true, laidLooks := .later }
def FnExactParseLineUptoCardSaid : Prop := Claim7.holds Tryd.pinned (.plain (OpenSpec.upto fnExactParseLineSpec)) fnExactParseLineUptoCard
end Rows
end Go.Proofs.YtoaacabnlfglmaaDoor
