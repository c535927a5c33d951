/-
  No cell of these rows narrows 'for every input' (looked for: loops, veiled, ifaces, maps, wideKeys, modest, calm, conditions, laid).
  DERIVED. THE GIVEN ROWS OF THIS SEAT. 6 by the template 'for every input the law returns true; each argument reads behind the call as it read before'; 0 by the template 'total and deterministic' (their statements: YtofhfbojgbhdcaaTotals.lean).
  GIVEN WITH THE SEED: the statements are not yours to turn. If you find one false, say at which input.
  Laid BY PROGRAM, IN A SANDBOX (cutbox-rows.mjs): the forced cells as the released guide's own fill.sh prints them over the translation ebb1bd07d4a0154a… (all of the seat's roots in one cut). By AI agents, Wed Nov 11 2026. No macro, syntax, notation, axiom, sorry.
-/
import Derived.Test.YtofhfbojgbhdcaaChecked
import GoSem.Claim
import GoSem.ClaimJoined
import GoSem.ClaimMapViews
import Derived.JoinedTies
import Derived.KernelRfl
namespace Go.Proofs.Ytofhfbojgbhdcaa
/- THE CELL 'sum', in the pinned program and in every row, IS THE sha256 OF THE DUMP (.gsa) THAT YtofhfbojgbhdcaaProg.lean LOADS. Nothing in Lean hashes anything: it is a label: what it is worth is what the hold of that sum in a sandbox is worth. -/
noncomputable def Try.pinned : Pinned := { name := "ytofhfbojgbhdcaa", sum := "ebb1bd07d4a0154a6c66083513d428cfe3b374ef15c05c1ad68d53e8b821b703", checked := Try.checked }
namespace Rows
def none {H : Type} : Left H := { results := [], args := [] }

/-- 'laws.FnExactCountApart': WHATEVER THE INPUT: true; the input reads as it did. -/
def fnExactCountApartSpec : ChangeSpec := { name := "fnExactCountApart", fn := fun _ => fun
  | [d1, d2] => { results := [.lit (.bool true)], args := [d1, d2] }
  | _ => none }
def fnExactCountApartRow : OpenClaim := { program := "ytofhfbojgbhdcaa", sum := "ebb1bd07d4a0154a6c66083513d428cfe3b374ef15c05c1ad68d53e8b821b703", func := "loop.example/g01335/laws.FnExactCountApart", spec := "fnExactCountApart", apart := false }
def FnExactCountApartSaid : Prop := fnExactCountApartRow.holds Try.pinned (OpenSpec.ofChange fnExactCountApartSpec)

/-- ITS FALSE NEIGHBOUR: 'it returns false'. Refute it at one input. -/
def fnExactCountApartWrong : ChangeSpec := { name := "fnExactCountApart", fn := fun _ => fun
  | [d1, d2] => { results := [.lit (.bool false)], args := [d1, d2] }
  | _ => none }
def FnExactCountApartWrongFalsely : Prop := fnExactCountApartRow.holds Try.pinned (OpenSpec.ofChange fnExactCountApartWrong)

/-- 'laws.FnExactRideAndWalk': WHATEVER THE INPUT: true; the input reads as it did. -/
def fnExactRideAndWalkSpec : ChangeSpec := { name := "fnExactRideAndWalk", fn := fun _ => fun
  | [d1, d2, d3, d4] => { results := [.lit (.bool true)], args := [d1, d2, d3, d4] }
  | _ => none }
def fnExactRideAndWalkRow : OpenClaim := { program := "ytofhfbojgbhdcaa", sum := "ebb1bd07d4a0154a6c66083513d428cfe3b374ef15c05c1ad68d53e8b821b703", func := "loop.example/g01335/laws.FnExactRideAndWalk", spec := "fnExactRideAndWalk", apart := false }
def FnExactRideAndWalkSaid : Prop := fnExactRideAndWalkRow.holds Try.pinned (OpenSpec.ofChange fnExactRideAndWalkSpec)

/-- ITS FALSE NEIGHBOUR: 'it returns false'. Refute it at one input. -/
def fnExactRideAndWalkWrong : ChangeSpec := { name := "fnExactRideAndWalk", fn := fun _ => fun
  | [d1, d2, d3, d4] => { results := [.lit (.bool false)], args := [d1, d2, d3, d4] }
  | _ => none }
def FnExactRideAndWalkWrongFalsely : Prop := fnExactRideAndWalkRow.holds Try.pinned (OpenSpec.ofChange fnExactRideAndWalkWrong)

/-- 'laws.FnExactSharedBicycle': WHATEVER THE INPUT: true; the input reads as it did. -/
def fnExactSharedBicycleSpec : ChangeSpec := { name := "fnExactSharedBicycle", fn := fun _ => fun
  | [d1, d2, d3] => { results := [.lit (.bool true)], args := [d1, d2, d3] }
  | _ => none }
def fnExactSharedBicycleRow : OpenClaim := { program := "ytofhfbojgbhdcaa", sum := "ebb1bd07d4a0154a6c66083513d428cfe3b374ef15c05c1ad68d53e8b821b703", func := "loop.example/g01335/laws.FnExactSharedBicycle", spec := "fnExactSharedBicycle", apart := false }
def FnExactSharedBicycleSaid : Prop := fnExactSharedBicycleRow.holds Try.pinned (OpenSpec.ofChange fnExactSharedBicycleSpec)

/-- ITS FALSE NEIGHBOUR: 'it returns false'. Refute it at one input. -/
def fnExactSharedBicycleWrong : ChangeSpec := { name := "fnExactSharedBicycle", fn := fun _ => fun
  | [d1, d2, d3] => { results := [.lit (.bool false)], args := [d1, d2, d3] }
  | _ => none }
def FnExactSharedBicycleWrongFalsely : Prop := fnExactSharedBicycleRow.holds Try.pinned (OpenSpec.ofChange fnExactSharedBicycleWrong)

/-- 'laws.FnExactAreLegs': WHATEVER THE INPUT: true; the input reads as it did. -/
def fnExactAreLegsSpec : ChangeSpec := { name := "fnExactAreLegs", fn := fun _ => fun
  | [d] => { results := [.lit (.bool true)], args := [d] }
  | _ => none }
def fnExactAreLegsRow : OpenClaim := { program := "ytofhfbojgbhdcaa", sum := "ebb1bd07d4a0154a6c66083513d428cfe3b374ef15c05c1ad68d53e8b821b703", func := "loop.example/g01335/laws.FnExactAreLegs", spec := "fnExactAreLegs", unfollowed := true, recurses := true, apart := false }
def FnExactAreLegsSaid : Prop := fnExactAreLegsRow.holds Try.pinned (OpenSpec.ofChange fnExactAreLegsSpec)

/-- ITS FALSE NEIGHBOUR: 'it returns false'. Refute it at one input. -/
def fnExactAreLegsWrong : ChangeSpec := { name := "fnExactAreLegs", fn := fun _ => fun
  | [d] => { results := [.lit (.bool false)], args := [d] }
  | _ => none }
def FnExactAreLegsWrongFalsely : Prop := fnExactAreLegsRow.holds Try.pinned (OpenSpec.ofChange fnExactAreLegsWrong)

/-- 'laws.FnExactIsLine': WHATEVER THE INPUT: true; the input reads as it did. -/
def fnExactIsLineSpec : ChangeSpec := { name := "fnExactIsLine", fn := fun _ => fun
  | [d] => { results := [.lit (.bool true)], args := [d] }
  | _ => none }
def fnExactIsLineRow : OpenClaim := { program := "ytofhfbojgbhdcaa", sum := "ebb1bd07d4a0154a6c66083513d428cfe3b374ef15c05c1ad68d53e8b821b703", func := "loop.example/g01335/laws.FnExactIsLine", spec := "fnExactIsLine", apart := false }
def FnExactIsLineSaid : Prop := fnExactIsLineRow.holds Try.pinned (OpenSpec.ofChange fnExactIsLineSpec)

/-- ITS FALSE NEIGHBOUR: 'it returns false'. Refute it at one input. -/
def fnExactIsLineWrong : ChangeSpec := { name := "fnExactIsLine", fn := fun _ => fun
  | [d] => { results := [.lit (.bool false)], args := [d] }
  | _ => none }
def FnExactIsLineWrongFalsely : Prop := fnExactIsLineRow.holds Try.pinned (OpenSpec.ofChange fnExactIsLineWrong)

/-- 'laws.FnExactSlowestLeg': WHATEVER THE INPUT: true; the input reads as it did. -/
def fnExactSlowestLegSpec : ChangeSpec := { name := "fnExactSlowestLeg", fn := fun _ => fun
  | [d] => { results := [.lit (.bool true)], args := [d] }
  | _ => none }
def fnExactSlowestLegRow : OpenClaim := { program := "ytofhfbojgbhdcaa", sum := "ebb1bd07d4a0154a6c66083513d428cfe3b374ef15c05c1ad68d53e8b821b703", func := "loop.example/g01335/laws.FnExactSlowestLeg", spec := "fnExactSlowestLeg", unfollowed := true, recurses := true, apart := false }
def FnExactSlowestLegSaid : Prop := fnExactSlowestLegRow.holds Try.pinned (OpenSpec.ofChange fnExactSlowestLegSpec)

/-- ITS FALSE NEIGHBOUR: 'it returns false'. Refute it at one input. -/
def fnExactSlowestLegWrong : ChangeSpec := { name := "fnExactSlowestLeg", fn := fun _ => fun
  | [d] => { results := [.lit (.bool false)], args := [d] }
  | _ => none }
def FnExactSlowestLegWrongFalsely : Prop := fnExactSlowestLegRow.holds Try.pinned (OpenSpec.ofChange fnExactSlowestLegWrong)

/- THE SECOND FORM. 'bulk': how many values and letters a reading holds, each counted each time it is reached (what is shared counts as often as it is met; a slice's spare places count too). A statement '..UptoSaid' is the law's where the arguments, and the package variables that the reading takes, are together of bulk at most 1048576: NARROWER than '..Said'. Prove '..Said' where nothing that the law and all that it calls make is longer than what came in: it says more and counts as full. Else prove '..UptoSaid'. A law counts once. -/
mutual
def uptoBulk {H : Type} : DataW H → Nat
  | .lit (.string bytes) => bytes.length + 1
  | .lit _ => 1
  | .nil => 1
  | .ptr d => uptoBulk d + 1
  | .slice elems spare => uptoBulkAll elems + uptoBulkAll spare + 1
  | .agg parts => uptoBulkAll parts + 1
  | .iface _ d => uptoBulk d + 1
  | .map entries => uptoBulkEntries entries + 1
  | .held _ => 1
def uptoBulkAll {H : Type} : List (DataW H) → Nat
  | [] => 0
  | d :: r => uptoBulk d + uptoBulkAll r
def uptoBulkEntries {H : Type} : List (Lit × DataW H) → Nat
  | [] => 0
  | x :: r => uptoBulkEntry x + uptoBulkEntries r
def uptoBulkEntry {H : Type} : Lit × DataW H → Nat
  | (.string bytes, d) => bytes.length + uptoBulk d + 1
  | (_, d) => uptoBulk d + 1
 end
def uptoSmall : (H : Type) → List (DataW H) → Bool := fun _ ds => decide (uptoBulkAll ds ≤ 1048576)
def OpenSpec.upto (s : _root_.Go.ChangeSpec) : _root_.Go.OpenSpec := { _root_.Go.OpenSpec.ofChange s with cond := some uptoSmall }

/-- 'laws.FnExactCountApart', WHERE WHAT IT READS IS OF BULK AT MOST 1048576: true; the input reads as it did. -/
def fnExactCountApartUptoRow : OpenClaim := { program := "ytofhfbojgbhdcaa", sum := "ebb1bd07d4a0154a6c66083513d428cfe3b374ef15c05c1ad68d53e8b821b703", func := "loop.example/g01335/laws.FnExactCountApart", spec := "fnExactCountApart", apart := false, narrowed := true }
def FnExactCountApartUptoSaid : Prop := fnExactCountApartUptoRow.holds Try.pinned (OpenSpec.upto fnExactCountApartSpec)

/-- 'laws.FnExactRideAndWalk', WHERE WHAT IT READS IS OF BULK AT MOST 1048576: true; the input reads as it did. -/
def fnExactRideAndWalkUptoRow : OpenClaim := { program := "ytofhfbojgbhdcaa", sum := "ebb1bd07d4a0154a6c66083513d428cfe3b374ef15c05c1ad68d53e8b821b703", func := "loop.example/g01335/laws.FnExactRideAndWalk", spec := "fnExactRideAndWalk", apart := false, narrowed := true }
def FnExactRideAndWalkUptoSaid : Prop := fnExactRideAndWalkUptoRow.holds Try.pinned (OpenSpec.upto fnExactRideAndWalkSpec)

/-- 'laws.FnExactSharedBicycle', WHERE WHAT IT READS IS OF BULK AT MOST 1048576: true; the input reads as it did. -/
def fnExactSharedBicycleUptoRow : OpenClaim := { program := "ytofhfbojgbhdcaa", sum := "ebb1bd07d4a0154a6c66083513d428cfe3b374ef15c05c1ad68d53e8b821b703", func := "loop.example/g01335/laws.FnExactSharedBicycle", spec := "fnExactSharedBicycle", apart := false, narrowed := true }
def FnExactSharedBicycleUptoSaid : Prop := fnExactSharedBicycleUptoRow.holds Try.pinned (OpenSpec.upto fnExactSharedBicycleSpec)

/-- 'laws.FnExactAreLegs', WHERE WHAT IT READS IS OF BULK AT MOST 1048576: true; the input reads as it did. -/
def fnExactAreLegsUptoRow : OpenClaim := { program := "ytofhfbojgbhdcaa", sum := "ebb1bd07d4a0154a6c66083513d428cfe3b374ef15c05c1ad68d53e8b821b703", func := "loop.example/g01335/laws.FnExactAreLegs", spec := "fnExactAreLegs", unfollowed := true, recurses := true, apart := false, narrowed := true }
def FnExactAreLegsUptoSaid : Prop := fnExactAreLegsUptoRow.holds Try.pinned (OpenSpec.upto fnExactAreLegsSpec)

/-- 'laws.FnExactIsLine', WHERE WHAT IT READS IS OF BULK AT MOST 1048576: true; the input reads as it did. -/
def fnExactIsLineUptoRow : OpenClaim := { program := "ytofhfbojgbhdcaa", sum := "ebb1bd07d4a0154a6c66083513d428cfe3b374ef15c05c1ad68d53e8b821b703", func := "loop.example/g01335/laws.FnExactIsLine", spec := "fnExactIsLine", apart := false, narrowed := true }
def FnExactIsLineUptoSaid : Prop := fnExactIsLineUptoRow.holds Try.pinned (OpenSpec.upto fnExactIsLineSpec)

/-- 'laws.FnExactSlowestLeg', WHERE WHAT IT READS IS OF BULK AT MOST 1048576: true; the input reads as it did. -/
def fnExactSlowestLegUptoRow : OpenClaim := { program := "ytofhfbojgbhdcaa", sum := "ebb1bd07d4a0154a6c66083513d428cfe3b374ef15c05c1ad68d53e8b821b703", func := "loop.example/g01335/laws.FnExactSlowestLeg", spec := "fnExactSlowestLeg", unfollowed := true, recurses := true, apart := false, narrowed := true }
def FnExactSlowestLegUptoSaid : Prop := fnExactSlowestLegUptoRow.holds Try.pinned (OpenSpec.upto fnExactSlowestLegSpec)

end Rows
end Go.Proofs.Ytofhfbojgbhdcaa
