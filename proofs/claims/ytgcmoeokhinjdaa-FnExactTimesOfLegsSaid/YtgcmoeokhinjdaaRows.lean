/-
  No cell of these rows narrows 'for every input' (looked for: loops, veiled, ifaces, maps, wideKeys, modest, calm, conditions, laid).
  DERIVED. THE GIVEN ROWS OF THIS SEAT. 12 by the template 'for every input the law returns true; each argument reads behind the call as it read before'; 0 by the template 'total and deterministic' (their statements: YtgcmoeokhinjdaaTotals.lean).
  GIVEN WITH THE SEED: the statements are not yours to turn. If you find one false, say at which input.
  Laid BY PROGRAM, IN A SANDBOX (cutbox-rows.mjs): the forced cells as the released guide's own fill.sh prints them over the translation 6761c9d4698f9d57… (all of the seat's roots in one cut). By AI agents, Wed Nov 11 2026. No macro, syntax, notation, axiom, sorry.
-/
import Derived.Test.YtgcmoeokhinjdaaChecked
import GoSem.Claim
import GoSem.ClaimJoined
import GoSem.ClaimMapViews
import Derived.JoinedTies
import Derived.KernelRfl
namespace Go.Proofs.Ytgcmoeokhinjdaa
/- THE CELL 'sum', in the pinned program and in every row, IS THE sha256 OF THE DUMP (.gsa) THAT YtgcmoeokhinjdaaProg.lean LOADS. Nothing in Lean hashes anything: it is a label: what it is worth is what the hold of that sum in a sandbox is worth. -/
noncomputable def Try.pinned : Pinned := { name := "ytgcmoeokhinjdaa", sum := "6761c9d4698f9d574a14a11692bdc98966e17d1243768942d387cc356df3d4d7", checked := Try.checked }
namespace Rows
def none {H : Type} : Left H := { results := [], args := [] }

/-- 'laws.FnExactLongOfLegs': WHATEVER THE INPUT: true; the input reads as it did. -/
def fnExactLongOfLegsSpec : ChangeSpec := { name := "fnExactLongOfLegs", fn := fun _ => fun
  | [d] => { results := [.lit (.bool true)], args := [d] }
  | _ => none }
def fnExactLongOfLegsRow : OpenClaim := { program := "ytgcmoeokhinjdaa", sum := "6761c9d4698f9d574a14a11692bdc98966e17d1243768942d387cc356df3d4d7", func := "loop.example/g01335/laws.FnExactLongOfLegs", spec := "fnExactLongOfLegs", unfollowed := true, recurses := true, apart := false }
def FnExactLongOfLegsSaid : Prop := fnExactLongOfLegsRow.holds Try.pinned (OpenSpec.ofChange fnExactLongOfLegsSpec)

/-- ITS FALSE NEIGHBOUR: 'it returns false'. Refute it at one input. -/
def fnExactLongOfLegsWrong : ChangeSpec := { name := "fnExactLongOfLegs", fn := fun _ => fun
  | [d] => { results := [.lit (.bool false)], args := [d] }
  | _ => none }
def FnExactLongOfLegsWrongFalsely : Prop := fnExactLongOfLegsRow.holds Try.pinned (OpenSpec.ofChange fnExactLongOfLegsWrong)

/-- 'laws.FnExactMeanByTimes': WHATEVER THE INPUT: true; the input reads as it did. -/
def fnExactMeanByTimesSpec : ChangeSpec := { name := "fnExactMeanByTimes", fn := fun _ => fun
  | [d] => { results := [.lit (.bool true)], args := [d] }
  | _ => none }
def fnExactMeanByTimesRow : OpenClaim := { program := "ytgcmoeokhinjdaa", sum := "6761c9d4698f9d574a14a11692bdc98966e17d1243768942d387cc356df3d4d7", func := "loop.example/g01335/laws.FnExactMeanByTimes", spec := "fnExactMeanByTimes", apart := false }
def FnExactMeanByTimesSaid : Prop := fnExactMeanByTimesRow.holds Try.pinned (OpenSpec.ofChange fnExactMeanByTimesSpec)

/-- ITS FALSE NEIGHBOUR: 'it returns false'. Refute it at one input. -/
def fnExactMeanByTimesWrong : ChangeSpec := { name := "fnExactMeanByTimes", fn := fun _ => fun
  | [d] => { results := [.lit (.bool false)], args := [d] }
  | _ => none }
def FnExactMeanByTimesWrongFalsely : Prop := fnExactMeanByTimesRow.holds Try.pinned (OpenSpec.ofChange fnExactMeanByTimesWrong)

/-- 'laws.FnExactJoinLegs': WHATEVER THE INPUT: true; the input reads as it did. -/
def fnExactJoinLegsSpec : ChangeSpec := { name := "fnExactJoinLegs", fn := fun _ => fun
  | [d] => { results := [.lit (.bool true)], args := [d] }
  | _ => none }
def fnExactJoinLegsRow : OpenClaim := { program := "ytgcmoeokhinjdaa", sum := "6761c9d4698f9d574a14a11692bdc98966e17d1243768942d387cc356df3d4d7", func := "loop.example/g01335/laws.FnExactJoinLegs", spec := "fnExactJoinLegs", unfollowed := true, recurses := true, apart := false }
def FnExactJoinLegsSaid : Prop := fnExactJoinLegsRow.holds Try.pinned (OpenSpec.ofChange fnExactJoinLegsSpec)

/-- ITS FALSE NEIGHBOUR: 'it returns false'. Refute it at one input. -/
def fnExactJoinLegsWrong : ChangeSpec := { name := "fnExactJoinLegs", fn := fun _ => fun
  | [d] => { results := [.lit (.bool false)], args := [d] }
  | _ => none }
def FnExactJoinLegsWrongFalsely : Prop := fnExactJoinLegsRow.holds Try.pinned (OpenSpec.ofChange fnExactJoinLegsWrong)

/-- 'laws.FnExactTimeOfLegs': WHATEVER THE INPUT: true; the input reads as it did. -/
def fnExactTimeOfLegsSpec : ChangeSpec := { name := "fnExactTimeOfLegs", fn := fun _ => fun
  | [d] => { results := [.lit (.bool true)], args := [d] }
  | _ => none }
def fnExactTimeOfLegsRow : OpenClaim := { program := "ytgcmoeokhinjdaa", sum := "6761c9d4698f9d574a14a11692bdc98966e17d1243768942d387cc356df3d4d7", func := "loop.example/g01335/laws.FnExactTimeOfLegs", spec := "fnExactTimeOfLegs", unfollowed := true, recurses := true, apart := false }
def FnExactTimeOfLegsSaid : Prop := fnExactTimeOfLegsRow.holds Try.pinned (OpenSpec.ofChange fnExactTimeOfLegsSpec)

/-- ITS FALSE NEIGHBOUR: 'it returns false'. Refute it at one input. -/
def fnExactTimeOfLegsWrong : ChangeSpec := { name := "fnExactTimeOfLegs", fn := fun _ => fun
  | [d] => { results := [.lit (.bool false)], args := [d] }
  | _ => none }
def FnExactTimeOfLegsWrongFalsely : Prop := fnExactTimeOfLegsRow.holds Try.pinned (OpenSpec.ofChange fnExactTimeOfLegsWrong)

/-- 'laws.FnExactMeanByHalves': WHATEVER THE INPUT: true; the input reads as it did. -/
def fnExactMeanByHalvesSpec : ChangeSpec := { name := "fnExactMeanByHalves", fn := fun _ => fun
  | [d] => { results := [.lit (.bool true)], args := [d] }
  | _ => none }
def fnExactMeanByHalvesRow : OpenClaim := { program := "ytgcmoeokhinjdaa", sum := "6761c9d4698f9d574a14a11692bdc98966e17d1243768942d387cc356df3d4d7", func := "loop.example/g01335/laws.FnExactMeanByHalves", spec := "fnExactMeanByHalves", apart := false }
def FnExactMeanByHalvesSaid : Prop := fnExactMeanByHalvesRow.holds Try.pinned (OpenSpec.ofChange fnExactMeanByHalvesSpec)

/-- ITS FALSE NEIGHBOUR: 'it returns false'. Refute it at one input. -/
def fnExactMeanByHalvesWrong : ChangeSpec := { name := "fnExactMeanByHalves", fn := fun _ => fun
  | [d] => { results := [.lit (.bool false)], args := [d] }
  | _ => none }
def FnExactMeanByHalvesWrongFalsely : Prop := fnExactMeanByHalvesRow.holds Try.pinned (OpenSpec.ofChange fnExactMeanByHalvesWrong)

/-- 'laws.FnExactMeanSpeed': WHATEVER THE INPUT: true; the input reads as it did. -/
def fnExactMeanSpeedSpec : ChangeSpec := { name := "fnExactMeanSpeed", fn := fun _ => fun
  | [d] => { results := [.lit (.bool true)], args := [d] }
  | _ => none }
def fnExactMeanSpeedRow : OpenClaim := { program := "ytgcmoeokhinjdaa", sum := "6761c9d4698f9d574a14a11692bdc98966e17d1243768942d387cc356df3d4d7", func := "loop.example/g01335/laws.FnExactMeanSpeed", spec := "fnExactMeanSpeed", unfollowed := true, recurses := true, apart := false }
def FnExactMeanSpeedSaid : Prop := fnExactMeanSpeedRow.holds Try.pinned (OpenSpec.ofChange fnExactMeanSpeedSpec)

/-- ITS FALSE NEIGHBOUR: 'it returns false'. Refute it at one input. -/
def fnExactMeanSpeedWrong : ChangeSpec := { name := "fnExactMeanSpeed", fn := fun _ => fun
  | [d] => { results := [.lit (.bool false)], args := [d] }
  | _ => none }
def FnExactMeanSpeedWrongFalsely : Prop := fnExactMeanSpeedRow.holds Try.pinned (OpenSpec.ofChange fnExactMeanSpeedWrong)

/-- 'laws.FnExactLegAt': WHATEVER THE INPUT: true; the input reads as it did. -/
def fnExactLegAtSpec : ChangeSpec := { name := "fnExactLegAt", fn := fun _ => fun
  | [d1, d2, d3] => { results := [.lit (.bool true)], args := [d1, d2, d3] }
  | _ => none }
def fnExactLegAtRow : OpenClaim := { program := "ytgcmoeokhinjdaa", sum := "6761c9d4698f9d574a14a11692bdc98966e17d1243768942d387cc356df3d4d7", func := "loop.example/g01335/laws.FnExactLegAt", spec := "fnExactLegAt", unfollowed := true, recurses := true, apart := false }
def FnExactLegAtSaid : Prop := fnExactLegAtRow.holds Try.pinned (OpenSpec.ofChange fnExactLegAtSpec)

/-- ITS FALSE NEIGHBOUR: 'it returns false'. Refute it at one input. -/
def fnExactLegAtWrong : ChangeSpec := { name := "fnExactLegAt", fn := fun _ => fun
  | [d1, d2, d3] => { results := [.lit (.bool false)], args := [d1, d2, d3] }
  | _ => none }
def FnExactLegAtWrongFalsely : Prop := fnExactLegAtRow.holds Try.pinned (OpenSpec.ofChange fnExactLegAtWrong)

/-- 'laws.FnExactNeededSpeed': WHATEVER THE INPUT: true; the input reads as it did. -/
def fnExactNeededSpeedSpec : ChangeSpec := { name := "fnExactNeededSpeed", fn := fun _ => fun
  | [d1, d2, d3] => { results := [.lit (.bool true)], args := [d1, d2, d3] }
  | _ => none }
def fnExactNeededSpeedRow : OpenClaim := { program := "ytgcmoeokhinjdaa", sum := "6761c9d4698f9d574a14a11692bdc98966e17d1243768942d387cc356df3d4d7", func := "loop.example/g01335/laws.FnExactNeededSpeed", spec := "fnExactNeededSpeed", unfollowed := true, recurses := true, apart := false }
def FnExactNeededSpeedSaid : Prop := fnExactNeededSpeedRow.holds Try.pinned (OpenSpec.ofChange fnExactNeededSpeedSpec)

/-- ITS FALSE NEIGHBOUR: 'it returns false'. Refute it at one input. -/
def fnExactNeededSpeedWrong : ChangeSpec := { name := "fnExactNeededSpeed", fn := fun _ => fun
  | [d1, d2, d3] => { results := [.lit (.bool false)], args := [d1, d2, d3] }
  | _ => none }
def FnExactNeededSpeedWrongFalsely : Prop := fnExactNeededSpeedRow.holds Try.pinned (OpenSpec.ofChange fnExactNeededSpeedWrong)

/-- 'laws.FnExactPlaceOnLegs': WHATEVER THE INPUT: true; the input reads as it did. -/
def fnExactPlaceOnLegsSpec : ChangeSpec := { name := "fnExactPlaceOnLegs", fn := fun _ => fun
  | [d1, d2, d3] => { results := [.lit (.bool true)], args := [d1, d2, d3] }
  | _ => none }
def fnExactPlaceOnLegsRow : OpenClaim := { program := "ytgcmoeokhinjdaa", sum := "6761c9d4698f9d574a14a11692bdc98966e17d1243768942d387cc356df3d4d7", func := "loop.example/g01335/laws.FnExactPlaceOnLegs", spec := "fnExactPlaceOnLegs", unfollowed := true, recurses := true, apart := false }
def FnExactPlaceOnLegsSaid : Prop := fnExactPlaceOnLegsRow.holds Try.pinned (OpenSpec.ofChange fnExactPlaceOnLegsSpec)

/-- ITS FALSE NEIGHBOUR: 'it returns false'. Refute it at one input. -/
def fnExactPlaceOnLegsWrong : ChangeSpec := { name := "fnExactPlaceOnLegs", fn := fun _ => fun
  | [d1, d2, d3] => { results := [.lit (.bool false)], args := [d1, d2, d3] }
  | _ => none }
def FnExactPlaceOnLegsWrongFalsely : Prop := fnExactPlaceOnLegsRow.holds Try.pinned (OpenSpec.ofChange fnExactPlaceOnLegsWrong)

/-- 'laws.FnExactTimesOfLegs': WHATEVER THE INPUT: true; the input reads as it did. -/
def fnExactTimesOfLegsSpec : ChangeSpec := { name := "fnExactTimesOfLegs", fn := fun _ => fun
  | [d] => { results := [.lit (.bool true)], args := [d] }
  | _ => none }
def fnExactTimesOfLegsRow : OpenClaim := { program := "ytgcmoeokhinjdaa", sum := "6761c9d4698f9d574a14a11692bdc98966e17d1243768942d387cc356df3d4d7", func := "loop.example/g01335/laws.FnExactTimesOfLegs", spec := "fnExactTimesOfLegs", unfollowed := true, recurses := true, apart := false }
def FnExactTimesOfLegsSaid : Prop := fnExactTimesOfLegsRow.holds Try.pinned (OpenSpec.ofChange fnExactTimesOfLegsSpec)

/-- ITS FALSE NEIGHBOUR: 'it returns false'. Refute it at one input. -/
def fnExactTimesOfLegsWrong : ChangeSpec := { name := "fnExactTimesOfLegs", fn := fun _ => fun
  | [d] => { results := [.lit (.bool false)], args := [d] }
  | _ => none }
def FnExactTimesOfLegsWrongFalsely : Prop := fnExactTimesOfLegsRow.holds Try.pinned (OpenSpec.ofChange fnExactTimesOfLegsWrong)

/-- 'laws.FnExactBestRunners': WHATEVER THE INPUT: true; the input reads as it did. -/
def fnExactBestRunnersSpec : ChangeSpec := { name := "fnExactBestRunners", fn := fun _ => fun
  | [d1, d2] => { results := [.lit (.bool true)], args := [d1, d2] }
  | _ => none }
def fnExactBestRunnersRow : OpenClaim := { program := "ytgcmoeokhinjdaa", sum := "6761c9d4698f9d574a14a11692bdc98966e17d1243768942d387cc356df3d4d7", func := "loop.example/g01335/laws.FnExactBestRunners", spec := "fnExactBestRunners", unfollowed := true, recurses := true, apart := false }
def FnExactBestRunnersSaid : Prop := fnExactBestRunnersRow.holds Try.pinned (OpenSpec.ofChange fnExactBestRunnersSpec)

/-- ITS FALSE NEIGHBOUR: 'it returns false'. Refute it at one input. -/
def fnExactBestRunnersWrong : ChangeSpec := { name := "fnExactBestRunners", fn := fun _ => fun
  | [d1, d2] => { results := [.lit (.bool false)], args := [d1, d2] }
  | _ => none }
def FnExactBestRunnersWrongFalsely : Prop := fnExactBestRunnersRow.holds Try.pinned (OpenSpec.ofChange fnExactBestRunnersWrong)

/-- 'laws.FnExactWorstRunners': WHATEVER THE INPUT: true; the input reads as it did. -/
def fnExactWorstRunnersSpec : ChangeSpec := { name := "fnExactWorstRunners", fn := fun _ => fun
  | [d1, d2] => { results := [.lit (.bool true)], args := [d1, d2] }
  | _ => none }
def fnExactWorstRunnersRow : OpenClaim := { program := "ytgcmoeokhinjdaa", sum := "6761c9d4698f9d574a14a11692bdc98966e17d1243768942d387cc356df3d4d7", func := "loop.example/g01335/laws.FnExactWorstRunners", spec := "fnExactWorstRunners", unfollowed := true, recurses := true, apart := false }
def FnExactWorstRunnersSaid : Prop := fnExactWorstRunnersRow.holds Try.pinned (OpenSpec.ofChange fnExactWorstRunnersSpec)

/-- ITS FALSE NEIGHBOUR: 'it returns false'. Refute it at one input. -/
def fnExactWorstRunnersWrong : ChangeSpec := { name := "fnExactWorstRunners", fn := fun _ => fun
  | [d1, d2] => { results := [.lit (.bool false)], args := [d1, d2] }
  | _ => none }
def FnExactWorstRunnersWrongFalsely : Prop := fnExactWorstRunnersRow.holds Try.pinned (OpenSpec.ofChange fnExactWorstRunnersWrong)

/- THE SECOND FORM. 'bulk': how many values and letters a reading holds, each counted each time it is reached (what is shared counts as often as it is met; a slice's spare places count too). A statement '..UptoSaid' is the law's where the arguments, and the package variables that the reading takes, are together of bulk at most 1048576: NARROWER than '..Said'. Prove '..Said' where nothing that the law and all that it calls make is longer than what came in: it says more and counts as full. Else prove '..UptoSaid'. A law counts once. -/
mutual
def uptoBulk {H : Type} : DataW H → Nat
  | .lit (.string bytes) => bytes.length + 1
  | .lit _ => 1
  | .nil => 1
  | .ptr d => uptoBulk d + 1
  | .slice elems spare => uptoBulkAll elems + uptoBulkAll spare + 1
  | .agg parts => uptoBulkAll parts + 1
  | .iface _ d => uptoBulk d + 1
  | .map entries => uptoBulkEntries entries + 1
  | .held _ => 1
def uptoBulkAll {H : Type} : List (DataW H) → Nat
  | [] => 0
  | d :: r => uptoBulk d + uptoBulkAll r
def uptoBulkEntries {H : Type} : List (Lit × DataW H) → Nat
  | [] => 0
  | x :: r => uptoBulkEntry x + uptoBulkEntries r
def uptoBulkEntry {H : Type} : Lit × DataW H → Nat
  | (.string bytes, d) => bytes.length + uptoBulk d + 1
  | (_, d) => uptoBulk d + 1
 end
def uptoSmall : (H : Type) → List (DataW H) → Bool := fun _ ds => decide (uptoBulkAll ds ≤ 1048576)
def OpenSpec.upto (s : _root_.Go.ChangeSpec) : _root_.Go.OpenSpec := { _root_.Go.OpenSpec.ofChange s with cond := some uptoSmall }

/-- 'laws.FnExactLongOfLegs', WHERE WHAT IT READS IS OF BULK AT MOST 1048576: true; the input reads as it did. -/
def fnExactLongOfLegsUptoRow : OpenClaim := { program := "ytgcmoeokhinjdaa", sum := "6761c9d4698f9d574a14a11692bdc98966e17d1243768942d387cc356df3d4d7", func := "loop.example/g01335/laws.FnExactLongOfLegs", spec := "fnExactLongOfLegs", unfollowed := true, recurses := true, apart := false, narrowed := true }
def FnExactLongOfLegsUptoSaid : Prop := fnExactLongOfLegsUptoRow.holds Try.pinned (OpenSpec.upto fnExactLongOfLegsSpec)

/-- 'laws.FnExactMeanByTimes', WHERE WHAT IT READS IS OF BULK AT MOST 1048576: true; the input reads as it did. -/
def fnExactMeanByTimesUptoRow : OpenClaim := { program := "ytgcmoeokhinjdaa", sum := "6761c9d4698f9d574a14a11692bdc98966e17d1243768942d387cc356df3d4d7", func := "loop.example/g01335/laws.FnExactMeanByTimes", spec := "fnExactMeanByTimes", apart := false, narrowed := true }
def FnExactMeanByTimesUptoSaid : Prop := fnExactMeanByTimesUptoRow.holds Try.pinned (OpenSpec.upto fnExactMeanByTimesSpec)

/-- 'laws.FnExactJoinLegs', WHERE WHAT IT READS IS OF BULK AT MOST 1048576: true; the input reads as it did. -/
def fnExactJoinLegsUptoRow : OpenClaim := { program := "ytgcmoeokhinjdaa", sum := "6761c9d4698f9d574a14a11692bdc98966e17d1243768942d387cc356df3d4d7", func := "loop.example/g01335/laws.FnExactJoinLegs", spec := "fnExactJoinLegs", unfollowed := true, recurses := true, apart := false, narrowed := true }
def FnExactJoinLegsUptoSaid : Prop := fnExactJoinLegsUptoRow.holds Try.pinned (OpenSpec.upto fnExactJoinLegsSpec)

/-- 'laws.FnExactTimeOfLegs', WHERE WHAT IT READS IS OF BULK AT MOST 1048576: true; the input reads as it did. -/
def fnExactTimeOfLegsUptoRow : OpenClaim := { program := "ytgcmoeokhinjdaa", sum := "6761c9d4698f9d574a14a11692bdc98966e17d1243768942d387cc356df3d4d7", func := "loop.example/g01335/laws.FnExactTimeOfLegs", spec := "fnExactTimeOfLegs", unfollowed := true, recurses := true, apart := false, narrowed := true }
def FnExactTimeOfLegsUptoSaid : Prop := fnExactTimeOfLegsUptoRow.holds Try.pinned (OpenSpec.upto fnExactTimeOfLegsSpec)

/-- 'laws.FnExactMeanByHalves', WHERE WHAT IT READS IS OF BULK AT MOST 1048576: true; the input reads as it did. -/
def fnExactMeanByHalvesUptoRow : OpenClaim := { program := "ytgcmoeokhinjdaa", sum := "6761c9d4698f9d574a14a11692bdc98966e17d1243768942d387cc356df3d4d7", func := "loop.example/g01335/laws.FnExactMeanByHalves", spec := "fnExactMeanByHalves", apart := false, narrowed := true }
def FnExactMeanByHalvesUptoSaid : Prop := fnExactMeanByHalvesUptoRow.holds Try.pinned (OpenSpec.upto fnExactMeanByHalvesSpec)

/-- 'laws.FnExactMeanSpeed', WHERE WHAT IT READS IS OF BULK AT MOST 1048576: true; the input reads as it did. -/
def fnExactMeanSpeedUptoRow : OpenClaim := { program := "ytgcmoeokhinjdaa", sum := "6761c9d4698f9d574a14a11692bdc98966e17d1243768942d387cc356df3d4d7", func := "loop.example/g01335/laws.FnExactMeanSpeed", spec := "fnExactMeanSpeed", unfollowed := true, recurses := true, apart := false, narrowed := true }
def FnExactMeanSpeedUptoSaid : Prop := fnExactMeanSpeedUptoRow.holds Try.pinned (OpenSpec.upto fnExactMeanSpeedSpec)

/-- 'laws.FnExactLegAt', WHERE WHAT IT READS IS OF BULK AT MOST 1048576: true; the input reads as it did. -/
def fnExactLegAtUptoRow : OpenClaim := { program := "ytgcmoeokhinjdaa", sum := "6761c9d4698f9d574a14a11692bdc98966e17d1243768942d387cc356df3d4d7", func := "loop.example/g01335/laws.FnExactLegAt", spec := "fnExactLegAt", unfollowed := true, recurses := true, apart := false, narrowed := true }
def FnExactLegAtUptoSaid : Prop := fnExactLegAtUptoRow.holds Try.pinned (OpenSpec.upto fnExactLegAtSpec)

/-- 'laws.FnExactNeededSpeed', WHERE WHAT IT READS IS OF BULK AT MOST 1048576: true; the input reads as it did. -/
def fnExactNeededSpeedUptoRow : OpenClaim := { program := "ytgcmoeokhinjdaa", sum := "6761c9d4698f9d574a14a11692bdc98966e17d1243768942d387cc356df3d4d7", func := "loop.example/g01335/laws.FnExactNeededSpeed", spec := "fnExactNeededSpeed", unfollowed := true, recurses := true, apart := false, narrowed := true }
def FnExactNeededSpeedUptoSaid : Prop := fnExactNeededSpeedUptoRow.holds Try.pinned (OpenSpec.upto fnExactNeededSpeedSpec)

/-- 'laws.FnExactPlaceOnLegs', WHERE WHAT IT READS IS OF BULK AT MOST 1048576: true; the input reads as it did. -/
def fnExactPlaceOnLegsUptoRow : OpenClaim := { program := "ytgcmoeokhinjdaa", sum := "6761c9d4698f9d574a14a11692bdc98966e17d1243768942d387cc356df3d4d7", func := "loop.example/g01335/laws.FnExactPlaceOnLegs", spec := "fnExactPlaceOnLegs", unfollowed := true, recurses := true, apart := false, narrowed := true }
def FnExactPlaceOnLegsUptoSaid : Prop := fnExactPlaceOnLegsUptoRow.holds Try.pinned (OpenSpec.upto fnExactPlaceOnLegsSpec)

/-- 'laws.FnExactTimesOfLegs', WHERE WHAT IT READS IS OF BULK AT MOST 1048576: true; the input reads as it did. -/
def fnExactTimesOfLegsUptoRow : OpenClaim := { program := "ytgcmoeokhinjdaa", sum := "6761c9d4698f9d574a14a11692bdc98966e17d1243768942d387cc356df3d4d7", func := "loop.example/g01335/laws.FnExactTimesOfLegs", spec := "fnExactTimesOfLegs", unfollowed := true, recurses := true, apart := false, narrowed := true }
def FnExactTimesOfLegsUptoSaid : Prop := fnExactTimesOfLegsUptoRow.holds Try.pinned (OpenSpec.upto fnExactTimesOfLegsSpec)

/-- 'laws.FnExactBestRunners', WHERE WHAT IT READS IS OF BULK AT MOST 1048576: true; the input reads as it did. -/
def fnExactBestRunnersUptoRow : OpenClaim := { program := "ytgcmoeokhinjdaa", sum := "6761c9d4698f9d574a14a11692bdc98966e17d1243768942d387cc356df3d4d7", func := "loop.example/g01335/laws.FnExactBestRunners", spec := "fnExactBestRunners", unfollowed := true, recurses := true, apart := false, narrowed := true }
def FnExactBestRunnersUptoSaid : Prop := fnExactBestRunnersUptoRow.holds Try.pinned (OpenSpec.upto fnExactBestRunnersSpec)

/-- 'laws.FnExactWorstRunners', WHERE WHAT IT READS IS OF BULK AT MOST 1048576: true; the input reads as it did. -/
def fnExactWorstRunnersUptoRow : OpenClaim := { program := "ytgcmoeokhinjdaa", sum := "6761c9d4698f9d574a14a11692bdc98966e17d1243768942d387cc356df3d4d7", func := "loop.example/g01335/laws.FnExactWorstRunners", spec := "fnExactWorstRunners", unfollowed := true, recurses := true, apart := false, narrowed := true }
def FnExactWorstRunnersUptoSaid : Prop := fnExactWorstRunnersUptoRow.holds Try.pinned (OpenSpec.upto fnExactWorstRunnersSpec)

end Rows
end Go.Proofs.Ytgcmoeokhinjdaa
