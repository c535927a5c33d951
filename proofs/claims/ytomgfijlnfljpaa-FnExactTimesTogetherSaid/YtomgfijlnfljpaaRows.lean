/-
  No cell of these rows narrows 'for every input' (looked for: loops, veiled, ifaces, maps, wideKeys, modest, calm, conditions, laid).
  DERIVED. THE GIVEN ROWS OF THIS SEAT. 12 by the template 'for every input the law returns true; each argument reads behind the call as it read before'; 0 by the template 'total and deterministic' (their statements: YtomgfijlnfljpaaTotals.lean).
  GIVEN WITH THE SEED: the statements are not yours to turn. If you find one false, say at which input.
  Laid BY PROGRAM, IN A SANDBOX (cutbox-rows.mjs): the forced cells as the released guide's own fill.sh prints them over the translation a54ff6f2a777569c… (all of the seat's roots in one cut). By AI agents, Wed Nov 11 2026. No macro, syntax, notation, axiom, sorry.
-/
import Derived.Test.YtomgfijlnfljpaaChecked
import GoSem.Claim
import GoSem.ClaimJoined
import GoSem.ClaimMapViews
import Derived.JoinedTies
import Derived.KernelRfl
namespace Go.Proofs.Ytomgfijlnfljpaa
/- THE CELL 'sum', in the pinned program and in every row, IS THE sha256 OF THE DUMP (.gsa) THAT YtomgfijlnfljpaaProg.lean LOADS. Nothing in Lean hashes anything: it is a label: what it is worth is what the hold of that sum in a sandbox is worth. -/
noncomputable def Try.pinned : Pinned := { name := "ytomgfijlnfljpaa", sum := "a54ff6f2a777569c67deea99b78ac0b04c6b91c7f44ce1e3d610ee810635eb14", checked := Try.checked }
namespace Rows
def none {H : Type} : Left H := { results := [], args := [] }

/-- 'laws.FnExactRideFor': WHATEVER THE INPUT: true; the input reads as it did. -/
def fnExactRideForSpec : ChangeSpec := { name := "fnExactRideFor", fn := fun _ => fun
  | [d1, d2, d3] => { results := [.lit (.bool true)], args := [d1, d2, d3] }
  | _ => none }
def fnExactRideForRow : OpenClaim := { program := "ytomgfijlnfljpaa", sum := "a54ff6f2a777569c67deea99b78ac0b04c6b91c7f44ce1e3d610ee810635eb14", func := "loop.example/g01335/laws.FnExactRideFor", spec := "fnExactRideFor", apart := false }
def FnExactRideForSaid : Prop := fnExactRideForRow.holds Try.pinned (OpenSpec.ofChange fnExactRideForSpec)

/-- ITS FALSE NEIGHBOUR: 'it returns false'. Refute it at one input. -/
def fnExactRideForWrong : ChangeSpec := { name := "fnExactRideFor", fn := fun _ => fun
  | [d1, d2, d3] => { results := [.lit (.bool false)], args := [d1, d2, d3] }
  | _ => none }
def FnExactRideForWrongFalsely : Prop := fnExactRideForRow.holds Try.pinned (OpenSpec.ofChange fnExactRideForWrong)

/-- 'laws.FnExactTimeAtStop': WHATEVER THE INPUT: true; the input reads as it did. -/
def fnExactTimeAtStopSpec : ChangeSpec := { name := "fnExactTimeAtStop", fn := fun _ => fun
  | [d1, d2, d3] => { results := [.lit (.bool true)], args := [d1, d2, d3] }
  | _ => none }
def fnExactTimeAtStopRow : OpenClaim := { program := "ytomgfijlnfljpaa", sum := "a54ff6f2a777569c67deea99b78ac0b04c6b91c7f44ce1e3d610ee810635eb14", func := "loop.example/g01335/laws.FnExactTimeAtStop", spec := "fnExactTimeAtStop", apart := false }
def FnExactTimeAtStopSaid : Prop := fnExactTimeAtStopRow.holds Try.pinned (OpenSpec.ofChange fnExactTimeAtStopSpec)

/-- ITS FALSE NEIGHBOUR: 'it returns false'. Refute it at one input. -/
def fnExactTimeAtStopWrong : ChangeSpec := { name := "fnExactTimeAtStop", fn := fun _ => fun
  | [d1, d2, d3] => { results := [.lit (.bool false)], args := [d1, d2, d3] }
  | _ => none }
def FnExactTimeAtStopWrongFalsely : Prop := fnExactTimeAtStopRow.holds Try.pinned (OpenSpec.ofChange fnExactTimeAtStopWrong)

/-- 'laws.FnExactLastBusBy': WHATEVER THE INPUT: true; the input reads as it did. -/
def fnExactLastBusBySpec : ChangeSpec := { name := "fnExactLastBusBy", fn := fun _ => fun
  | [d1, d2, d3, d4] => { results := [.lit (.bool true)], args := [d1, d2, d3, d4] }
  | _ => none }
def fnExactLastBusByRow : OpenClaim := { program := "ytomgfijlnfljpaa", sum := "a54ff6f2a777569c67deea99b78ac0b04c6b91c7f44ce1e3d610ee810635eb14", func := "loop.example/g01335/laws.FnExactLastBusBy", spec := "fnExactLastBusBy", apart := false }
def FnExactLastBusBySaid : Prop := fnExactLastBusByRow.holds Try.pinned (OpenSpec.ofChange fnExactLastBusBySpec)

/-- ITS FALSE NEIGHBOUR: 'it returns false'. Refute it at one input. -/
def fnExactLastBusByWrong : ChangeSpec := { name := "fnExactLastBusBy", fn := fun _ => fun
  | [d1, d2, d3, d4] => { results := [.lit (.bool false)], args := [d1, d2, d3, d4] }
  | _ => none }
def FnExactLastBusByWrongFalsely : Prop := fnExactLastBusByRow.holds Try.pinned (OpenSpec.ofChange fnExactLastBusByWrong)

/-- 'laws.FnExactWhereIsBus': WHATEVER THE INPUT: true; the input reads as it did. -/
def fnExactWhereIsBusSpec : ChangeSpec := { name := "fnExactWhereIsBus", fn := fun _ => fun
  | [d1, d2, d3] => { results := [.lit (.bool true)], args := [d1, d2, d3] }
  | _ => none }
def fnExactWhereIsBusRow : OpenClaim := { program := "ytomgfijlnfljpaa", sum := "a54ff6f2a777569c67deea99b78ac0b04c6b91c7f44ce1e3d610ee810635eb14", func := "loop.example/g01335/laws.FnExactWhereIsBus", spec := "fnExactWhereIsBus", apart := false }
def FnExactWhereIsBusSaid : Prop := fnExactWhereIsBusRow.holds Try.pinned (OpenSpec.ofChange fnExactWhereIsBusSpec)

/-- ITS FALSE NEIGHBOUR: 'it returns false'. Refute it at one input. -/
def fnExactWhereIsBusWrong : ChangeSpec := { name := "fnExactWhereIsBus", fn := fun _ => fun
  | [d1, d2, d3] => { results := [.lit (.bool false)], args := [d1, d2, d3] }
  | _ => none }
def FnExactWhereIsBusWrongFalsely : Prop := fnExactWhereIsBusRow.holds Try.pinned (OpenSpec.ofChange fnExactWhereIsBusWrong)

/-- 'laws.FnExactNextBus': WHATEVER THE INPUT: true; the input reads as it did. -/
def fnExactNextBusSpec : ChangeSpec := { name := "fnExactNextBus", fn := fun _ => fun
  | [d1, d2, d3] => { results := [.lit (.bool true)], args := [d1, d2, d3] }
  | _ => none }
def fnExactNextBusRow : OpenClaim := { program := "ytomgfijlnfljpaa", sum := "a54ff6f2a777569c67deea99b78ac0b04c6b91c7f44ce1e3d610ee810635eb14", func := "loop.example/g01335/laws.FnExactNextBus", spec := "fnExactNextBus", apart := false }
def FnExactNextBusSaid : Prop := fnExactNextBusRow.holds Try.pinned (OpenSpec.ofChange fnExactNextBusSpec)

/-- ITS FALSE NEIGHBOUR: 'it returns false'. Refute it at one input. -/
def fnExactNextBusWrong : ChangeSpec := { name := "fnExactNextBus", fn := fun _ => fun
  | [d1, d2, d3] => { results := [.lit (.bool false)], args := [d1, d2, d3] }
  | _ => none }
def FnExactNextBusWrongFalsely : Prop := fnExactNextBusRow.holds Try.pinned (OpenSpec.ofChange fnExactNextBusWrong)

/-- 'laws.FnExactWaitFor': WHATEVER THE INPUT: true; the input reads as it did. -/
def fnExactWaitForSpec : ChangeSpec := { name := "fnExactWaitFor", fn := fun _ => fun
  | [d1, d2, d3] => { results := [.lit (.bool true)], args := [d1, d2, d3] }
  | _ => none }
def fnExactWaitForRow : OpenClaim := { program := "ytomgfijlnfljpaa", sum := "a54ff6f2a777569c67deea99b78ac0b04c6b91c7f44ce1e3d610ee810635eb14", func := "loop.example/g01335/laws.FnExactWaitFor", spec := "fnExactWaitFor", apart := false }
def FnExactWaitForSaid : Prop := fnExactWaitForRow.holds Try.pinned (OpenSpec.ofChange fnExactWaitForSpec)

/-- ITS FALSE NEIGHBOUR: 'it returns false'. Refute it at one input. -/
def fnExactWaitForWrong : ChangeSpec := { name := "fnExactWaitFor", fn := fun _ => fun
  | [d1, d2, d3] => { results := [.lit (.bool false)], args := [d1, d2, d3] }
  | _ => none }
def FnExactWaitForWrongFalsely : Prop := fnExactWaitForRow.holds Try.pinned (OpenSpec.ofChange fnExactWaitForWrong)

/-- 'laws.FnExactArriveAt': WHATEVER THE INPUT: true; the input reads as it did. -/
def fnExactArriveAtSpec : ChangeSpec := { name := "fnExactArriveAt", fn := fun _ => fun
  | [d1, d2, d3, d4] => { results := [.lit (.bool true)], args := [d1, d2, d3, d4] }
  | _ => none }
def fnExactArriveAtRow : OpenClaim := { program := "ytomgfijlnfljpaa", sum := "a54ff6f2a777569c67deea99b78ac0b04c6b91c7f44ce1e3d610ee810635eb14", func := "loop.example/g01335/laws.FnExactArriveAt", spec := "fnExactArriveAt", apart := false }
def FnExactArriveAtSaid : Prop := fnExactArriveAtRow.holds Try.pinned (OpenSpec.ofChange fnExactArriveAtSpec)

/-- ITS FALSE NEIGHBOUR: 'it returns false'. Refute it at one input. -/
def fnExactArriveAtWrong : ChangeSpec := { name := "fnExactArriveAt", fn := fun _ => fun
  | [d1, d2, d3, d4] => { results := [.lit (.bool false)], args := [d1, d2, d3, d4] }
  | _ => none }
def FnExactArriveAtWrongFalsely : Prop := fnExactArriveAtRow.holds Try.pinned (OpenSpec.ofChange fnExactArriveAtWrong)

/-- 'laws.FnExactBusesOnWay': WHATEVER THE INPUT: true; the input reads as it did. -/
def fnExactBusesOnWaySpec : ChangeSpec := { name := "fnExactBusesOnWay", fn := fun _ => fun
  | [d1, d2] => { results := [.lit (.bool true)], args := [d1, d2] }
  | _ => none }
def fnExactBusesOnWayRow : OpenClaim := { program := "ytomgfijlnfljpaa", sum := "a54ff6f2a777569c67deea99b78ac0b04c6b91c7f44ce1e3d610ee810635eb14", func := "loop.example/g01335/laws.FnExactBusesOnWay", spec := "fnExactBusesOnWay", apart := false }
def FnExactBusesOnWaySaid : Prop := fnExactBusesOnWayRow.holds Try.pinned (OpenSpec.ofChange fnExactBusesOnWaySpec)

/-- ITS FALSE NEIGHBOUR: 'it returns false'. Refute it at one input. -/
def fnExactBusesOnWayWrong : ChangeSpec := { name := "fnExactBusesOnWay", fn := fun _ => fun
  | [d1, d2] => { results := [.lit (.bool false)], args := [d1, d2] }
  | _ => none }
def FnExactBusesOnWayWrongFalsely : Prop := fnExactBusesOnWayRow.holds Try.pinned (OpenSpec.ofChange fnExactBusesOnWayWrong)

/-- 'laws.FnExactDropBus': WHATEVER THE INPUT: true; the input reads as it did. -/
def fnExactDropBusSpec : ChangeSpec := { name := "fnExactDropBus", fn := fun _ => fun
  | [d1, d2] => { results := [.lit (.bool true)], args := [d1, d2] }
  | _ => none }
def fnExactDropBusRow : OpenClaim := { program := "ytomgfijlnfljpaa", sum := "a54ff6f2a777569c67deea99b78ac0b04c6b91c7f44ce1e3d610ee810635eb14", func := "loop.example/g01335/laws.FnExactDropBus", spec := "fnExactDropBus", apart := false }
def FnExactDropBusSaid : Prop := fnExactDropBusRow.holds Try.pinned (OpenSpec.ofChange fnExactDropBusSpec)

/-- ITS FALSE NEIGHBOUR: 'it returns false'. Refute it at one input. -/
def fnExactDropBusWrong : ChangeSpec := { name := "fnExactDropBus", fn := fun _ => fun
  | [d1, d2] => { results := [.lit (.bool false)], args := [d1, d2] }
  | _ => none }
def FnExactDropBusWrongFalsely : Prop := fnExactDropBusRow.holds Try.pinned (OpenSpec.ofChange fnExactDropBusWrong)

/-- 'laws.FnExactTimesTogether': WHATEVER THE INPUT: true; the input reads as it did. -/
def fnExactTimesTogetherSpec : ChangeSpec := { name := "fnExactTimesTogether", fn := fun _ => fun
  | [d1, d2, d3, d4] => { results := [.lit (.bool true)], args := [d1, d2, d3, d4] }
  | _ => none }
def fnExactTimesTogetherRow : OpenClaim := { program := "ytomgfijlnfljpaa", sum := "a54ff6f2a777569c67deea99b78ac0b04c6b91c7f44ce1e3d610ee810635eb14", func := "loop.example/g01335/laws.FnExactTimesTogether", spec := "fnExactTimesTogether", apart := false }
def FnExactTimesTogetherSaid : Prop := fnExactTimesTogetherRow.holds Try.pinned (OpenSpec.ofChange fnExactTimesTogetherSpec)

/-- ITS FALSE NEIGHBOUR: 'it returns false'. Refute it at one input. -/
def fnExactTimesTogetherWrong : ChangeSpec := { name := "fnExactTimesTogether", fn := fun _ => fun
  | [d1, d2, d3, d4] => { results := [.lit (.bool false)], args := [d1, d2, d3, d4] }
  | _ => none }
def FnExactTimesTogetherWrongFalsely : Prop := fnExactTimesTogetherRow.holds Try.pinned (OpenSpec.ofChange fnExactTimesTogetherWrong)

/-- 'laws.FnExactChangeAt': WHATEVER THE INPUT: true; the input reads as it did. -/
def fnExactChangeAtSpec : ChangeSpec := { name := "fnExactChangeAt", fn := fun _ => fun
  | [d1, d2, d3, d4, d5, d6, d7, d8] => { results := [.lit (.bool true)], args := [d1, d2, d3, d4, d5, d6, d7, d8] }
  | _ => none }
def fnExactChangeAtRow : OpenClaim := { program := "ytomgfijlnfljpaa", sum := "a54ff6f2a777569c67deea99b78ac0b04c6b91c7f44ce1e3d610ee810635eb14", func := "loop.example/g01335/laws.FnExactChangeAt", spec := "fnExactChangeAt", apart := false }
def FnExactChangeAtSaid : Prop := fnExactChangeAtRow.holds Try.pinned (OpenSpec.ofChange fnExactChangeAtSpec)

/-- ITS FALSE NEIGHBOUR: 'it returns false'. Refute it at one input. -/
def fnExactChangeAtWrong : ChangeSpec := { name := "fnExactChangeAt", fn := fun _ => fun
  | [d1, d2, d3, d4, d5, d6, d7, d8] => { results := [.lit (.bool false)], args := [d1, d2, d3, d4, d5, d6, d7, d8] }
  | _ => none }
def FnExactChangeAtWrongFalsely : Prop := fnExactChangeAtRow.holds Try.pinned (OpenSpec.ofChange fnExactChangeAtWrong)

/-- 'laws.FnExactMeanWait': WHATEVER THE INPUT: true; the input reads as it did. -/
def fnExactMeanWaitSpec : ChangeSpec := { name := "fnExactMeanWait", fn := fun _ => fun
  | [d1, d2, d3, d4] => { results := [.lit (.bool true)], args := [d1, d2, d3, d4] }
  | _ => none }
def fnExactMeanWaitRow : OpenClaim := { program := "ytomgfijlnfljpaa", sum := "a54ff6f2a777569c67deea99b78ac0b04c6b91c7f44ce1e3d610ee810635eb14", func := "loop.example/g01335/laws.FnExactMeanWait", spec := "fnExactMeanWait", apart := false }
def FnExactMeanWaitSaid : Prop := fnExactMeanWaitRow.holds Try.pinned (OpenSpec.ofChange fnExactMeanWaitSpec)

/-- ITS FALSE NEIGHBOUR: 'it returns false'. Refute it at one input. -/
def fnExactMeanWaitWrong : ChangeSpec := { name := "fnExactMeanWait", fn := fun _ => fun
  | [d1, d2, d3, d4] => { results := [.lit (.bool false)], args := [d1, d2, d3, d4] }
  | _ => none }
def FnExactMeanWaitWrongFalsely : Prop := fnExactMeanWaitRow.holds Try.pinned (OpenSpec.ofChange fnExactMeanWaitWrong)

/- THE SECOND FORM. 'bulk': how many values and letters a reading holds, each counted each time it is reached (what is shared counts as often as it is met; a slice's spare places count too). A statement '..UptoSaid' is the law's where the arguments, and the package variables that the reading takes, are together of bulk at most 1048576: NARROWER than '..Said'. Prove '..Said' where nothing that the law and all that it calls make is longer than what came in: it says more and counts as full. Else prove '..UptoSaid'. A law counts once. -/
mutual
def uptoBulk {H : Type} : DataW H → Nat
  | .lit (.string bytes) => bytes.length + 1
  | .lit _ => 1
  | .nil => 1
  | .ptr d => uptoBulk d + 1
  | .slice elems spare => uptoBulkAll elems + uptoBulkAll spare + 1
  | .agg parts => uptoBulkAll parts + 1
  | .iface _ d => uptoBulk d + 1
  | .map entries => uptoBulkEntries entries + 1
  | .held _ => 1
def uptoBulkAll {H : Type} : List (DataW H) → Nat
  | [] => 0
  | d :: r => uptoBulk d + uptoBulkAll r
def uptoBulkEntries {H : Type} : List (Lit × DataW H) → Nat
  | [] => 0
  | x :: r => uptoBulkEntry x + uptoBulkEntries r
def uptoBulkEntry {H : Type} : Lit × DataW H → Nat
  | (.string bytes, d) => bytes.length + uptoBulk d + 1
  | (_, d) => uptoBulk d + 1
 end
def uptoSmall : (H : Type) → List (DataW H) → Bool := fun _ ds => decide (uptoBulkAll ds ≤ 1048576)
def OpenSpec.upto (s : _root_.Go.ChangeSpec) : _root_.Go.OpenSpec := { _root_.Go.OpenSpec.ofChange s with cond := some uptoSmall }

/-- 'laws.FnExactRideFor', WHERE WHAT IT READS IS OF BULK AT MOST 1048576: true; the input reads as it did. -/
def fnExactRideForUptoRow : OpenClaim := { program := "ytomgfijlnfljpaa", sum := "a54ff6f2a777569c67deea99b78ac0b04c6b91c7f44ce1e3d610ee810635eb14", func := "loop.example/g01335/laws.FnExactRideFor", spec := "fnExactRideFor", apart := false, narrowed := true }
def FnExactRideForUptoSaid : Prop := fnExactRideForUptoRow.holds Try.pinned (OpenSpec.upto fnExactRideForSpec)

/-- 'laws.FnExactTimeAtStop', WHERE WHAT IT READS IS OF BULK AT MOST 1048576: true; the input reads as it did. -/
def fnExactTimeAtStopUptoRow : OpenClaim := { program := "ytomgfijlnfljpaa", sum := "a54ff6f2a777569c67deea99b78ac0b04c6b91c7f44ce1e3d610ee810635eb14", func := "loop.example/g01335/laws.FnExactTimeAtStop", spec := "fnExactTimeAtStop", apart := false, narrowed := true }
def FnExactTimeAtStopUptoSaid : Prop := fnExactTimeAtStopUptoRow.holds Try.pinned (OpenSpec.upto fnExactTimeAtStopSpec)

/-- 'laws.FnExactLastBusBy', WHERE WHAT IT READS IS OF BULK AT MOST 1048576: true; the input reads as it did. -/
def fnExactLastBusByUptoRow : OpenClaim := { program := "ytomgfijlnfljpaa", sum := "a54ff6f2a777569c67deea99b78ac0b04c6b91c7f44ce1e3d610ee810635eb14", func := "loop.example/g01335/laws.FnExactLastBusBy", spec := "fnExactLastBusBy", apart := false, narrowed := true }
def FnExactLastBusByUptoSaid : Prop := fnExactLastBusByUptoRow.holds Try.pinned (OpenSpec.upto fnExactLastBusBySpec)

/-- 'laws.FnExactWhereIsBus', WHERE WHAT IT READS IS OF BULK AT MOST 1048576: true; the input reads as it did. -/
def fnExactWhereIsBusUptoRow : OpenClaim := { program := "ytomgfijlnfljpaa", sum := "a54ff6f2a777569c67deea99b78ac0b04c6b91c7f44ce1e3d610ee810635eb14", func := "loop.example/g01335/laws.FnExactWhereIsBus", spec := "fnExactWhereIsBus", apart := false, narrowed := true }
def FnExactWhereIsBusUptoSaid : Prop := fnExactWhereIsBusUptoRow.holds Try.pinned (OpenSpec.upto fnExactWhereIsBusSpec)

/-- 'laws.FnExactNextBus', WHERE WHAT IT READS IS OF BULK AT MOST 1048576: true; the input reads as it did. -/
def fnExactNextBusUptoRow : OpenClaim := { program := "ytomgfijlnfljpaa", sum := "a54ff6f2a777569c67deea99b78ac0b04c6b91c7f44ce1e3d610ee810635eb14", func := "loop.example/g01335/laws.FnExactNextBus", spec := "fnExactNextBus", apart := false, narrowed := true }
def FnExactNextBusUptoSaid : Prop := fnExactNextBusUptoRow.holds Try.pinned (OpenSpec.upto fnExactNextBusSpec)

/-- 'laws.FnExactWaitFor', WHERE WHAT IT READS IS OF BULK AT MOST 1048576: true; the input reads as it did. -/
def fnExactWaitForUptoRow : OpenClaim := { program := "ytomgfijlnfljpaa", sum := "a54ff6f2a777569c67deea99b78ac0b04c6b91c7f44ce1e3d610ee810635eb14", func := "loop.example/g01335/laws.FnExactWaitFor", spec := "fnExactWaitFor", apart := false, narrowed := true }
def FnExactWaitForUptoSaid : Prop := fnExactWaitForUptoRow.holds Try.pinned (OpenSpec.upto fnExactWaitForSpec)

/-- 'laws.FnExactArriveAt', WHERE WHAT IT READS IS OF BULK AT MOST 1048576: true; the input reads as it did. -/
def fnExactArriveAtUptoRow : OpenClaim := { program := "ytomgfijlnfljpaa", sum := "a54ff6f2a777569c67deea99b78ac0b04c6b91c7f44ce1e3d610ee810635eb14", func := "loop.example/g01335/laws.FnExactArriveAt", spec := "fnExactArriveAt", apart := false, narrowed := true }
def FnExactArriveAtUptoSaid : Prop := fnExactArriveAtUptoRow.holds Try.pinned (OpenSpec.upto fnExactArriveAtSpec)

/-- 'laws.FnExactBusesOnWay', WHERE WHAT IT READS IS OF BULK AT MOST 1048576: true; the input reads as it did. -/
def fnExactBusesOnWayUptoRow : OpenClaim := { program := "ytomgfijlnfljpaa", sum := "a54ff6f2a777569c67deea99b78ac0b04c6b91c7f44ce1e3d610ee810635eb14", func := "loop.example/g01335/laws.FnExactBusesOnWay", spec := "fnExactBusesOnWay", apart := false, narrowed := true }
def FnExactBusesOnWayUptoSaid : Prop := fnExactBusesOnWayUptoRow.holds Try.pinned (OpenSpec.upto fnExactBusesOnWaySpec)

/-- 'laws.FnExactDropBus', WHERE WHAT IT READS IS OF BULK AT MOST 1048576: true; the input reads as it did. -/
def fnExactDropBusUptoRow : OpenClaim := { program := "ytomgfijlnfljpaa", sum := "a54ff6f2a777569c67deea99b78ac0b04c6b91c7f44ce1e3d610ee810635eb14", func := "loop.example/g01335/laws.FnExactDropBus", spec := "fnExactDropBus", apart := false, narrowed := true }
def FnExactDropBusUptoSaid : Prop := fnExactDropBusUptoRow.holds Try.pinned (OpenSpec.upto fnExactDropBusSpec)

/-- 'laws.FnExactTimesTogether', WHERE WHAT IT READS IS OF BULK AT MOST 1048576: true; the input reads as it did. -/
def fnExactTimesTogetherUptoRow : OpenClaim := { program := "ytomgfijlnfljpaa", sum := "a54ff6f2a777569c67deea99b78ac0b04c6b91c7f44ce1e3d610ee810635eb14", func := "loop.example/g01335/laws.FnExactTimesTogether", spec := "fnExactTimesTogether", apart := false, narrowed := true }
def FnExactTimesTogetherUptoSaid : Prop := fnExactTimesTogetherUptoRow.holds Try.pinned (OpenSpec.upto fnExactTimesTogetherSpec)

/-- 'laws.FnExactChangeAt', WHERE WHAT IT READS IS OF BULK AT MOST 1048576: true; the input reads as it did. -/
def fnExactChangeAtUptoRow : OpenClaim := { program := "ytomgfijlnfljpaa", sum := "a54ff6f2a777569c67deea99b78ac0b04c6b91c7f44ce1e3d610ee810635eb14", func := "loop.example/g01335/laws.FnExactChangeAt", spec := "fnExactChangeAt", apart := false, narrowed := true }
def FnExactChangeAtUptoSaid : Prop := fnExactChangeAtUptoRow.holds Try.pinned (OpenSpec.upto fnExactChangeAtSpec)

/-- 'laws.FnExactMeanWait', WHERE WHAT IT READS IS OF BULK AT MOST 1048576: true; the input reads as it did. -/
def fnExactMeanWaitUptoRow : OpenClaim := { program := "ytomgfijlnfljpaa", sum := "a54ff6f2a777569c67deea99b78ac0b04c6b91c7f44ce1e3d610ee810635eb14", func := "loop.example/g01335/laws.FnExactMeanWait", spec := "fnExactMeanWait", apart := false, narrowed := true }
def FnExactMeanWaitUptoSaid : Prop := fnExactMeanWaitUptoRow.holds Try.pinned (OpenSpec.upto fnExactMeanWaitSpec)

end Rows
end Go.Proofs.Ytomgfijlnfljpaa
