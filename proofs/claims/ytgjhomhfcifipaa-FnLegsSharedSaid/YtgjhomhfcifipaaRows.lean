/-
  No cell of these rows narrows 'for every input' (looked for: loops, veiled, ifaces, maps, wideKeys, modest, calm, conditions, laid).
  DERIVED. THE GIVEN ROWS OF THIS SEAT. 3 by the template 'for every input the law returns true; each argument reads behind the call as it read before'; 0 by the template 'total and deterministic' (their statements: YtgjhomhfcifipaaTotals.lean).
  GIVEN WITH THE SEED: the statements are not yours to turn. If you find one false, say at which input.
  Laid BY PROGRAM, IN A SANDBOX (cutbox-rows.mjs): the forced cells as the released guide's own fill.sh prints them over the translation b7af6ba2ea907e9f… (all of the seat's roots in one cut). By AI agents, Wed Nov 11 2026. No macro, syntax, notation, axiom, sorry.
-/
import Derived.Test.YtgjhomhfcifipaaChecked
import GoSem.Claim
import GoSem.ClaimJoined
import GoSem.ClaimMapViews
import Derived.JoinedTies
import Derived.KernelRfl
namespace Go.Proofs.Ytgjhomhfcifipaa
/- THE CELL 'sum', in the pinned program and in every row, IS THE sha256 OF THE DUMP (.gsa) THAT YtgjhomhfcifipaaProg.lean LOADS. Nothing in Lean hashes anything: it is a label: what it is worth is what the hold of that sum in a sandbox is worth. -/
noncomputable def Try.pinned : Pinned := { name := "ytgjhomhfcifipaa", sum := "b7af6ba2ea907e9f8d369bc9fe60ea354969f016d5fe428e591a6c0a52022f42", checked := Try.checked }
namespace Rows
def none {H : Type} : Left H := { results := [], args := [] }

/-- 'laws.FnExactBestRunners': WHATEVER THE INPUT: true; the input reads as it did. -/
def fnExactBestRunnersSpec : ChangeSpec := { name := "fnExactBestRunners", fn := fun _ => fun
  | [d1, d2] => { results := [.lit (.bool true)], args := [d1, d2] }
  | _ => none }
def fnExactBestRunnersRow : OpenClaim := { program := "ytgjhomhfcifipaa", sum := "b7af6ba2ea907e9f8d369bc9fe60ea354969f016d5fe428e591a6c0a52022f42", func := "loop.example/g01335/laws.FnExactBestRunners", spec := "fnExactBestRunners", unfollowed := true, recurses := true, apart := false }
def FnExactBestRunnersSaid : Prop := fnExactBestRunnersRow.holds Try.pinned (OpenSpec.ofChange fnExactBestRunnersSpec)

/-- ITS FALSE NEIGHBOUR: 'it returns false'. Refute it at one input. -/
def fnExactBestRunnersWrong : ChangeSpec := { name := "fnExactBestRunners", fn := fun _ => fun
  | [d1, d2] => { results := [.lit (.bool false)], args := [d1, d2] }
  | _ => none }
def FnExactBestRunnersWrongFalsely : Prop := fnExactBestRunnersRow.holds Try.pinned (OpenSpec.ofChange fnExactBestRunnersWrong)

/-- 'laws.FnExactWorstRunners': WHATEVER THE INPUT: true; the input reads as it did. -/
def fnExactWorstRunnersSpec : ChangeSpec := { name := "fnExactWorstRunners", fn := fun _ => fun
  | [d1, d2] => { results := [.lit (.bool true)], args := [d1, d2] }
  | _ => none }
def fnExactWorstRunnersRow : OpenClaim := { program := "ytgjhomhfcifipaa", sum := "b7af6ba2ea907e9f8d369bc9fe60ea354969f016d5fe428e591a6c0a52022f42", func := "loop.example/g01335/laws.FnExactWorstRunners", spec := "fnExactWorstRunners", unfollowed := true, recurses := true, apart := false }
def FnExactWorstRunnersSaid : Prop := fnExactWorstRunnersRow.holds Try.pinned (OpenSpec.ofChange fnExactWorstRunnersSpec)

/-- ITS FALSE NEIGHBOUR: 'it returns false'. Refute it at one input. -/
def fnExactWorstRunnersWrong : ChangeSpec := { name := "fnExactWorstRunners", fn := fun _ => fun
  | [d1, d2] => { results := [.lit (.bool false)], args := [d1, d2] }
  | _ => none }
def FnExactWorstRunnersWrongFalsely : Prop := fnExactWorstRunnersRow.holds Try.pinned (OpenSpec.ofChange fnExactWorstRunnersWrong)

/-- 'laws.FnLegsShared': WHATEVER THE INPUT: true; the input reads as it did. -/
def fnLegsSharedSpec : ChangeSpec := { name := "fnLegsShared", fn := fun _ => fun
  | [d1, d2] => { results := [.lit (.bool true)], args := [d1, d2] }
  | _ => none }
def fnLegsSharedRow : OpenClaim := { program := "ytgjhomhfcifipaa", sum := "b7af6ba2ea907e9f8d369bc9fe60ea354969f016d5fe428e591a6c0a52022f42", func := "loop.example/g01335/laws.FnLegsShared", spec := "fnLegsShared", unfollowed := true, recurses := true, apart := false }
def FnLegsSharedSaid : Prop := fnLegsSharedRow.holds Try.pinned (OpenSpec.ofChange fnLegsSharedSpec)

/-- ITS FALSE NEIGHBOUR: 'it returns false'. Refute it at one input. -/
def fnLegsSharedWrong : ChangeSpec := { name := "fnLegsShared", fn := fun _ => fun
  | [d1, d2] => { results := [.lit (.bool false)], args := [d1, d2] }
  | _ => none }
def FnLegsSharedWrongFalsely : Prop := fnLegsSharedRow.holds Try.pinned (OpenSpec.ofChange fnLegsSharedWrong)

/- THE SECOND FORM. 'bulk': how many values and letters a reading holds, each counted each time it is reached (what is shared counts as often as it is met; a slice's spare places count too). A statement '..UptoSaid' is the law's where the arguments, and the package variables that the reading takes, are together of bulk at most 1048576: NARROWER than '..Said'. Prove '..Said' where nothing that the law and all that it calls make is longer than what came in: it says more and counts as full. Else prove '..UptoSaid'. A law counts once. -/
mutual
def uptoBulk {H : Type} : DataW H → Nat
  | .lit (.string bytes) => bytes.length + 1
  | .lit _ => 1
  | .nil => 1
  | .ptr d => uptoBulk d + 1
  | .slice elems spare => uptoBulkAll elems + uptoBulkAll spare + 1
  | .agg parts => uptoBulkAll parts + 1
  | .iface _ d => uptoBulk d + 1
  | .map entries => uptoBulkEntries entries + 1
  | .held _ => 1
def uptoBulkAll {H : Type} : List (DataW H) → Nat
  | [] => 0
  | d :: r => uptoBulk d + uptoBulkAll r
def uptoBulkEntries {H : Type} : List (Lit × DataW H) → Nat
  | [] => 0
  | x :: r => uptoBulkEntry x + uptoBulkEntries r
def uptoBulkEntry {H : Type} : Lit × DataW H → Nat
  | (.string bytes, d) => bytes.length + uptoBulk d + 1
  | (_, d) => uptoBulk d + 1
 end
def uptoSmall : (H : Type) → List (DataW H) → Bool := fun _ ds => decide (uptoBulkAll ds ≤ 1048576)
def OpenSpec.upto (s : _root_.Go.ChangeSpec) : _root_.Go.OpenSpec := { _root_.Go.OpenSpec.ofChange s with cond := some uptoSmall }

/-- 'laws.FnExactBestRunners', WHERE WHAT IT READS IS OF BULK AT MOST 1048576: true; the input reads as it did. -/
def fnExactBestRunnersUptoRow : OpenClaim := { program := "ytgjhomhfcifipaa", sum := "b7af6ba2ea907e9f8d369bc9fe60ea354969f016d5fe428e591a6c0a52022f42", func := "loop.example/g01335/laws.FnExactBestRunners", spec := "fnExactBestRunners", unfollowed := true, recurses := true, apart := false, narrowed := true }
def FnExactBestRunnersUptoSaid : Prop := fnExactBestRunnersUptoRow.holds Try.pinned (OpenSpec.upto fnExactBestRunnersSpec)

/-- 'laws.FnExactWorstRunners', WHERE WHAT IT READS IS OF BULK AT MOST 1048576: true; the input reads as it did. -/
def fnExactWorstRunnersUptoRow : OpenClaim := { program := "ytgjhomhfcifipaa", sum := "b7af6ba2ea907e9f8d369bc9fe60ea354969f016d5fe428e591a6c0a52022f42", func := "loop.example/g01335/laws.FnExactWorstRunners", spec := "fnExactWorstRunners", unfollowed := true, recurses := true, apart := false, narrowed := true }
def FnExactWorstRunnersUptoSaid : Prop := fnExactWorstRunnersUptoRow.holds Try.pinned (OpenSpec.upto fnExactWorstRunnersSpec)

/-- 'laws.FnLegsShared', WHERE WHAT IT READS IS OF BULK AT MOST 1048576: true; the input reads as it did. -/
def fnLegsSharedUptoRow : OpenClaim := { program := "ytgjhomhfcifipaa", sum := "b7af6ba2ea907e9f8d369bc9fe60ea354969f016d5fe428e591a6c0a52022f42", func := "loop.example/g01335/laws.FnLegsShared", spec := "fnLegsShared", unfollowed := true, recurses := true, apart := false, narrowed := true }
def FnLegsSharedUptoSaid : Prop := fnLegsSharedUptoRow.holds Try.pinned (OpenSpec.upto fnLegsSharedSpec)

end Rows
end Go.Proofs.Ytgjhomhfcifipaa
