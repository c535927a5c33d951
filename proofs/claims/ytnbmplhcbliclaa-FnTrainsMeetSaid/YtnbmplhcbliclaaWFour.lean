-- CUT DOWN out of a printed text by a program of this session (wip/xstrip.py): Lean checks it.
import Derived.Test.YtnbmplhcbliclaaWTab
/-! ### 56. Four, five, six operations that may come up next, in any order -/
namespace Go.Proofs.YtnbmplhcbliclaaW.PrintLast
section
variable {P : Program} {ops : Array Oper} {Q : Exit → Act → World → Prop} {md : Region.Mode} {S : World → Prop} {ds : List Nat} {T : Bool × List (List Nat × List Nat)}
end
end Go.Proofs.YtnbmplhcbliclaaW.PrintLast
