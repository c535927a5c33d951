-- CUT DOWN out of a printed text by a program of this session (wip/xstrip.py): Lean checks it.
import Derived.Test.YtnbmplhcbliclaaWWords
import Derived.Laws.StructEq
/-! ### 53. '==' of structs as_ one Bool -/
namespace Go.Proofs.YtnbmplhcbliclaaW.PrintWords
open Go.RowKit
section
variable {P : Program} {d : Nat} {xs ys : Array Value} {f : Field} {fs : List Field} {a b : Value} {r s : Bool} {w : World}
end
end Go.Proofs.YtnbmplhcbliclaaW.PrintWords
