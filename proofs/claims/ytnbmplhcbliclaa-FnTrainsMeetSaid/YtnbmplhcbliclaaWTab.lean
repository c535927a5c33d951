-- CUT DOWN out of a printed text by a program of this session (wip/xstrip.py): Lean checks it.
import Derived.Test.YtnbmplhcbliclaaWLast
import Derived.Test.YtnbmplhcbliclaaWWords
/-! ### 50. A region's order in a table, made once a region: each step asks the table (numbers alone), not the operations -/
namespace Go.Proofs.YtnbmplhcbliclaaW.PrintLast
open Go.Proofs.YtnbmplhcbliclaaW.PrintWords (Aside0)
section
variable {md : Region.Mode} {ops : Array Oper} {T : Bool × List (List Nat × List Nat)} {l l' li lj lk : Array Bool} {ds : List Nat} {i j k : Nat}
end
end Go.Proofs.YtnbmplhcbliclaaW.PrintLast
