-- CUT DOWN out of a printed text by a program of this session (wip/xstrip.py): Lean checks it.
import Derived.Test.YtnbmplhcbliclaaWInv
import Derived.Test.YtnbmplhcbliclaaWFootNe
namespace Go.Proofs.YtnbmplhcbliclaaW.PrintWords
open Go.RowKit
end Go.Proofs.YtnbmplhcbliclaaW.PrintWords
namespace Go.Proofs.YtnbmplhcbliclaaW.PrintLast
section
variable {ops : Array Oper} {a : Act} {o og : Oper} {g : Nat} {t : Tmp} {u : Bool}
end
end Go.Proofs.YtnbmplhcbliclaaW.PrintLast
