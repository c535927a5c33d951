-- CUT DOWN out of a printed text by a program of this session (wip/xstrip.py): Lean checks it.
import Derived.Test.YtnbmplhcbliclaaGreatDoorWInv
import Derived.Test.YtnbmplhcbliclaaGreatDoorWFootNe
namespace Go.Proofs.YtnbmplhcbliclaaGreatDoorW.PrintWords
open Go.RowKit
end Go.Proofs.YtnbmplhcbliclaaGreatDoorW.PrintWords
namespace Go.Proofs.YtnbmplhcbliclaaGreatDoorW.PrintLast
section
variable {ops : Array Oper} {a : Act} {o og : Oper} {g : Nat} {t : Tmp} {u : Bool}
end
end Go.Proofs.YtnbmplhcbliclaaGreatDoorW.PrintLast
