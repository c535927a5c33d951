-- CUT DOWN out of a printed text by a program of this session (wip/xstrip.py): Lean checks it.
import Derived.Test.YtbhnpccbjgbcbaaGreatDoorWInv
import Derived.Test.YtbhnpccbjgbcbaaGreatDoorWFootNe
namespace Go.Proofs.YtbhnpccbjgbcbaaGreatDoorW.PrintWords
open Go.RowKit
end Go.Proofs.YtbhnpccbjgbcbaaGreatDoorW.PrintWords
namespace Go.Proofs.YtbhnpccbjgbcbaaGreatDoorW.PrintLast
section
variable {ops : Array Oper} {a : Act} {o og : Oper} {g : Nat} {t : Tmp} {u : Bool}
end
end Go.Proofs.YtbhnpccbjgbcbaaGreatDoorW.PrintLast
