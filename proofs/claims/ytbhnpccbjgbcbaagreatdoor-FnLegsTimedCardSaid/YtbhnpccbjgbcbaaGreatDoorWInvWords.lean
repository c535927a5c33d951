import Derived.Test.YtbhnpccbjgbcbaaGreatDoorWInv
import Derived.Test.YtbhnpccbjgbcbaaGreatDoorWN
namespace Go.Proofs.YtbhnpccbjgbcbaaGreatDoorW.PrintWords
open Go.RowKit
end Go.Proofs.YtbhnpccbjgbcbaaGreatDoorW.PrintWords
namespace Go.Proofs.YtbhnpccbjgbcbaaGreatDoorW.PrintLast
section
variable {ops : Array Oper} {a : Act} {o og : Oper} {g : Nat} {t : Tmp} {u : Bool}
end
end Go.Proofs.YtbhnpccbjgbcbaaGreatDoorW.PrintLast
