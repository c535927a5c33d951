import Derived.Test.YthdnodmidbcgpaaGreatDoorWInv
import Derived.Test.YthdnodmidbcgpaaGreatDoorWN
namespace Go.Proofs.YthdnodmidbcgpaaGreatDoorW.PrintWords
open Go.RowKit
end Go.Proofs.YthdnodmidbcgpaaGreatDoorW.PrintWords
namespace Go.Proofs.YthdnodmidbcgpaaGreatDoorW.PrintLast
section
variable {ops:Array Oper} {a:Act} {o og:Oper} {g:Nat} {t:Tmp} {u:Bool}
end
end Go.Proofs.YthdnodmidbcgpaaGreatDoorW.PrintLast
