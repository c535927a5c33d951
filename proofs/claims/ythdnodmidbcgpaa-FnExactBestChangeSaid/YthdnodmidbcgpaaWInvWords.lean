import Derived.Test.YthdnodmidbcgpaaWInv
import Derived.Test.YthdnodmidbcgpaaWFootNe
namespace Go.Proofs.YthdnodmidbcgpaaW.PrintWords
open Go.RowKit
end Go.Proofs.YthdnodmidbcgpaaW.PrintWords
namespace Go.Proofs.YthdnodmidbcgpaaW.PrintLast
section
variable {ops : Array Oper} {a : Act} {o og : Oper} {g : Nat} {t : Tmp} {u : Bool}
end
end Go.Proofs.YthdnodmidbcgpaaW.PrintLast
