-- PRINTED BY print.sh 35421559b90ae4d0a3588c463048766b98c2df88dd9212a6774a882060cdf62d: not written by this session
import Derived.Test.YtnbmplhcbliclaaWInv
import Derived.Test.YtnbmplhcbliclaaWFootNe
namespace Go.Proofs.YtnbmplhcbliclaaW.PrintWords
open Go.RowKit
end Go.Proofs.YtnbmplhcbliclaaW.PrintWords
namespace Go.Proofs.YtnbmplhcbliclaaW.PrintLast
section
variable {ops : Array Oper} {a : Act} {o og : Oper} {g : Nat} {t : Tmp} {u : Bool}
end
end Go.Proofs.YtnbmplhcbliclaaW.PrintLast
