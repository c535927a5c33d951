import Derived.Test.YthdnodmidbcgpaaGreatDoorQRx19d
namespace Go.Proofs.YthdnodmidbcgpaaGreatDoor.QR
open Go.Proofs.YthdnodmidbcgpaaGreatDoor.X Go.RowKit Go.Proofs.YthdnodmidbcgpaaGreatDoorW.PrintWords Go.Proofs.YthdnodmidbcgpaaGreatDoorW.PrintLast Go.Proofs.YthdnodmidbcgpaaGreatDoorW.PrintMore
attribute [local go_sem] max2_int min2_int max_two min_two max_three min_three max_four min_four
set_option linter.unusedVariables false
set_option linter.unusedSimpArgs false
def lw_.reg (n:Nat):Code→Option Code
  | .region i o d=>match i == n with
    | true=>some (.region i o d)
    | false=>none
  | .loop c=>lw_.reg n c
  | .seq a b=>match lw_.reg n a with
    | some c=>some c
    | none=>lw_.reg n b
  | .block _ c=>lw_.reg n c
  | .scope c=>lw_.reg n c
  | .cond _ a b=>match lw_.reg n a with
    | some c=>some c
    | none=>lw_.reg n b
  | _=>none
end Go.Proofs.YthdnodmidbcgpaaGreatDoor.QR
