-- WRITTEN BY a program of this session (wip/xprint.py, over the kit's print): Lean checks it.
import Derived.Test.YtbhnpccbjgbcbaaGreatDoorQTx12d
namespace Go.Proofs.YtbhnpccbjgbcbaaGreatDoor.QT
open Go.Proofs.YtbhnpccbjgbcbaaGreatDoor.X Go.RowKit Go.Proofs.YtbhnpccbjgbcbaaGreatDoorW.PrintWords Go.Proofs.YtbhnpccbjgbcbaaGreatDoorW.PrintLast Go.Proofs.YtbhnpccbjgbcbaaGreatDoorW.PrintMore
attribute [local go_sem] max2_int min2_int max_two min_two max_three min_three max_four min_four   -- for this text's walks alone
set_option linter.unusedVariables false
set_option linter.unusedSimpArgs false

/-- A region by its number. -/
def lw_.reg (n : Nat) : Code → Option Code
  | .region i o d => match i == n with
    | true => some (.region i o d)
    | false => none
  | .loop c => lw_.reg n c
  | .seq a b => match lw_.reg n a with
    | some c => some c
    | none => lw_.reg n b
  | .block _ c => lw_.reg n c
  | .scope c => lw_.reg n c
  | .cond _ a b => match lw_.reg n a with
    | some c => some c
    | none => lw_.reg n b
  | _ => none

end Go.Proofs.YtbhnpccbjgbcbaaGreatDoor.QT
namespace Go.Proofs.YtbhnpccbjgbcbaaGreatDoor.QT
open Go.Proofs.YtbhnpccbjgbcbaaGreatDoor.X Go.RowKit Go.Proofs.YtbhnpccbjgbcbaaGreatDoorW.PrintWords Go.Proofs.YtbhnpccbjgbcbaaGreatDoorW.PrintLast Go.Proofs.YtbhnpccbjgbcbaaGreatDoorW.PrintMore
attribute [local go_sem] max2_int min2_int max_two min_two max_three min_three max_four min_four   -- for this text's walks alone
set_option linter.unusedVariables false
set_option linter.unusedSimpArgs false

/-- An if by its test's slot. -/
def lw_.cnd (n : Nat) : Code → Option Code
  | .cond (.tmp t) a b => match t == n with
    | true => some (.cond (.tmp t) a b)
    | false => match lw_.cnd n a with
      | some c => some c
      | none => lw_.cnd n b
  | .loop c => lw_.cnd n c
  | .seq a b => match lw_.cnd n a with
    | some c => some c
    | none => lw_.cnd n b
  | .block _ c => lw_.cnd n c
  | .scope c => lw_.cnd n c
  | _ => none

end Go.Proofs.YtbhnpccbjgbcbaaGreatDoor.QT
