import Derived.Test.YtbhnpccbjgbcbaaGreatDoorQDx15d
namespace Go.Proofs.YtbhnpccbjgbcbaaGreatDoor.QD
open Go.Proofs.YtbhnpccbjgbcbaaGreatDoor.X Go.RowKit Go.Proofs.YtbhnpccbjgbcbaaGreatDoorW.PrintWords Go.Proofs.YtbhnpccbjgbcbaaGreatDoorW.PrintLast Go.Proofs.YtbhnpccbjgbcbaaGreatDoorW.PrintMore
attribute [local go_sem] max2_int min2_int max_two min_two max_three min_three max_four min_four
set_option linter.unusedVariables false
set_option linter.unusedSimpArgs false
def lw_.reg (n : Nat) : Code → Option Code
  | .region i o d => match i == n with
    | true => some (.region i o d)
    | false => none
  | .loop c => lw_.reg n c
  | .seq a b => match lw_.reg n a with
    | some c => some c
    | none => lw_.reg n b
  | .block _ c => lw_.reg n c
  | .scope c => lw_.reg n c
  | .cond _ a b => match lw_.reg n a with
    | some c => some c
    | none => lw_.reg n b
  | _ => none
def lw_.cnd (n : Nat) : Code → Option Code
  | .cond (.tmp t) a b => match t == n with
    | true => some (.cond (.tmp t) a b)
    | false => match lw_.cnd n a with
      | some c => some c
      | none => lw_.cnd n b
  | .loop c => lw_.cnd n c
  | .seq a b => match lw_.cnd n a with
    | some c => some c
    | none => lw_.cnd n b
  | .block _ c => lw_.cnd n c
  | .scope c => lw_.cnd n c
  | _ => none
end Go.Proofs.YtbhnpccbjgbcbaaGreatDoor.QD
