-- WRITTEN BY a program of this session (wip/xprint.py, over the kit's print): Lean checks it.
import Derived.Test.YtgcmoeokhinjdaaRows
import Derived.Test.YtgcmoeokhinjdaaQSx4
import Derived.Test.YtgcmoeokhinjdaaPureFnExactTimesOfLegs
import Derived.WalkKit
import Derived.ProofKit
import Derived.OpenShut
import Derived.ShutString
import Derived.ChangeOld
import Derived.Below
import Derived.SizedLaws
namespace Go.Proofs.Ytgcmoeokhinjdaa.fnExactTimesOfLegs
open Go.ChangeShapes Go.WideShapes Go.ChangeAt Go.RowKit
open Go.ChangeMaps (open_string shut_string)
open Go.Proofs.YtgcmoeokhinjdaaW.PrintWords (Kd Drawn0)
open Go.Proofs.Ytgcmoeokhinjdaa.X Go.Proofs.Ytgcmoeokhinjdaa.QS
set_option linter.unusedVariables false
theorem own : ownKnob Try.prog.godebug = none := by kernel_rfl
theorem laidOut : laidOutB Try.prog = true := by kernel_rfl
set_option maxRecDepth 100000 in
theorem lifted (os : Os) (started : os.Started) (H : Type) (enc : TypeId × Value → H) :
    ReturnsInHanded {} Try.checked os 12 .any (Rows.fnExactTimesOfLegsSpec.pre6 enc Try.prog Try.f12 Rows.fnExactTimesOfLegsRow.domain false) (Rows.fnExactTimesOfLegsSpec.post enc Try.prog Try.f12 false true false false) := by
  refine returnsInHanded_of_change_sized (C := Try.checked) own started (by kernel_rfl) Try.func12
    (ChangeSpec.witness6 (enc := enc) (C := Try.checked) false ⟨#[], #[.slice none 0 0], []⟩ 8 (by kernel_rfl) (by kernel_rfl) (by kernel_rfl) (by kernel_rfl)) ?_
  intro W base args ds gs before hval0 hW hcnd hsz0 _
  have hsz : (DataW.weightsEach Try.prog (Try.f12.params.toList ++ Rows.fnExactTimesOfLegsSpec.plain.varTypes Try.prog) (ds ++ gs)).all (· ≤ reachBytes) = true := hsz0
  have hval : ∀ (j : Nat) t v, Try.f12.params[j]? = some t → args[j]? = some v → Value.okWide Try.prog W .any base t v := hval0
  have hW' := hW
  obtain ⟨p, q, hA0, hV, rfl, hfz, hnd⟩ := hW
  have hA : DataW.TrodAll enc Try.prog W 0 (fun _ => true) true Try.f12.params.toList args.toList ds p := hA0
  rw [Try.params12] at hA hval hsz
  obtain ⟨v0, vs0, d0, ds0, p0, q0, hargs, rfl, rfl, h0, r0⟩ := trodAll_cons hA
  obtain ⟨rfl, rfl, rfl⟩ := trodAll_nil r0
  obtain rfl : args = #[v0] := by cases args; simp_all
  obtain ⟨rfl, rfl⟩ := trodVars_none hV
  have k0 := h0
  have lt0 : ∀ x ∈ p0, x.block < W.heap.size := by obtain ⟨m, hm⟩ := k0; exact DataW.trod_lt m _ _ _ hm
  obtain ⟨A0, c0, l0, rfl, hr0, hc0, hg0⟩ := arg_slice Try.underlying22 (show Opens Try.prog (Kd.slice 56 k56) 22 _ from (opens_slice Try.underlying22 (show Opens Try.prog k56 56 _ from opens_struct Try.underlying56 (opensAt_cons (opens_int Try.underlying3) rfl (by kernel_rfl) (opensAt_one (opens_int Try.underlying3) rfl (by kernel_rfl))) (by kernel_rfl) (fun x : S56 => (x.f0, x.f1)) (fun p => (⟨p.1, p.2⟩ : S56)) (fun _ => rfl)) (by kernel_rfl))) (hval 0 22 v0 rfl rfl) h0
  clear hA0 hval0 hsz0 hsz
  obtain ⟨k, hk⟩ := Pure.FnExactTimesOfLegs l0 hg0.1
  refine (laws_FnExactTimesOfLegs.calls k A0 c0 l0 true W hr0 hc0 hk).mono fun e W' ⟨he, bel⟩ => ?_
  subst he
  exact ⟨_, rfl, _, _, _, [], _, [], hW', trodAll_mk1 (shut_bool Try.underlying4 _), (trodAll_cons_mk (Below.trod laidOut (by kernel_rfl) (of_decide_eq_true (by kernel_rfl)) k0 bel lt0) trodAll_mk0), rfl, bel.frame _, fun h => by cases h⟩
theorem over : Rows.fnExactTimesOfLegsRow.holds Try.pinned (OpenSpec.ofChange Rows.fnExactTimesOfLegsSpec) :=
  OpenClaim.holds_of_wide 12 Try.f12 rfl rfl rfl rfl rfl rfl rfl ⟨rfl, rfl, rfl, rfl, rfl⟩ rfl rfl rfl rfl rfl (by kernel_rfl) Try.func12 (by kernel_rfl)
    (of_decide_eq_true (by kernel_rfl)) (by unfold Func.isWrapper; first | (rw [if_pos (by decide +kernel)]; kernel_rfl) | (rw [if_neg (by decide +kernel)]; exact ⟨rfl, rfl⟩))
    (fun os started H enc _ => lifted os started H enc)
theorem proved : Rows.FnExactTimesOfLegsSaid := over
end Go.Proofs.Ytgcmoeokhinjdaa.fnExactTimesOfLegs
namespace Go.Proofs.Ytgcmoeokhinjdaa
/-- The row, under a short name, for the claim. -/
theorem fnExactTimesOfLegs_holds : Rows.FnExactTimesOfLegsSaid := fnExactTimesOfLegs.proved
end Go.Proofs.Ytgcmoeokhinjdaa
