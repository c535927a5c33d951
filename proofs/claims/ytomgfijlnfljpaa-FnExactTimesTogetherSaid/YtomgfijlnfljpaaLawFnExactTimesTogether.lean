-- WRITTEN BY a program of this session (wip/xprint.py, over the kit's print): Lean checks it.
import Derived.Test.YtomgfijlnfljpaaRows
import Derived.Test.YtomgfijlnfljpaaQBx28
import Derived.Test.YtomgfijlnfljpaaPureFnExactTimesTogether
import Derived.WalkKit
import Derived.ProofKit
import Derived.OpenShut
import Derived.ShutString
import Derived.ChangeOld
import Derived.Below
import Derived.SizedLaws
namespace Go.Proofs.Ytomgfijlnfljpaa.fnExactTimesTogether
open Go.ChangeShapes Go.WideShapes Go.ChangeAt Go.RowKit
open Go.ChangeMaps (open_string shut_string)
open Go.Proofs.YtomgfijlnfljpaaW.PrintWords (Kd Drawn0)
open Go.Proofs.Ytomgfijlnfljpaa.X Go.Proofs.Ytomgfijlnfljpaa.QB
set_option linter.unusedVariables false
theorem own : ownKnob Try.prog.godebug = none := by kernel_rfl
theorem laidOut : laidOutB Try.prog = true := by kernel_rfl
set_option maxRecDepth 100000 in
theorem lifted (os : Os) (started : os.Started) (H : Type) (enc : TypeId × Value → H) :
    ReturnsInHanded {} Try.checked os 12 .any (Rows.fnExactTimesTogetherSpec.pre6 enc Try.prog Try.f12 Rows.fnExactTimesTogetherRow.domain false) (Rows.fnExactTimesTogetherSpec.post enc Try.prog Try.f12 false true false false) := by
  refine returnsInHanded_of_change_sized (C := Try.checked) own started (by kernel_rfl) Try.func12
    (ChangeSpec.witness6 (enc := enc) (C := Try.checked) false ⟨#[], #[.agg #[.int .i64 0, .int .i64 0, .int .i64 0, .slice none 0 0], .int .i64 0, .agg #[.int .i64 0, .int .i64 0, .int .i64 0, .slice none 0 0], .int .i64 0], []⟩ 8 (by kernel_rfl) (by kernel_rfl) (by kernel_rfl) (by kernel_rfl)) ?_
  intro W base args ds gs before hval0 hW hcnd hsz0 _
  have hsz : (DataW.weightsEach Try.prog (Try.f12.params.toList ++ Rows.fnExactTimesTogetherSpec.plain.varTypes Try.prog) (ds ++ gs)).all (· ≤ reachBytes) = true := hsz0
  have hval : ∀ (j : Nat) t v, Try.f12.params[j]? = some t → args[j]? = some v → Value.okWide Try.prog W .any base t v := hval0
  have hW' := hW
  obtain ⟨p, q, hA0, hV, rfl, hfz, hnd⟩ := hW
  have hA : DataW.TrodAll enc Try.prog W 0 (fun _ => true) true Try.f12.params.toList args.toList ds p := hA0
  rw [Try.params12] at hA hval hsz
  obtain ⟨v0, vs0, d0, ds0, p0, q0, hargs, rfl, rfl, h0, r0⟩ := trodAll_cons hA
  obtain ⟨v1, vs1, d1, ds1, p1, q1, rfl, rfl, rfl, h1, r1⟩ := trodAll_cons r0
  obtain ⟨v2, vs2, d2, ds2, p2, q2, rfl, rfl, rfl, h2, r2⟩ := trodAll_cons r1
  obtain ⟨v3, vs3, d3, ds3, p3, q3, rfl, rfl, rfl, h3, r3⟩ := trodAll_cons r2
  obtain ⟨rfl, rfl, rfl⟩ := trodAll_nil r3
  obtain rfl : args = #[v0, v1, v2, v3] := by cases args; simp_all
  obtain ⟨rfl, rfl⟩ := trodVars_none hV
  have k0 := h0
  have lt0 : ∀ x ∈ p0, x.block < W.heap.size := by obtain ⟨m, hm⟩ := k0; exact DataW.trod_lt m _ _ _ hm
  obtain ⟨cs0, a0, rfl, hK0, hg0⟩ := arg_struct Try.underlying24 (show Opens Try.prog k24 24 _ from opens_struct Try.underlying24 (opensAt_cons (opens_int Try.underlying3) rfl (by kernel_rfl) (opensAt_cons (opens_int Try.underlying3) rfl (by kernel_rfl) (opensAt_cons (opens_int Try.underlying3) rfl (by kernel_rfl) (opensAt_one (opens_slice Try.underlying22 (opens_int Try.underlying3) (by kernel_rfl)) rfl (by kernel_rfl))))) (by kernel_rfl) (fun x : S24 => (x.f0, x.f1, x.f2, x.f3)) (fun p => (⟨p.1, p.2.1, p.2.2.1, p.2.2.2⟩ : S24)) (fun _ => rfl)) (hval 0 24 v0 rfl rfl) h0
  obtain ⟨A0_3, c0_3, rfl, hc0_3, hr0_3⟩ := k24_open hK0
  obtain ⟨a1, rfl, rfl, rfl, w1⟩ := open_int Try.underlying3 (hval 1 3 v1 rfl rfl) h1
  have k2 := h2
  have lt2 : ∀ x ∈ p2, x.block < W.heap.size := by obtain ⟨m, hm⟩ := k2; exact DataW.trod_lt m _ _ _ hm
  obtain ⟨cs2, a2, rfl, hK2, hg2⟩ := arg_struct Try.underlying24 (show Opens Try.prog k24 24 _ from opens_struct Try.underlying24 (opensAt_cons (opens_int Try.underlying3) rfl (by kernel_rfl) (opensAt_cons (opens_int Try.underlying3) rfl (by kernel_rfl) (opensAt_cons (opens_int Try.underlying3) rfl (by kernel_rfl) (opensAt_one (opens_slice Try.underlying22 (opens_int Try.underlying3) (by kernel_rfl)) rfl (by kernel_rfl))))) (by kernel_rfl) (fun x : S24 => (x.f0, x.f1, x.f2, x.f3)) (fun p => (⟨p.1, p.2.1, p.2.2.1, p.2.2.2⟩ : S24)) (fun _ => rfl)) (hval 2 24 v2 rfl rfl) h2
  obtain ⟨A2_3, c2_3, rfl, hc2_3, hr2_3⟩ := k24_open hK2
  obtain ⟨a3, rfl, rfl, rfl, w3⟩ := open_int Try.underlying3 (hval 3 3 v3 rfl rfl) h3
  clear hA0 hval0 hsz0 hsz
  obtain ⟨k, hk⟩ := Pure.FnExactTimesTogether a0.f0 a0.f1 a0.f2 a0.f3 a1 a2.f0 a2.f1 a2.f2 a2.f3 a3 hg0.2.2.2.1 hg2.2.2.2.1 w1 w3
  refine (laws_FnExactTimesTogether.calls k a0.f0 a0.f1 a0.f2 A0_3 c0_3 a0.f3 a1 a2.f0 a2.f1 a2.f2 A2_3 c2_3 a2.f3 a3 true W hr0_3 hc0_3 hr2_3 hc2_3 hk).mono fun e W' ⟨he, bel⟩ => ?_
  subst he
  exact ⟨_, rfl, _, _, _, [], _, [], hW', trodAll_mk1 (shut_bool Try.underlying4 _), (trodAll_cons_mk (Below.trod laidOut (by kernel_rfl) (of_decide_eq_true (by kernel_rfl)) k0 bel lt0) (trodAll_cons_mk (shut_int Try.underlying3 w1) (trodAll_cons_mk (Below.trod laidOut (by kernel_rfl) (of_decide_eq_true (by kernel_rfl)) k2 bel lt2) (trodAll_cons_mk (shut_int Try.underlying3 w3) trodAll_mk0)))), rfl, bel.frame _, fun h => by cases h⟩
theorem over : Rows.fnExactTimesTogetherRow.holds Try.pinned (OpenSpec.ofChange Rows.fnExactTimesTogetherSpec) :=
  OpenClaim.holds_of_wide 12 Try.f12 rfl rfl rfl rfl rfl rfl rfl ⟨rfl, rfl, rfl, rfl, rfl⟩ rfl rfl rfl rfl rfl (by kernel_rfl) Try.func12 (by kernel_rfl)
    (of_decide_eq_true (by kernel_rfl)) (by unfold Func.isWrapper; first | (rw [if_pos (by decide +kernel)]; kernel_rfl) | (rw [if_neg (by decide +kernel)]; exact ⟨rfl, rfl⟩))
    (fun os started H enc _ => lifted os started H enc)
theorem proved : Rows.FnExactTimesTogetherSaid := over
end Go.Proofs.Ytomgfijlnfljpaa.fnExactTimesTogether
namespace Go.Proofs.Ytomgfijlnfljpaa
/-- The row, under a short name, for the claim. -/
theorem fnExactTimesTogether_holds : Rows.FnExactTimesTogetherSaid := fnExactTimesTogether.proved
end Go.Proofs.Ytomgfijlnfljpaa
