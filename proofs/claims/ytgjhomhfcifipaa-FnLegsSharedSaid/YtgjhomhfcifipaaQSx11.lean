-- WRITTEN BY a program of this session (wip/xprint.py, over the kit's print): Lean checks it.
import Derived.Test.YtgjhomhfcifipaaQSx0
import Derived.Test.YtgjhomhfcifipaaQSx1
import Derived.Test.YtgjhomhfcifipaaQSx2
import Derived.Test.YtgjhomhfcifipaaQSx4
import Derived.Test.YtgjhomhfcifipaaQSx5
import Derived.Test.YtgjhomhfcifipaaQSx6
import Derived.Test.YtgjhomhfcifipaaQSx7
namespace Go.Proofs.Ytgjhomhfcifipaa.QS
open Go.Proofs.Ytgjhomhfcifipaa.X Go.RowKit Go.Proofs.YtgjhomhfcifipaaW.PrintWords Go.Proofs.YtgjhomhfcifipaaW.PrintLast Go.Proofs.YtgjhomhfcifipaaW.PrintMore
attribute [local go_sem] max2_int min2_int max_two min_two max_three min_three max_four min_four   -- for this text's walks alone
set_option linter.unusedVariables false
set_option linter.unusedSimpArgs false

attribute [local go_sem high] eqA54
/-! ### impl_RideAndWalk: function 26 -/
def impl_RideAndWalk.j0 : Nat → Int → Int → Int → Int → Bool → Option (Int × Int × Int × Int × Bool)
  | 0, _, _, _, _, _ => none
  | k + 1, x0, x1, x2, x3, x46 => if x46 = true then (some (0, 0, 0, 0, false)) else ((impl_lowest.f k (wrap64 ((wrap64 (x0 * x2)) * (wrap64 (x3 - x1)))) (wrap64 ((wrap64 ((wrap64 (x3 * x2)) + (wrap64 (x3 * x1)))) - (wrap64 ((wrap64 (2 * x1)) * x2))))).bind fun bt388 => ((impl_lowest.f k (wrap64 ((wrap64 ((wrap64 ((wrap64 (x0 * x2)) * (wrap64 (x3 - x1)))) * x1)) + (wrap64 ((wrap64 ((wrap64 (x0 * (wrap64 ((wrap64 ((wrap64 (x3 * x2)) + (wrap64 (x3 * x1)))) - (wrap64 ((wrap64 (2 * x1)) * x2)))))) - (wrap64 ((wrap64 (x0 * x2)) * (wrap64 (x3 - x1)))))) * x3)))) (wrap64 ((wrap64 ((wrap64 ((wrap64 ((wrap64 (x3 * x2)) + (wrap64 (x3 * x1)))) - (wrap64 ((wrap64 (2 * x1)) * x2)))) * x3)) * x1))).bind fun bt390 => (some (bt388.1, bt388.2, bt390.1, bt390.2, true))))
def impl_RideAndWalk.f (k : Nat) (a0 : Int) (a1 : Int) (a2 : Int) (a3 : Int) : Option (Int × Int × Int × Int × Bool) := (impl_isLong.f a0).bind fun t384 => (if t384 = true then ((impl_isFast.f a1).bind fun t385 => (if t385 = true then ((impl_isFast.f a2).bind fun t386 => (if t386 = true then ((impl_isFast.f a3).bind fun t387 => (if t387 = true then (if a1 ≥ a3 then (impl_RideAndWalk.j0 k a0 a1 a2 a3 true) else (impl_RideAndWalk.j0 k a0 a1 a2 a3 (decide (a2 ≥ a3)))) else (impl_RideAndWalk.j0 k a0 a1 a2 a3 true))) else (impl_RideAndWalk.j0 k a0 a1 a2 a3 true))) else (impl_RideAndWalk.j0 k a0 a1 a2 a3 true))) else (impl_RideAndWalk.j0 k a0 a1 a2 a3 true))
set_option maxHeartbeats 8000000 in
set_option maxRecDepth 100000 in
theorem impl_RideAndWalk.calls (k : Nat) (a0 : Int) (a1 : Int) (a2 : Int) (a3 : Int) (r1 : Int) (r2 : Int) (r3 : Int) (r4 : Int) (r5 : Bool) (w : World) (h : impl_RideAndWalk.f k a0 a1 a2 a3 = some (r1, r2, r3, r4, r5)) :
    Calls Try.prog 26 #[.int .i64 a0, .int .i64 a1, .int .i64 a2, .int .i64 a3] w fun e w' => e = .returned (.tuple #[.int .i64 r1, .int .i64 r2, .int .i64 r3, .int .i64 r4, .bool r5]) ∧ Below w.heap.size w w' := by
  have HB := Aside0.mk (Below.refl w.heap.size w)
  have H : ((impl_isLong.f a0).bind fun t384 => (if t384 = true then ((impl_isFast.f a1).bind fun t385 => (if t385 = true then ((impl_isFast.f a2).bind fun t386 => (if t386 = true then ((impl_isFast.f a3).bind fun t387 => (if t387 = true then (if a1 ≥ a3 then (impl_RideAndWalk.j0 k a0 a1 a2 a3 true) else (impl_RideAndWalk.j0 k a0 a1 a2 a3 (decide (a2 ≥ a3)))) else (impl_RideAndWalk.j0 k a0 a1 a2 a3 true))) else (impl_RideAndWalk.j0 k a0 a1 a2 a3 true))) else (impl_RideAndWalk.j0 k a0 a1 a2 a3 true))) else (impl_RideAndWalk.j0 k a0 a1 a2 a3 true))) = some (r1, r2, r3, r4, r5) := h
  clear h
  have HC5 := Aside0.mk H
  clear H
  go_enter Try.func26, Try.ntmps26
  go_upto_region 1 with (fail)
  go_cut [46] (fun v46 wc => ∃ (kq : Nat) (x46_4 : Bool), v46 = .bool x46_4 ∧ Aside0 (impl_RideAndWalk.j0 kq a0 a1 a2 a3 x46_4 = some (r1, r2, r3, r4, r5)) ∧ Aside0 (kq ≤ k) ∧ Aside0 (Below w.heap.size w wc))
  case first =>
    have H := HC5.out
    clear HC5
    replace H := Option.bind_eq_some_iff.mp H
    obtain ⟨t384, A60, H⟩ := H
    replace H : (if t384 = true then ((impl_isFast.f a1).bind fun t385 => (if t385 = true then ((impl_isFast.f a2).bind fun t386 => (if t386 = true then ((impl_isFast.f a3).bind fun t387 => (if t387 = true then (if a1 ≥ a3 then (impl_RideAndWalk.j0 k a0 a1 a2 a3 true) else (impl_RideAndWalk.j0 k a0 a1 a2 a3 (decide (a2 ≥ a3)))) else (impl_RideAndWalk.j0 k a0 a1 a2 a3 true))) else (impl_RideAndWalk.j0 k a0 a1 a2 a3 true))) else (impl_RideAndWalk.j0 k a0 a1 a2 a3 true))) else (impl_RideAndWalk.j0 k a0 a1 a2 a3 true)) = some (r1, r2, r3, r4, r5) := H
    have A6 := Aside0.mk A60
    clear A60
    by_cases c7 : t384 = true
    · subst c7
      have H1 : ((impl_isFast.f a1).bind fun t385 => (if t385 = true then ((impl_isFast.f a2).bind fun t386 => (if t386 = true then ((impl_isFast.f a3).bind fun t387 => (if t387 = true then (if a1 ≥ a3 then (impl_RideAndWalk.j0 k a0 a1 a2 a3 true) else (impl_RideAndWalk.j0 k a0 a1 a2 a3 (decide (a2 ≥ a3)))) else (impl_RideAndWalk.j0 k a0 a1 a2 a3 true))) else (impl_RideAndWalk.j0 k a0 a1 a2 a3 true))) else (impl_RideAndWalk.j0 k a0 a1 a2 a3 true))) = some (r1, r2, r3, r4, r5) := by rw [if_pos rfl] at H; exact H
      clear H
      have H := H1
      clear H1
      replace H := Option.bind_eq_some_iff.mp H
      obtain ⟨t385, A80, H⟩ := H
      replace H : (if t385 = true then ((impl_isFast.f a2).bind fun t386 => (if t386 = true then ((impl_isFast.f a3).bind fun t387 => (if t387 = true then (if a1 ≥ a3 then (impl_RideAndWalk.j0 k a0 a1 a2 a3 true) else (impl_RideAndWalk.j0 k a0 a1 a2 a3 (decide (a2 ≥ a3)))) else (impl_RideAndWalk.j0 k a0 a1 a2 a3 true))) else (impl_RideAndWalk.j0 k a0 a1 a2 a3 true))) else (impl_RideAndWalk.j0 k a0 a1 a2 a3 true)) = some (r1, r2, r3, r4, r5) := H
      have A8 := Aside0.mk A80
      clear A80
      by_cases c9 : t385 = true
      · subst c9
        have H1 : ((impl_isFast.f a2).bind fun t386 => (if t386 = true then ((impl_isFast.f a3).bind fun t387 => (if t387 = true then (if a1 ≥ a3 then (impl_RideAndWalk.j0 k a0 a1 a2 a3 true) else (impl_RideAndWalk.j0 k a0 a1 a2 a3 (decide (a2 ≥ a3)))) else (impl_RideAndWalk.j0 k a0 a1 a2 a3 true))) else (impl_RideAndWalk.j0 k a0 a1 a2 a3 true))) = some (r1, r2, r3, r4, r5) := by rw [if_pos rfl] at H; exact H
        clear H
        have H := H1
        clear H1
        replace H := Option.bind_eq_some_iff.mp H
        obtain ⟨t386, A100, H⟩ := H
        replace H : (if t386 = true then ((impl_isFast.f a3).bind fun t387 => (if t387 = true then (if a1 ≥ a3 then (impl_RideAndWalk.j0 k a0 a1 a2 a3 true) else (impl_RideAndWalk.j0 k a0 a1 a2 a3 (decide (a2 ≥ a3)))) else (impl_RideAndWalk.j0 k a0 a1 a2 a3 true))) else (impl_RideAndWalk.j0 k a0 a1 a2 a3 true)) = some (r1, r2, r3, r4, r5) := H
        have A10 := Aside0.mk A100
        clear A100
        by_cases c11 : t386 = true
        · subst c11
          have H1 : ((impl_isFast.f a3).bind fun t387 => (if t387 = true then (if a1 ≥ a3 then (impl_RideAndWalk.j0 k a0 a1 a2 a3 true) else (impl_RideAndWalk.j0 k a0 a1 a2 a3 (decide (a2 ≥ a3)))) else (impl_RideAndWalk.j0 k a0 a1 a2 a3 true))) = some (r1, r2, r3, r4, r5) := by rw [if_pos rfl] at H; exact H
          clear H
          have H := H1
          clear H1
          replace H := Option.bind_eq_some_iff.mp H
          obtain ⟨t387, A120, H⟩ := H
          replace H : (if t387 = true then (if a1 ≥ a3 then (impl_RideAndWalk.j0 k a0 a1 a2 a3 true) else (impl_RideAndWalk.j0 k a0 a1 a2 a3 (decide (a2 ≥ a3)))) else (impl_RideAndWalk.j0 k a0 a1 a2 a3 true)) = some (r1, r2, r3, r4, r5) := H
          have A12 := Aside0.mk A120
          clear A120
          by_cases c13 : t387 = true
          · subst c13
            have H1 : (if a1 ≥ a3 then (impl_RideAndWalk.j0 k a0 a1 a2 a3 true) else (impl_RideAndWalk.j0 k a0 a1 a2 a3 (decide (a2 ≥ a3)))) = some (r1, r2, r3, r4, r5) := by rw [if_pos rfl] at H; exact H
            clear H
            have H := H1
            clear H1
            by_cases c14 : a1 ≥ a3
            · rw [if_pos c14] at H
              have c14b0 : decide (a3 ≤ a1) = true := decide_eq_true c14
              clear c14
              (first | rw [c14b0] | (simp only [i64_w, i32_w]; rw [c14b0]) | skip)
              have H' := Aside0.mk H
              clear H
              go_wp2_with (first | ((with_reducible refine gate_callee (f := 40) rfl ?_); refine goesL_ (some 20) rfl rfl Try.func40 (by kernel_rfl) rfl #[.int .i64 a0] rfl (by (try simp only [List.map_toArray, List.map_cons, List.map_nil]); first | done | rfl | (simp only [List.length_drop, List.length_take]; rfl)) ?_; (with_reducible refine (impl_isLong.calls a0 true _ A6.out).mono ?_); rintro e w' ⟨rfl, ⟨nd, rfl⟩⟩; refine ⟨_, rfl, ?_⟩) | (go_at_call 41; (with_reducible refine (impl_isFast.calls a1 true _ A8.out).mono ?_); rintro e w' ⟨rfl, ⟨nd, rfl⟩⟩) | (go_at_call 41; (with_reducible refine (impl_isFast.calls a2 true _ A10.out).mono ?_); rintro e w' ⟨rfl, ⟨nd, rfl⟩⟩) | (go_at_call 41; (with_reducible refine (impl_isFast.calls a3 true _ A12.out).mono ?_); rintro e w' ⟨rfl, ⟨nd, rfl⟩⟩))
              go_meet
              case rel => exact ⟨_, (true), (by first | rfl | (simp; done) | (simp [*]; done)), H', ⟨by first | omega | exact Nat.le_refl _⟩, ⟨by repeat (first | (with_reducible first | exact HB.out | apply below_alloc | apply pw_below_drewN | apply below_drew1) | exact HB.out)⟩⟩
            · rw [if_neg c14] at H
              have c14b0 : decide (a3 ≤ a1) = false := decide_eq_false c14
              clear c14
              (first | rw [c14b0] | (simp only [i64_w, i32_w]; rw [c14b0]) | skip)
              have H' := Aside0.mk H
              clear H
              go_wp2_with (first | ((with_reducible refine gate_callee (f := 40) rfl ?_); refine goesL_ (some 20) rfl rfl Try.func40 (by kernel_rfl) rfl #[.int .i64 a0] rfl (by (try simp only [List.map_toArray, List.map_cons, List.map_nil]); first | done | rfl | (simp only [List.length_drop, List.length_take]; rfl)) ?_; (with_reducible refine (impl_isLong.calls a0 true _ A6.out).mono ?_); rintro e w' ⟨rfl, ⟨nd, rfl⟩⟩; refine ⟨_, rfl, ?_⟩) | (go_at_call 41; (with_reducible refine (impl_isFast.calls a1 true _ A8.out).mono ?_); rintro e w' ⟨rfl, ⟨nd, rfl⟩⟩) | (go_at_call 41; (with_reducible refine (impl_isFast.calls a2 true _ A10.out).mono ?_); rintro e w' ⟨rfl, ⟨nd, rfl⟩⟩) | (go_at_call 41; (with_reducible refine (impl_isFast.calls a3 true _ A12.out).mono ?_); rintro e w' ⟨rfl, ⟨nd, rfl⟩⟩))
              go_meet
              case rel => exact ⟨_, (decide (a2 ≥ a3)), (by first | rfl | (simp; done) | (simp [*]; done)), H', ⟨by first | omega | exact Nat.le_refl _⟩, ⟨by repeat (first | (with_reducible first | exact HB.out | apply below_alloc | apply pw_below_drewN | apply below_drew1) | exact HB.out)⟩⟩
          · replace c13 := Bool.eq_false_iff.mpr c13
            subst c13
            have H1 : (impl_RideAndWalk.j0 k a0 a1 a2 a3 true) = some (r1, r2, r3, r4, r5) := by rw [if_neg (show ¬ (false = true) by decide)] at H; exact H
            clear H
            have H := H1
            clear H1
            have H' := Aside0.mk H
            clear H
            go_wp2_with (first | ((with_reducible refine gate_callee (f := 40) rfl ?_); refine goesL_ (some 20) rfl rfl Try.func40 (by kernel_rfl) rfl #[.int .i64 a0] rfl (by (try simp only [List.map_toArray, List.map_cons, List.map_nil]); first | done | rfl | (simp only [List.length_drop, List.length_take]; rfl)) ?_; (with_reducible refine (impl_isLong.calls a0 true _ A6.out).mono ?_); rintro e w' ⟨rfl, ⟨nd, rfl⟩⟩; refine ⟨_, rfl, ?_⟩) | (go_at_call 41; (with_reducible refine (impl_isFast.calls a1 true _ A8.out).mono ?_); rintro e w' ⟨rfl, ⟨nd, rfl⟩⟩) | (go_at_call 41; (with_reducible refine (impl_isFast.calls a2 true _ A10.out).mono ?_); rintro e w' ⟨rfl, ⟨nd, rfl⟩⟩) | (go_at_call 41; (with_reducible refine (impl_isFast.calls a3 false _ A12.out).mono ?_); rintro e w' ⟨rfl, ⟨nd, rfl⟩⟩))
            go_meet
            case rel => exact ⟨_, (true), (by first | rfl | (simp; done) | (simp [*]; done)), H', ⟨by first | omega | exact Nat.le_refl _⟩, ⟨by repeat (first | (with_reducible first | exact HB.out | apply below_alloc | apply pw_below_drewN | apply below_drew1) | exact HB.out)⟩⟩
        · replace c11 := Bool.eq_false_iff.mpr c11
          subst c11
          have H1 : (impl_RideAndWalk.j0 k a0 a1 a2 a3 true) = some (r1, r2, r3, r4, r5) := by rw [if_neg (show ¬ (false = true) by decide)] at H; exact H
          clear H
          have H := H1
          clear H1
          have H' := Aside0.mk H
          clear H
          go_wp2_with (first | ((with_reducible refine gate_callee (f := 40) rfl ?_); refine goesL_ (some 20) rfl rfl Try.func40 (by kernel_rfl) rfl #[.int .i64 a0] rfl (by (try simp only [List.map_toArray, List.map_cons, List.map_nil]); first | done | rfl | (simp only [List.length_drop, List.length_take]; rfl)) ?_; (with_reducible refine (impl_isLong.calls a0 true _ A6.out).mono ?_); rintro e w' ⟨rfl, ⟨nd, rfl⟩⟩; refine ⟨_, rfl, ?_⟩) | (go_at_call 41; (with_reducible refine (impl_isFast.calls a1 true _ A8.out).mono ?_); rintro e w' ⟨rfl, ⟨nd, rfl⟩⟩) | (go_at_call 41; (with_reducible refine (impl_isFast.calls a2 false _ A10.out).mono ?_); rintro e w' ⟨rfl, ⟨nd, rfl⟩⟩))
          go_meet
          case rel => exact ⟨_, (true), (by first | rfl | (simp; done) | (simp [*]; done)), H', ⟨by first | omega | exact Nat.le_refl _⟩, ⟨by repeat (first | (with_reducible first | exact HB.out | apply below_alloc | apply pw_below_drewN | apply below_drew1) | exact HB.out)⟩⟩
      · replace c9 := Bool.eq_false_iff.mpr c9
        subst c9
        have H1 : (impl_RideAndWalk.j0 k a0 a1 a2 a3 true) = some (r1, r2, r3, r4, r5) := by rw [if_neg (show ¬ (false = true) by decide)] at H; exact H
        clear H
        have H := H1
        clear H1
        have H' := Aside0.mk H
        clear H
        go_wp2_with (first | ((with_reducible refine gate_callee (f := 40) rfl ?_); refine goesL_ (some 20) rfl rfl Try.func40 (by kernel_rfl) rfl #[.int .i64 a0] rfl (by (try simp only [List.map_toArray, List.map_cons, List.map_nil]); first | done | rfl | (simp only [List.length_drop, List.length_take]; rfl)) ?_; (with_reducible refine (impl_isLong.calls a0 true _ A6.out).mono ?_); rintro e w' ⟨rfl, ⟨nd, rfl⟩⟩; refine ⟨_, rfl, ?_⟩) | (go_at_call 41; (with_reducible refine (impl_isFast.calls a1 false _ A8.out).mono ?_); rintro e w' ⟨rfl, ⟨nd, rfl⟩⟩))
        go_meet
        case rel => exact ⟨_, (true), (by first | rfl | (simp; done) | (simp [*]; done)), H', ⟨by first | omega | exact Nat.le_refl _⟩, ⟨by repeat (first | (with_reducible first | exact HB.out | apply below_alloc | apply pw_below_drewN | apply below_drew1) | exact HB.out)⟩⟩
    · replace c7 := Bool.eq_false_iff.mpr c7
      subst c7
      have H1 : (impl_RideAndWalk.j0 k a0 a1 a2 a3 true) = some (r1, r2, r3, r4, r5) := by rw [if_neg (show ¬ (false = true) by decide)] at H; exact H
      clear H
      have H := H1
      clear H1
      have H' := Aside0.mk H
      clear H
      go_wp2_with (first | ((with_reducible refine gate_callee (f := 40) rfl ?_); refine goesL_ (some 20) rfl rfl Try.func40 (by kernel_rfl) rfl #[.int .i64 a0] rfl (by (try simp only [List.map_toArray, List.map_cons, List.map_nil]); first | done | rfl | (simp only [List.length_drop, List.length_take]; rfl)) ?_; (with_reducible refine (impl_isLong.calls a0 false _ A6.out).mono ?_); rintro e w' ⟨rfl, ⟨nd, rfl⟩⟩; refine ⟨_, rfl, ?_⟩))
      go_meet
      case rel => exact ⟨_, (true), (by first | rfl | (simp; done) | (simp [*]; done)), H', ⟨by first | omega | exact Nat.le_refl _⟩, ⟨by repeat (first | (with_reducible first | exact HB.out | apply below_alloc | apply pw_below_drewN | apply below_drew1) | exact HB.out)⟩⟩
  case rest =>
    clear HC5
    try clear c1
    try clear c2
    try clear p2
    try clear c4
    try clear c7
    try clear c9
    try clear c11
    try clear c13
    try clear c14
    try clear c14b0
    obtain ⟨kq, x46_4, rfl, HA, HJ4, HB⟩ := hcut
    cases kq with
    | zero => exact absurd HA.out (by simp [impl_RideAndWalk.j0])
    | succ kj4 =>
      have H := HA.out
      clear HA
      simp only [impl_RideAndWalk.j0] at H
      by_cases c15 : x46_4 = true
      · subst c15
        have H1 : (some (0, 0, 0, 0, false)) = some (r1, r2, r3, r4, r5) := by rw [if_pos rfl] at H; exact H
        clear H
        have H := H1
        clear H1
        simp only [Option.some.injEq, Prod.mk.injEq] at H
        obtain ⟨rfl, rfl, rfl, rfl, rfl⟩ := H
        go_wp2
        refine bodyPost_ret (results_list (rs := [.tmp 8, .tmp 9, .tmp 10, .tmp 11, .tmp 12]) rfl (by simp) (.tmp (.tmp (.tmp (.tmp (.tmp .nil)))))) rfl ?_
        exact ⟨by first | rfl | (simp [errW_none, errW_some] <;> rfl) | (simp [*, errW_none, errW_some] <;> rfl), by repeat (first | (with_reducible first | exact HB.out | apply below_alloc | apply pw_below_drewN | apply below_drew1) | exact HB.out)⟩
      · replace c15 := Bool.eq_false_iff.mpr c15
        subst c15
        have H1 : ((impl_lowest.f kj4 (wrap64 ((wrap64 (a0 * a2)) * (wrap64 (a3 - a1)))) (wrap64 ((wrap64 ((wrap64 (a3 * a2)) + (wrap64 (a3 * a1)))) - (wrap64 ((wrap64 (2 * a1)) * a2))))).bind fun bt388 => ((impl_lowest.f kj4 (wrap64 ((wrap64 ((wrap64 ((wrap64 (a0 * a2)) * (wrap64 (a3 - a1)))) * a1)) + (wrap64 ((wrap64 ((wrap64 (a0 * (wrap64 ((wrap64 ((wrap64 (a3 * a2)) + (wrap64 (a3 * a1)))) - (wrap64 ((wrap64 (2 * a1)) * a2)))))) - (wrap64 ((wrap64 (a0 * a2)) * (wrap64 (a3 - a1)))))) * a3)))) (wrap64 ((wrap64 ((wrap64 ((wrap64 ((wrap64 (a3 * a2)) + (wrap64 (a3 * a1)))) - (wrap64 ((wrap64 (2 * a1)) * a2)))) * a3)) * a1))).bind fun bt390 => (some (bt388.1, bt388.2, bt390.1, bt390.2, true)))) = some (r1, r2, r3, r4, r5) := by rw [if_neg (show ¬ (false = true) by decide)] at H; exact H
        clear H
        have H := H1
        clear H1
        replace H := Option.bind_eq_some_iff.mp H
        obtain ⟨⟨t388, t389⟩, A160, H⟩ := H
        replace H : ((impl_lowest.f kj4 (wrap64 ((wrap64 ((wrap64 ((wrap64 (a0 * a2)) * (wrap64 (a3 - a1)))) * a1)) + (wrap64 ((wrap64 ((wrap64 (a0 * (wrap64 ((wrap64 ((wrap64 (a3 * a2)) + (wrap64 (a3 * a1)))) - (wrap64 ((wrap64 (2 * a1)) * a2)))))) - (wrap64 ((wrap64 (a0 * a2)) * (wrap64 (a3 - a1)))))) * a3)))) (wrap64 ((wrap64 ((wrap64 ((wrap64 ((wrap64 (a3 * a2)) + (wrap64 (a3 * a1)))) - (wrap64 ((wrap64 (2 * a1)) * a2)))) * a3)) * a1))).bind fun bt390 => (some (t388, t389, bt390.1, bt390.2, true))) = some (r1, r2, r3, r4, r5) := H
        have A16 := Aside0.mk A160
        clear A160
        replace H := Option.bind_eq_some_iff.mp H
        obtain ⟨⟨t390, t391⟩, A170, H⟩ := H
        replace H : (some (t388, t389, t390, t391, true)) = some (r1, r2, r3, r4, r5) := H
        have A17 := Aside0.mk A170
        clear A170
        simp only [Option.some.injEq, Prod.mk.injEq] at H
        obtain ⟨rfl, rfl, rfl, rfl, rfl⟩ := H
        go_wp2_with (first | ((with_reducible refine gate_callee (f := 53) rfl ?_); refine goesL_ (some 69) rfl rfl Try.func53 (by kernel_rfl) rfl #[.int .i64 (wrap64 ((wrap64 (a0 * a2)) * (wrap64 (a3 - a1)))), .int .i64 (wrap64 ((wrap64 ((wrap64 (a3 * a2)) + (wrap64 (a3 * a1)))) - (wrap64 ((wrap64 (2 * a1)) * a2))))] rfl (by (try simp only [List.map_toArray, List.map_cons, List.map_nil]); first | done | rfl | (simp only [List.length_drop, List.length_take]; rfl)) ?_; (with_reducible refine (impl_lowest.calls kj4 (wrap64 ((wrap64 (a0 * a2)) * (wrap64 (a3 - a1)))) (wrap64 ((wrap64 ((wrap64 (a3 * a2)) + (wrap64 (a3 * a1)))) - (wrap64 ((wrap64 (2 * a1)) * a2)))) t388 t389 _ A16.out).mono ?_); rintro e w18 ⟨rfl, hb⟩; refine ⟨_, rfl, ?_⟩; have n0_ := Aside0.mk (below_step (below_to HB) hb); clear HB; have HB := n0_; clear n0_; (try clear hb); (try clear hb2); (try clear hk); (try clear hi)) | ((with_reducible refine gate_callee (f := 53) rfl ?_); refine goesL_ (some 89) rfl rfl Try.func53 (by kernel_rfl) rfl #[.int .i64 (wrap64 ((wrap64 ((wrap64 ((wrap64 (a0 * a2)) * (wrap64 (a3 - a1)))) * a1)) + (wrap64 ((wrap64 ((wrap64 (a0 * (wrap64 ((wrap64 ((wrap64 (a3 * a2)) + (wrap64 (a3 * a1)))) - (wrap64 ((wrap64 (2 * a1)) * a2)))))) - (wrap64 ((wrap64 (a0 * a2)) * (wrap64 (a3 - a1)))))) * a3)))), .int .i64 (wrap64 ((wrap64 ((wrap64 ((wrap64 ((wrap64 (a3 * a2)) + (wrap64 (a3 * a1)))) - (wrap64 ((wrap64 (2 * a1)) * a2)))) * a3)) * a1))] rfl (by (try simp only [List.map_toArray, List.map_cons, List.map_nil]); first | done | rfl | (simp only [List.length_drop, List.length_take]; rfl)) ?_; (with_reducible refine (impl_lowest.calls kj4 (wrap64 ((wrap64 ((wrap64 ((wrap64 (a0 * a2)) * (wrap64 (a3 - a1)))) * a1)) + (wrap64 ((wrap64 ((wrap64 (a0 * (wrap64 ((wrap64 ((wrap64 (a3 * a2)) + (wrap64 (a3 * a1)))) - (wrap64 ((wrap64 (2 * a1)) * a2)))))) - (wrap64 ((wrap64 (a0 * a2)) * (wrap64 (a3 - a1)))))) * a3)))) (wrap64 ((wrap64 ((wrap64 ((wrap64 ((wrap64 (a3 * a2)) + (wrap64 (a3 * a1)))) - (wrap64 ((wrap64 (2 * a1)) * a2)))) * a3)) * a1)) t390 t391 _ A17.out).mono ?_); rintro e w19 ⟨rfl, hb⟩; refine ⟨_, rfl, ?_⟩; have n0_ := Aside0.mk (below_step (below_to HB) hb); clear HB; have HB := n0_; clear n0_; (try clear hb); (try clear hb2); (try clear hk); (try clear hi)))
        refine bodyPost_ret (results_list (rs := [.tmp 8, .tmp 9, .tmp 10, .tmp 11, .tmp 12]) rfl (by simp) (.tmp (.tmp (.tmp (.tmp (.tmp .nil)))))) rfl ?_
        exact ⟨by first | rfl | (simp [errW_none, errW_some] <;> rfl) | (simp [*, errW_none, errW_some] <;> rfl), by repeat (first | (with_reducible first | exact HB.out | apply below_alloc | apply pw_below_drewN | apply below_drew1) | exact HB.out)⟩

/-! ### spec_RideAndWalk: function 27 -/
def spec_RideAndWalk.j0 : Nat → Int → Int → Int → Int → Bool → Option (Int × Int × Int × Int × Bool)
  | 0, _, _, _, _, _ => none
  | k + 1, x0, x1, x2, x3, x40 => if x40 = true then (some (0, 0, 0, 0, false)) else ((spec_meLow.f k (wrap64 ((wrap64 (x0 * x2)) * (wrap64 (x3 - x1)))) (wrap64 ((wrap64 (x1 * (wrap64 (x3 - x2)))) + (wrap64 (x2 * (wrap64 (x3 - x1))))))).bind fun bt396 => ((spec_meLow.f k (wrap64 ((wrap64 ((wrap64 ((wrap64 (x0 * x2)) * (wrap64 (x3 - x1)))) * x1)) + (wrap64 ((wrap64 ((wrap64 (x0 * (wrap64 ((wrap64 (x1 * (wrap64 (x3 - x2)))) + (wrap64 (x2 * (wrap64 (x3 - x1)))))))) - (wrap64 ((wrap64 (x0 * x2)) * (wrap64 (x3 - x1)))))) * x3)))) (wrap64 ((wrap64 ((wrap64 ((wrap64 (x1 * (wrap64 (x3 - x2)))) + (wrap64 (x2 * (wrap64 (x3 - x1)))))) * x1)) * x3))).bind fun bt398 => (some (bt396.1, bt396.2, bt398.1, bt398.2, true))))
def spec_RideAndWalk.f (k : Nat) (a0 : Int) (a1 : Int) (a2 : Int) (a3 : Int) : Option (Int × Int × Int × Int × Bool) := (spec_l1In.f a0 1 1000).bind fun t392 => (if t392 = true then ((spec_l1In.f a3 1 100).bind fun t393 => (if t393 = true then ((spec_l1In.f a1 1 (wrap64 (a3 - 1))).bind fun t394 => (if t394 = true then ((spec_l1In.f a2 1 (wrap64 (a3 - 1))).bind fun t395 => (spec_RideAndWalk.j0 k a0 a1 a2 a3 (!t395))) else (spec_RideAndWalk.j0 k a0 a1 a2 a3 true))) else (spec_RideAndWalk.j0 k a0 a1 a2 a3 true))) else (spec_RideAndWalk.j0 k a0 a1 a2 a3 true))
set_option maxHeartbeats 8000000 in
set_option maxRecDepth 100000 in
theorem spec_RideAndWalk.calls (k : Nat) (a0 : Int) (a1 : Int) (a2 : Int) (a3 : Int) (r1 : Int) (r2 : Int) (r3 : Int) (r4 : Int) (r5 : Bool) (w : World) (h : spec_RideAndWalk.f k a0 a1 a2 a3 = some (r1, r2, r3, r4, r5)) :
    Calls Try.prog 27 #[.int .i64 a0, .int .i64 a1, .int .i64 a2, .int .i64 a3] w fun e w' => e = .returned (.tuple #[.int .i64 r1, .int .i64 r2, .int .i64 r3, .int .i64 r4, .bool r5]) ∧ Drawn0 w w' := by
  have H : ((spec_l1In.f a0 1 1000).bind fun t392 => (if t392 = true then ((spec_l1In.f a3 1 100).bind fun t393 => (if t393 = true then ((spec_l1In.f a1 1 (wrap64 (a3 - 1))).bind fun t394 => (if t394 = true then ((spec_l1In.f a2 1 (wrap64 (a3 - 1))).bind fun t395 => (spec_RideAndWalk.j0 k a0 a1 a2 a3 (!t395))) else (spec_RideAndWalk.j0 k a0 a1 a2 a3 true))) else (spec_RideAndWalk.j0 k a0 a1 a2 a3 true))) else (spec_RideAndWalk.j0 k a0 a1 a2 a3 true))) = some (r1, r2, r3, r4, r5) := h
  clear h
  have HC5 := Aside0.mk H
  clear H
  go_enter Try.func27, Try.ntmps27
  go_upto_region 1 with (fail)
  go_cut [40] (fun v40 wc => ∃ (kq : Nat) (x40_4 : Bool), v40 = .bool x40_4 ∧ Aside0 (spec_RideAndWalk.j0 kq a0 a1 a2 a3 x40_4 = some (r1, r2, r3, r4, r5)) ∧ Aside0 (kq ≤ k) ∧ Drawn0 w wc)
  case first =>
    have H := HC5.out
    clear HC5
    replace H := Option.bind_eq_some_iff.mp H
    obtain ⟨t392, A60, H⟩ := H
    replace H : (if t392 = true then ((spec_l1In.f a3 1 100).bind fun t393 => (if t393 = true then ((spec_l1In.f a1 1 (wrap64 (a3 - 1))).bind fun t394 => (if t394 = true then ((spec_l1In.f a2 1 (wrap64 (a3 - 1))).bind fun t395 => (spec_RideAndWalk.j0 k a0 a1 a2 a3 (!t395))) else (spec_RideAndWalk.j0 k a0 a1 a2 a3 true))) else (spec_RideAndWalk.j0 k a0 a1 a2 a3 true))) else (spec_RideAndWalk.j0 k a0 a1 a2 a3 true)) = some (r1, r2, r3, r4, r5) := H
    have A6 := Aside0.mk A60
    clear A60
    by_cases c7 : t392 = true
    · subst c7
      have H1 : ((spec_l1In.f a3 1 100).bind fun t393 => (if t393 = true then ((spec_l1In.f a1 1 (wrap64 (a3 - 1))).bind fun t394 => (if t394 = true then ((spec_l1In.f a2 1 (wrap64 (a3 - 1))).bind fun t395 => (spec_RideAndWalk.j0 k a0 a1 a2 a3 (!t395))) else (spec_RideAndWalk.j0 k a0 a1 a2 a3 true))) else (spec_RideAndWalk.j0 k a0 a1 a2 a3 true))) = some (r1, r2, r3, r4, r5) := by rw [if_pos rfl] at H; exact H
      clear H
      have H := H1
      clear H1
      replace H := Option.bind_eq_some_iff.mp H
      obtain ⟨t393, A80, H⟩ := H
      replace H : (if t393 = true then ((spec_l1In.f a1 1 (wrap64 (a3 - 1))).bind fun t394 => (if t394 = true then ((spec_l1In.f a2 1 (wrap64 (a3 - 1))).bind fun t395 => (spec_RideAndWalk.j0 k a0 a1 a2 a3 (!t395))) else (spec_RideAndWalk.j0 k a0 a1 a2 a3 true))) else (spec_RideAndWalk.j0 k a0 a1 a2 a3 true)) = some (r1, r2, r3, r4, r5) := H
      have A8 := Aside0.mk A80
      clear A80
      by_cases c9 : t393 = true
      · subst c9
        have H1 : ((spec_l1In.f a1 1 (wrap64 (a3 - 1))).bind fun t394 => (if t394 = true then ((spec_l1In.f a2 1 (wrap64 (a3 - 1))).bind fun t395 => (spec_RideAndWalk.j0 k a0 a1 a2 a3 (!t395))) else (spec_RideAndWalk.j0 k a0 a1 a2 a3 true))) = some (r1, r2, r3, r4, r5) := by rw [if_pos rfl] at H; exact H
        clear H
        have H := H1
        clear H1
        replace H := Option.bind_eq_some_iff.mp H
        obtain ⟨t394, A100, H⟩ := H
        replace H : (if t394 = true then ((spec_l1In.f a2 1 (wrap64 (a3 - 1))).bind fun t395 => (spec_RideAndWalk.j0 k a0 a1 a2 a3 (!t395))) else (spec_RideAndWalk.j0 k a0 a1 a2 a3 true)) = some (r1, r2, r3, r4, r5) := H
        have A10 := Aside0.mk A100
        clear A100
        by_cases c11 : t394 = true
        · subst c11
          have H1 : ((spec_l1In.f a2 1 (wrap64 (a3 - 1))).bind fun t395 => (spec_RideAndWalk.j0 k a0 a1 a2 a3 (!t395))) = some (r1, r2, r3, r4, r5) := by rw [if_pos rfl] at H; exact H
          clear H
          have H := H1
          clear H1
          replace H := Option.bind_eq_some_iff.mp H
          obtain ⟨t395, A120, H⟩ := H
          replace H : (spec_RideAndWalk.j0 k a0 a1 a2 a3 (!t395)) = some (r1, r2, r3, r4, r5) := H
          have A12 := Aside0.mk A120
          clear A120
          have H' := Aside0.mk H
          clear H
          go_wp2_with (first | ((with_reducible refine gate_callee (f := 46) rfl ?_); refine goesL_ (some 20) rfl rfl Try.func46 (by kernel_rfl) rfl #[.int .i64 a0, .int .i64 1, .int .i64 1000] rfl (by (try simp only [List.map_toArray, List.map_cons, List.map_nil]); first | done | rfl | (simp only [List.length_drop, List.length_take]; rfl)) ?_; (with_reducible refine (spec_l1In.calls a0 1 1000 true _ A6.out).mono ?_); rintro e w' ⟨rfl, ⟨nd, rfl⟩⟩; refine ⟨_, rfl, ?_⟩) | (go_at_call 46; (with_reducible refine (spec_l1In.calls a3 1 100 true _ A8.out).mono ?_); rintro e w' ⟨rfl, ⟨nd, rfl⟩⟩) | (go_at_call 46; (with_reducible refine (spec_l1In.calls a1 1 (wrap64 (a3 - 1)) true _ A10.out).mono ?_); rintro e w' ⟨rfl, ⟨nd, rfl⟩⟩) | (go_at_call 46; (with_reducible refine (spec_l1In.calls a2 1 (wrap64 (a3 - 1)) t395 _ A12.out).mono ?_); rintro e w' ⟨rfl, ⟨nd, rfl⟩⟩))
          go_meet
          case rel => exact ⟨_, (!t395), (by first | rfl | (simp; done) | (simp [*]; done)), H', ⟨by first | omega | exact Nat.le_refl _⟩, by repeat (first | exact Drawn0.refl _ | apply Drawn0.step)⟩
        · replace c11 := Bool.eq_false_iff.mpr c11
          subst c11
          have H1 : (spec_RideAndWalk.j0 k a0 a1 a2 a3 true) = some (r1, r2, r3, r4, r5) := by rw [if_neg (show ¬ (false = true) by decide)] at H; exact H
          clear H
          have H := H1
          clear H1
          have H' := Aside0.mk H
          clear H
          go_wp2_with (first | ((with_reducible refine gate_callee (f := 46) rfl ?_); refine goesL_ (some 20) rfl rfl Try.func46 (by kernel_rfl) rfl #[.int .i64 a0, .int .i64 1, .int .i64 1000] rfl (by (try simp only [List.map_toArray, List.map_cons, List.map_nil]); first | done | rfl | (simp only [List.length_drop, List.length_take]; rfl)) ?_; (with_reducible refine (spec_l1In.calls a0 1 1000 true _ A6.out).mono ?_); rintro e w' ⟨rfl, ⟨nd, rfl⟩⟩; refine ⟨_, rfl, ?_⟩) | (go_at_call 46; (with_reducible refine (spec_l1In.calls a3 1 100 true _ A8.out).mono ?_); rintro e w' ⟨rfl, ⟨nd, rfl⟩⟩) | (go_at_call 46; (with_reducible refine (spec_l1In.calls a1 1 (wrap64 (a3 - 1)) false _ A10.out).mono ?_); rintro e w' ⟨rfl, ⟨nd, rfl⟩⟩))
          go_meet
          case rel => exact ⟨_, (true), (by first | rfl | (simp; done) | (simp [*]; done)), H', ⟨by first | omega | exact Nat.le_refl _⟩, by repeat (first | exact Drawn0.refl _ | apply Drawn0.step)⟩
      · replace c9 := Bool.eq_false_iff.mpr c9
        subst c9
        have H1 : (spec_RideAndWalk.j0 k a0 a1 a2 a3 true) = some (r1, r2, r3, r4, r5) := by rw [if_neg (show ¬ (false = true) by decide)] at H; exact H
        clear H
        have H := H1
        clear H1
        have H' := Aside0.mk H
        clear H
        go_wp2_with (first | ((with_reducible refine gate_callee (f := 46) rfl ?_); refine goesL_ (some 20) rfl rfl Try.func46 (by kernel_rfl) rfl #[.int .i64 a0, .int .i64 1, .int .i64 1000] rfl (by (try simp only [List.map_toArray, List.map_cons, List.map_nil]); first | done | rfl | (simp only [List.length_drop, List.length_take]; rfl)) ?_; (with_reducible refine (spec_l1In.calls a0 1 1000 true _ A6.out).mono ?_); rintro e w' ⟨rfl, ⟨nd, rfl⟩⟩; refine ⟨_, rfl, ?_⟩) | (go_at_call 46; (with_reducible refine (spec_l1In.calls a3 1 100 false _ A8.out).mono ?_); rintro e w' ⟨rfl, ⟨nd, rfl⟩⟩))
        go_meet
        case rel => exact ⟨_, (true), (by first | rfl | (simp; done) | (simp [*]; done)), H', ⟨by first | omega | exact Nat.le_refl _⟩, by repeat (first | exact Drawn0.refl _ | apply Drawn0.step)⟩
    · replace c7 := Bool.eq_false_iff.mpr c7
      subst c7
      have H1 : (spec_RideAndWalk.j0 k a0 a1 a2 a3 true) = some (r1, r2, r3, r4, r5) := by rw [if_neg (show ¬ (false = true) by decide)] at H; exact H
      clear H
      have H := H1
      clear H1
      have H' := Aside0.mk H
      clear H
      go_wp2_with (first | ((with_reducible refine gate_callee (f := 46) rfl ?_); refine goesL_ (some 20) rfl rfl Try.func46 (by kernel_rfl) rfl #[.int .i64 a0, .int .i64 1, .int .i64 1000] rfl (by (try simp only [List.map_toArray, List.map_cons, List.map_nil]); first | done | rfl | (simp only [List.length_drop, List.length_take]; rfl)) ?_; (with_reducible refine (spec_l1In.calls a0 1 1000 false _ A6.out).mono ?_); rintro e w' ⟨rfl, ⟨nd, rfl⟩⟩; refine ⟨_, rfl, ?_⟩))
      go_meet
      case rel => exact ⟨_, (true), (by first | rfl | (simp; done) | (simp [*]; done)), H', ⟨by first | omega | exact Nat.le_refl _⟩, by repeat (first | exact Drawn0.refl _ | apply Drawn0.step)⟩
  case rest =>
    clear HC5
    try clear c1
    try clear c2
    try clear p2
    try clear c4
    try clear p6
    try clear c7
    try clear c9
    try clear c11
    obtain ⟨kq, x40_4, rfl, HA, HJ4, ⟨mc4, rfl⟩⟩ := hcut
    cases kq with
    | zero => exact absurd HA.out (by simp [spec_RideAndWalk.j0])
    | succ kj4 =>
      have H := HA.out
      clear HA
      simp only [spec_RideAndWalk.j0] at H
      by_cases c13 : x40_4 = true
      · subst c13
        have H1 : (some (0, 0, 0, 0, false)) = some (r1, r2, r3, r4, r5) := by rw [if_pos rfl] at H; exact H
        clear H
        have H := H1
        clear H1
        simp only [Option.some.injEq, Prod.mk.injEq] at H
        obtain ⟨rfl, rfl, rfl, rfl, rfl⟩ := H
        go_wp2
        refine bodyPost_ret (results_list (rs := [.tmp 8, .tmp 9, .tmp 10, .tmp 11, .tmp 12]) rfl (by simp) (.tmp (.tmp (.tmp (.tmp (.tmp .nil)))))) rfl ?_
        exact ⟨by first | rfl | (simp; done) | (simp [*]; done), by repeat (first | exact Drawn0.refl _ | apply Drawn0.step)⟩
      · replace c13 := Bool.eq_false_iff.mpr c13
        subst c13
        have H1 : ((spec_meLow.f kj4 (wrap64 ((wrap64 (a0 * a2)) * (wrap64 (a3 - a1)))) (wrap64 ((wrap64 (a1 * (wrap64 (a3 - a2)))) + (wrap64 (a2 * (wrap64 (a3 - a1))))))).bind fun bt396 => ((spec_meLow.f kj4 (wrap64 ((wrap64 ((wrap64 ((wrap64 (a0 * a2)) * (wrap64 (a3 - a1)))) * a1)) + (wrap64 ((wrap64 ((wrap64 (a0 * (wrap64 ((wrap64 (a1 * (wrap64 (a3 - a2)))) + (wrap64 (a2 * (wrap64 (a3 - a1)))))))) - (wrap64 ((wrap64 (a0 * a2)) * (wrap64 (a3 - a1)))))) * a3)))) (wrap64 ((wrap64 ((wrap64 ((wrap64 (a1 * (wrap64 (a3 - a2)))) + (wrap64 (a2 * (wrap64 (a3 - a1)))))) * a1)) * a3))).bind fun bt398 => (some (bt396.1, bt396.2, bt398.1, bt398.2, true)))) = some (r1, r2, r3, r4, r5) := by rw [if_neg (show ¬ (false = true) by decide)] at H; exact H
        clear H
        have H := H1
        clear H1
        replace H := Option.bind_eq_some_iff.mp H
        obtain ⟨⟨t396, t397⟩, A140, H⟩ := H
        replace H : ((spec_meLow.f kj4 (wrap64 ((wrap64 ((wrap64 ((wrap64 (a0 * a2)) * (wrap64 (a3 - a1)))) * a1)) + (wrap64 ((wrap64 ((wrap64 (a0 * (wrap64 ((wrap64 (a1 * (wrap64 (a3 - a2)))) + (wrap64 (a2 * (wrap64 (a3 - a1)))))))) - (wrap64 ((wrap64 (a0 * a2)) * (wrap64 (a3 - a1)))))) * a3)))) (wrap64 ((wrap64 ((wrap64 ((wrap64 (a1 * (wrap64 (a3 - a2)))) + (wrap64 (a2 * (wrap64 (a3 - a1)))))) * a1)) * a3))).bind fun bt398 => (some (t396, t397, bt398.1, bt398.2, true))) = some (r1, r2, r3, r4, r5) := H
        have A14 := Aside0.mk A140
        clear A140
        replace H := Option.bind_eq_some_iff.mp H
        obtain ⟨⟨t398, t399⟩, A150, H⟩ := H
        replace H : (some (t396, t397, t398, t399, true)) = some (r1, r2, r3, r4, r5) := H
        have A15 := Aside0.mk A150
        clear A150
        simp only [Option.some.injEq, Prod.mk.injEq] at H
        obtain ⟨rfl, rfl, rfl, rfl, rfl⟩ := H
        go_wp2_with (first | ((with_reducible refine gate_callee (f := 49) rfl ?_); refine goesL_ (some 62) rfl rfl Try.func49 (by kernel_rfl) rfl #[.int .i64 (wrap64 ((wrap64 (a0 * a2)) * (wrap64 (a3 - a1)))), .int .i64 (wrap64 ((wrap64 (a1 * (wrap64 (a3 - a2)))) + (wrap64 (a2 * (wrap64 (a3 - a1))))))] rfl (by (try simp only [List.map_toArray, List.map_cons, List.map_nil]); first | done | rfl | (simp only [List.length_drop, List.length_take]; rfl)) ?_; (with_reducible refine (spec_meLow.calls kj4 (wrap64 ((wrap64 (a0 * a2)) * (wrap64 (a3 - a1)))) (wrap64 ((wrap64 (a1 * (wrap64 (a3 - a2)))) + (wrap64 (a2 * (wrap64 (a3 - a1)))))) t396 t397 _ A14.out).mono ?_); rintro e w' ⟨rfl, ⟨nd, rfl⟩⟩; refine ⟨_, rfl, ?_⟩) | ((with_reducible refine gate_callee (f := 49) rfl ?_); refine goesL_ (some 82) rfl rfl Try.func49 (by kernel_rfl) rfl #[.int .i64 (wrap64 ((wrap64 ((wrap64 ((wrap64 (a0 * a2)) * (wrap64 (a3 - a1)))) * a1)) + (wrap64 ((wrap64 ((wrap64 (a0 * (wrap64 ((wrap64 (a1 * (wrap64 (a3 - a2)))) + (wrap64 (a2 * (wrap64 (a3 - a1)))))))) - (wrap64 ((wrap64 (a0 * a2)) * (wrap64 (a3 - a1)))))) * a3)))), .int .i64 (wrap64 ((wrap64 ((wrap64 ((wrap64 (a1 * (wrap64 (a3 - a2)))) + (wrap64 (a2 * (wrap64 (a3 - a1)))))) * a1)) * a3))] rfl (by (try simp only [List.map_toArray, List.map_cons, List.map_nil]); first | done | rfl | (simp only [List.length_drop, List.length_take]; rfl)) ?_; (with_reducible refine (spec_meLow.calls kj4 (wrap64 ((wrap64 ((wrap64 ((wrap64 (a0 * a2)) * (wrap64 (a3 - a1)))) * a1)) + (wrap64 ((wrap64 ((wrap64 (a0 * (wrap64 ((wrap64 (a1 * (wrap64 (a3 - a2)))) + (wrap64 (a2 * (wrap64 (a3 - a1)))))))) - (wrap64 ((wrap64 (a0 * a2)) * (wrap64 (a3 - a1)))))) * a3)))) (wrap64 ((wrap64 ((wrap64 ((wrap64 (a1 * (wrap64 (a3 - a2)))) + (wrap64 (a2 * (wrap64 (a3 - a1)))))) * a1)) * a3)) t398 t399 _ A15.out).mono ?_); rintro e w' ⟨rfl, ⟨nd, rfl⟩⟩; refine ⟨_, rfl, ?_⟩))
        refine bodyPost_ret (results_list (rs := [.tmp 8, .tmp 9, .tmp 10, .tmp 11, .tmp 12]) rfl (by simp) (.tmp (.tmp (.tmp (.tmp (.tmp .nil)))))) rfl ?_
        exact ⟨by first | rfl | (simp; done) | (simp [*]; done), by repeat (first | exact Drawn0.refl _ | apply Drawn0.step)⟩

/-! ### spec_DrawSharedBicycle: function 28 -/
def spec_DrawSharedBicycle.i.f (l0 : List Int) (s1_0 : List Int) (s1_1 : Int) (s1_2 : Int) : Option (Int × Int × Int × Int × Int) := (spec_l1Cur_among.f s1_0 s1_1 s1_2 (([1, 12, 30, 1000, 1001, 0] : List Int))).bind fun bt403 => ((spec_l1Cur_pick.f s1_0 bt403.2.1 bt403.2.2 8).bind fun bt406 => ((spec_l1Cur_among.f s1_0 bt406.2.1 bt406.2.2 (([2, 5, 8, 12, 100, 101, 1, 0] : List Int))).bind fun bt412 => (some (bt403.1, bt406.1, bt412.1, bt412.2.1, bt412.2.2))))
def spec_DrawSharedBicycle.f (l0 : List Int) : Option (Int × Int × Int) := (spec_DrawSharedBicycle.i.f l0 l0 0 0).bind fun b => some (b.1, b.2.1, b.2.2.1)
set_option maxHeartbeats 8000000 in
set_option maxRecDepth 100000 in
theorem spec_DrawSharedBicycle.calls (A0 : Option Addr) (c0 : Nat) (l0 : List Int) (r1 : Int) (r2 : Int) (r3 : Int) (wz_ : World) (hr0 : Kd.C (Kd.int .u8) wz_ A0 l0.length l0) (hc0 : l0.length ≤ c0) (h : spec_DrawSharedBicycle.f l0 = some (r1, r2, r3)) :
    Calls Try.prog 28 #[.slice A0 l0.length c0] wz_ fun e w' => e = .returned (.tuple #[.int .i64 r1, .int .i64 r2, .int .i64 r3]) ∧ Below wz_.heap.size wz_ w' := by
  obtain ⟨b_, hb0_, h⟩ := Option.bind_eq_some_iff.mp h
  obtain ⟨r1z_, r2z_, r3z_, r4, r5⟩ := b_
  simp only [Option.some.injEq, Prod.mk.injEq] at h
  obtain ⟨hq0_, hq1_, hq2_⟩ := h
  obtain rfl := hq0_.symm
  obtain rfl := hq1_.symm
  obtain rfl := hq2_.symm
  suffices hh_ : ∀ (w0 w : World) (g : Nat), w0 = wz_ → g = wz_.heap.size → w = wz_.alloc (.cells #[.slice A0 l0.length c0, .int .i64 0, .int .u64 0] 60 (0, 0)) → Calls Try.prog 28 #[.slice A0 l0.length c0] wz_ fun e w' => e = .returned (.tuple #[.int .i64 r1, .int .i64 r2, .int .i64 r3]) ∧ IsS60 w0 w' g l0 r4 r5 ∧ Below w0.heap.size w0 w' ∧ KeepBut w w' g none by
    refine (hh_ wz_ _ _ rfl rfl rfl).mono ?_
    rintro e w' ⟨he_, _, hb_, _⟩
    exact ⟨he_, hb_⟩
  intro w0 w g HW0_ HG_ HW_
  have hI : IsS60 w0 w g l0 0 0 := by rw [HG_, HW_, HW0_]; exact IsS60.new _ _ _ c0 _ _ _ (Below.refl _ _) hr0
  have hB : Below w0.heap.size w0 w := by rw [HW0_, HW_]; exact below_alloc (Below.refl _ _) _
  have hf0 : ∀ ad, A0 = some ad → 0 < l0.length → ad.block ≠ g := by
    intro ad hA_ hn_ he_
    obtain ⟨ad2_, e2_, hx_⟩ := Kd.at_int hr0 0 (by omega) (by omega)
    rw [hA_] at e2_
    injection e2_ with e2_
    subst e2_
    have hlt_ := World.block_lt_of_cell? wz_ _ hx_
    rw [add_block, he_, HG_] at hlt_
    omega
  have hr0' : Kd.C (Kd.int .u8) w A0 l0.length l0 := by rw [HW_]; exact Kd.C_alloc hr0 _
  clear hr0
  have hr0 := hr0'
  clear hr0'
  have HWZ := Aside0.mk HW_
  have HGZ := Aside0.mk HG_
  clear HW_ HG_ HW0_
  have h := hb0_
  clear hb0_
  have HR0 := Aside0.mk hr0
  have HC0 := Aside0.mk hc0
  clear hr0 hc0
  have HI1 := Aside0.mk hI
  have HK := Aside0.mk (KeepBut.refl w g none)
  have HL := Aside0.mk hB.size
  clear hI
  have HW0 := Aside0.mk hB.size
  have HB := Aside0.mk hB
  clear hB
  have H : ((spec_l1Cur_among.f l0 0 0 (([1, 12, 30, 1000, 1001, 0] : List Int))).bind fun bt403 => ((spec_l1Cur_pick.f l0 bt403.2.1 bt403.2.2 8).bind fun bt406 => ((spec_l1Cur_among.f l0 bt406.2.1 bt406.2.2 (([2, 5, 8, 12, 100, 101, 1, 0] : List Int))).bind fun bt412 => (some (bt403.1, bt406.1, bt412.1, bt412.2.1, bt412.2.2))))) = some (r1, r2, r3, r4, r5) := h
  clear h
  obtain ⟨y400, hy400⟩ : ∃ y_ : List Int, y_ = (([1, 12, 30, 1000, 1001, 0] : List Int)) := ⟨_, rfl⟩
  replace H : ((spec_l1Cur_among.f l0 0 0 y400).bind fun bt403 => ((spec_l1Cur_pick.f l0 bt403.2.1 bt403.2.2 8).bind fun bt406 => ((spec_l1Cur_among.f l0 bt406.2.1 bt406.2.2 (([2, 5, 8, 12, 100, 101, 1, 0] : List Int))).bind fun bt412 => (some (bt403.1, bt406.1, bt412.1, bt412.2.1, bt412.2.2))))) = some (r1, r2, r3, r4, r5) := by first | (rw [hy400]; with_reducible exact H) | (have H2_ := (Option.bind_some _ _).symm.trans H; rw [hy400]; with_reducible exact H2_) | (have H2_ := (Option.bind_some _ _).symm.trans H; with_reducible exact H2_) | with_reducible exact H | (rw [hy400]; exact H) | exact H
  have Ny400 := Aside0.mk hy400
  clear hy400
  replace H := Option.bind_eq_some_iff.mp H
  obtain ⟨⟨t403, t404, t405⟩, A30, H⟩ := H
  replace H : ((spec_l1Cur_pick.f l0 t404 t405 8).bind fun bt406 => ((spec_l1Cur_among.f l0 bt406.2.1 bt406.2.2 (([2, 5, 8, 12, 100, 101, 1, 0] : List Int))).bind fun bt412 => (some (t403, bt406.1, bt412.1, bt412.2.1, bt412.2.2)))) = some (r1, r2, r3, r4, r5) := H
  have A3 := Aside0.mk A30
  clear A30
  replace H := Option.bind_eq_some_iff.mp H
  obtain ⟨⟨t406, t407, t408⟩, A40, H⟩ := H
  replace H : ((spec_l1Cur_among.f l0 t407 t408 (([2, 5, 8, 12, 100, 101, 1, 0] : List Int))).bind fun bt412 => (some (t403, t406, bt412.1, bt412.2.1, bt412.2.2))) = some (r1, r2, r3, r4, r5) := H
  have A4 := Aside0.mk A40
  clear A40
  obtain ⟨y409, hy409⟩ : ∃ y_ : List Int, y_ = (([2, 5, 8, 12, 100, 101, 1, 0] : List Int)) := ⟨_, rfl⟩
  replace H : ((spec_l1Cur_among.f l0 t407 t408 y409).bind fun bt412 => (some (t403, t406, bt412.1, bt412.2.1, bt412.2.2))) = some (r1, r2, r3, r4, r5) := by first | (rw [hy409]; with_reducible exact H) | (have H2_ := (Option.bind_some _ _).symm.trans H; rw [hy409]; with_reducible exact H2_) | (have H2_ := (Option.bind_some _ _).symm.trans H; with_reducible exact H2_) | with_reducible exact H | (rw [hy409]; exact H) | exact H
  have Ny409 := Aside0.mk hy409
  clear hy409
  replace H := Option.bind_eq_some_iff.mp H
  obtain ⟨⟨t412, t413, t414⟩, A50, H⟩ := H
  replace H : (some (t403, t406, t412, t413, t414)) = some (r1, r2, r3, r4, r5) := H
  have A5 := Aside0.mk A50
  clear A50
  simp only [Option.some.injEq, Prod.mk.injEq] at H
  obtain ⟨rfl, rfl, rfl, rfl, rfl⟩ := H
  go_enter Try.func28, Try.ntmps28
  go_upto_region 2 with (fail)
  rw [← HWZ.out, ← HGZ.out]
  go_wp2_with (first | ((with_reducible refine gate_dst (N := 10) rfl ?_); refine Kd.R_lit (Kd.int .i64) _ 3 ?hg (N := 10) ?hd (xs := ([1, 12, 30, 1000, 1001, 0] : List Int)) (inner := [.int .i64 1, .int .i64 12, .int .i64 30, .int .i64 1000, .int .i64 1001, .int .i64 0]) (ok := fun _ => True) (okp := fun _ => True) ?hr ?hp (fun _ hk => hk) trivial (Below.refl _ _) (Nat.le_refl _) (by simp) ?_; (case hd => rfl); (case hg => rfl); (case hr => first | (go_simp; done) | (go_simp; rfl)); (case hp => exact (Reps.one (show Kd.M (Kd.int .i64) _ _ _ 1 [.int .i64 1] from rfl) (Reps.one (show Kd.M (Kd.int .i64) _ _ _ 12 [.int .i64 12] from rfl) (Reps.one (show Kd.M (Kd.int .i64) _ _ _ 30 [.int .i64 30] from rfl) (Reps.one (show Kd.M (Kd.int .i64) _ _ _ 1000 [.int .i64 1000] from rfl) (Reps.one (show Kd.M (Kd.int .i64) _ _ _ 1001 [.int .i64 1001] from rfl) (Reps.one (show Kd.M (Kd.int .i64) _ _ _ 0 [.int .i64 0] from rfl) (Reps.none _ _)))))))); intro v401 w6 ho7 hb hg_ hnew_; clear hg_ hnew_; (first | rw [← Ny400.out] at ho7 | (simp only [Int.reduceToNat] at ho7; rw [← Ny400.out] at ho7)); have n0_ := Aside0.mk (Kd.R_lower ho7 (keep_size (w := w) (g := g) (row := none) (by repeat (first | (with_reducible first | exact HK.out | apply KeepBut.set_ | apply keep_drewN | apply keep_drew | apply keep_alloc) | exact HK.out)))); have n1_ := Aside0.mk (IsS60.below (by repeat (first | (with_reducible first | exact HI1.out | apply IsS60.alloc | apply IsS60.drewN | apply IsS60.drew | apply IsS60.set_1 | apply IsS60.set_2) | exact HI1.out)) hb); have n2_ := Aside0.mk (KeepBut.trans (by repeat (first | (with_reducible first | exact HK.out | apply KeepBut.set_ | apply keep_drewN | apply keep_drew | apply keep_alloc) | exact HK.out)) (KeepBut.of_below hb g none) (.inl rfl)); have n3_ := Aside0.mk (below_step (by repeat (first | (with_reducible first | exact HB.out | apply below_alloc | apply pw_below_drewN | apply below_drew1 | refine below_set ?_ (IsS60.ge HI1.out)) | exact HB.out)) hb); clear HI1; clear HK; clear HB; have HO402 := n0_; have HI1 := n1_; have HK := n2_; have HB := n3_; clear n0_ n1_ n2_ n3_; clear hb ho7; obtain ⟨Ao8, co8, eo8⟩ := Kd.R_slice HO402.out; subst eo8) | ((with_reducible refine gate_callee (f := 38) rfl ?_); refine goesL_ (some 11) rfl rfl Try.func38 (by kernel_rfl) rfl #[.pointer (some ⟨g, 0, none⟩), .slice Ao8 y400.length co8] rfl (by (try simp only [List.map_toArray, List.map_cons, List.map_nil]); first | done | rfl | (simp only [List.length_drop, List.length_take]; rfl)) ?_; (with_reducible refine (spec_l1Cur_among.calls g l0 0 0 _ _ y400 t403 t404 t405 w0 _ ?side1 ?side2 ?side3 ?side4 ?side5 A3.out).mono ?_); (case side1 => repeat (first | (with_reducible first | exact HI1.out | apply IsS60.alloc | apply IsS60.drewN | apply IsS60.drew | apply IsS60.set_1 | apply IsS60.set_2) | exact HI1.out)); (case side2 => repeat (first | (with_reducible first | exact HB.out | apply below_alloc | apply pw_below_drewN | apply below_drew1 | refine below_set ?_ (IsS60.ge HI1.out)) | exact HB.out)); (case side3 => repeat (first | exact (Kd.R_reads' HO402.out).2.2 | (with_reducible refine Kd.C_alloc ?_ _) | (with_reducible refine Kd.C_drewN ?_ _) | (with_reducible refine Kd.C_drew ?_))); (case side4 => exact (Kd.R_reads' HO402.out).2.1); (case side5 => exact far_slice (IsS60.own_ne HI1.out HO402.out (by decide))); rintro e w9 ⟨rfl, hi, hb, hk⟩; refine ⟨_, rfl, ?_⟩; have n0_ := Aside0.mk (Kd.R_mono (Kd.R_keep (IsS60.apart (show IsS60 w0 _ g l0 0 0 from by repeat (first | (with_reducible first | exact HI1.out | apply IsS60.alloc | apply IsS60.drewN | apply IsS60.drew | apply IsS60.set_1 | apply IsS60.set_2) | exact HI1.out)) (kd_to HO402) (by decide)) hk (fun _ h => h.2)) (fun _ h => h.1)); have n1_ := Aside0.mk (KeepBut.trans (by repeat (first | (with_reducible first | exact HK.out | apply KeepBut.set_ | apply keep_drewN | apply keep_drew | apply keep_alloc) | exact HK.out)) hk (.inl rfl)); have n2_ := Aside0.mk (hb); have n3_ := Aside0.mk (hi); clear HO402; clear HK; clear HB; clear HI1; have HO402 := n0_; have HK := n1_; have HB := n2_; have HI1 := n3_; clear n0_ n1_ n2_ n3_; (try clear hb); (try clear hb2); (try clear hk); (try clear hi)) | ((with_reducible refine gate_callee (f := 52) rfl ?_); refine goesL_ (some 13) rfl rfl Try.func52 (by kernel_rfl) rfl #[.pointer (some ⟨g, 0, none⟩), .int .i64 8] rfl (by (try simp only [List.map_toArray, List.map_cons, List.map_nil]); first | done | rfl | (simp only [List.length_drop, List.length_take]; rfl)) ?_; (with_reducible refine (spec_l1Cur_pick.calls g l0 t404 t405 8 t406 t407 t408 w0 _ ?side1 ?side2 A4.out).mono ?_); (case side1 => repeat (first | (with_reducible first | exact HI1.out | apply IsS60.alloc | apply IsS60.drewN | apply IsS60.drew | apply IsS60.set_1 | apply IsS60.set_2) | exact HI1.out)); (case side2 => repeat (first | (with_reducible first | exact HB.out | apply below_alloc | apply pw_below_drewN | apply below_drew1 | refine below_set ?_ (IsS60.ge HI1.out)) | exact HB.out)); rintro e w10 ⟨rfl, hi, hb, hk⟩; refine ⟨_, rfl, ?_⟩; have n0_ := Aside0.mk (Kd.R_mono (Kd.R_keep (IsS60.apart (show IsS60 w0 _ g l0 t404 t405 from by repeat (first | (with_reducible first | exact HI1.out | apply IsS60.alloc | apply IsS60.drewN | apply IsS60.drew | apply IsS60.set_1 | apply IsS60.set_2) | exact HI1.out)) (kd_to HO402) (by decide)) hk (fun _ h => h.2)) (fun _ h => h.1)); have n1_ := Aside0.mk (KeepBut.trans (by repeat (first | (with_reducible first | exact HK.out | apply KeepBut.set_ | apply keep_drewN | apply keep_drew | apply keep_alloc) | exact HK.out)) hk (.inl rfl)); have n2_ := Aside0.mk (hb); have n3_ := Aside0.mk (hi); clear HO402; clear HK; clear HB; clear HI1; have HO402 := n0_; have HK := n1_; have HB := n2_; have HI1 := n3_; clear n0_ n1_ n2_ n3_; (try clear hb); (try clear hb2); (try clear hk); (try clear hi)) | ((with_reducible refine gate_dst (N := 15) rfl ?_); refine Kd.R_lit (Kd.int .i64) _ 3 ?hg (N := 15) ?hd (xs := ([2, 5, 8, 12, 100, 101, 1, 0] : List Int)) (inner := [.int .i64 2, .int .i64 5, .int .i64 8, .int .i64 12, .int .i64 100, .int .i64 101, .int .i64 1, .int .i64 0]) (ok := fun _ => True) (okp := fun _ => True) ?hr ?hp (fun _ hk => hk) trivial (Below.refl _ _) (Nat.le_refl _) (by simp) ?_; (case hd => rfl); (case hg => rfl); (case hr => first | (go_simp; done) | (go_simp; rfl)); (case hp => exact (Reps.one (show Kd.M (Kd.int .i64) _ _ _ 2 [.int .i64 2] from rfl) (Reps.one (show Kd.M (Kd.int .i64) _ _ _ 5 [.int .i64 5] from rfl) (Reps.one (show Kd.M (Kd.int .i64) _ _ _ 8 [.int .i64 8] from rfl) (Reps.one (show Kd.M (Kd.int .i64) _ _ _ 12 [.int .i64 12] from rfl) (Reps.one (show Kd.M (Kd.int .i64) _ _ _ 100 [.int .i64 100] from rfl) (Reps.one (show Kd.M (Kd.int .i64) _ _ _ 101 [.int .i64 101] from rfl) (Reps.one (show Kd.M (Kd.int .i64) _ _ _ 1 [.int .i64 1] from rfl) (Reps.one (show Kd.M (Kd.int .i64) _ _ _ 0 [.int .i64 0] from rfl) (Reps.none _ _)))))))))); intro v410 w11 ho12 hb hg_ hnew_; clear hg_ hnew_; (first | rw [← Ny409.out] at ho12 | (simp only [Int.reduceToNat] at ho12; rw [← Ny409.out] at ho12)); have n0_ := Aside0.mk (Kd.R_elder' (kd_to HO402) (Kd.R_base ho12) hb); have n1_ := Aside0.mk (Kd.R_lower (Kd.R_new' ho12 (Kd.R_lt (kd_to HO402))) (keep_size (w := w) (g := g) (row := none) (by repeat (first | (with_reducible first | exact HK.out | apply KeepBut.set_ | apply keep_drewN | apply keep_drew | apply keep_alloc) | exact HK.out)))); have n2_ := Aside0.mk (IsS60.below (by repeat (first | (with_reducible first | exact HI1.out | apply IsS60.alloc | apply IsS60.drewN | apply IsS60.drew | apply IsS60.set_1 | apply IsS60.set_2) | exact HI1.out)) hb); have n3_ := Aside0.mk (KeepBut.trans (by repeat (first | (with_reducible first | exact HK.out | apply KeepBut.set_ | apply keep_drewN | apply keep_drew | apply keep_alloc) | exact HK.out)) (KeepBut.of_below hb g none) (.inl rfl)); have n4_ := Aside0.mk (below_step (by repeat (first | (with_reducible first | exact HB.out | apply below_alloc | apply pw_below_drewN | apply below_drew1 | refine below_set ?_ (IsS60.ge HI1.out)) | exact HB.out)) hb); clear HO402; clear HI1; clear HK; clear HB; have HO402 := n0_; have HO411 := n1_; have HI1 := n2_; have HK := n3_; have HB := n4_; clear n0_ n1_ n2_ n3_ n4_; clear hb ho12; obtain ⟨Ao13, co13, eo13⟩ := Kd.R_slice HO411.out; subst eo13) | ((with_reducible refine gate_callee (f := 38) rfl ?_); refine goesL_ (some 16) rfl rfl Try.func38 (by kernel_rfl) rfl #[.pointer (some ⟨g, 0, none⟩), .slice Ao13 y409.length co13] rfl (by (try simp only [List.map_toArray, List.map_cons, List.map_nil]); first | done | rfl | (simp only [List.length_drop, List.length_take]; rfl)) ?_; (with_reducible refine (spec_l1Cur_among.calls g l0 t407 t408 _ _ y409 t412 t413 t414 w0 _ ?side1 ?side2 ?side3 ?side4 ?side5 A5.out).mono ?_); (case side1 => repeat (first | (with_reducible first | exact HI1.out | apply IsS60.alloc | apply IsS60.drewN | apply IsS60.drew | apply IsS60.set_1 | apply IsS60.set_2) | exact HI1.out)); (case side2 => repeat (first | (with_reducible first | exact HB.out | apply below_alloc | apply pw_below_drewN | apply below_drew1 | refine below_set ?_ (IsS60.ge HI1.out)) | exact HB.out)); (case side3 => repeat (first | exact (Kd.R_reads' HO411.out).2.2 | (with_reducible refine Kd.C_alloc ?_ _) | (with_reducible refine Kd.C_drewN ?_ _) | (with_reducible refine Kd.C_drew ?_))); (case side4 => exact (Kd.R_reads' HO411.out).2.1); (case side5 => exact far_slice (IsS60.own_ne HI1.out HO411.out (by decide))); rintro e w14 ⟨rfl, hi, hb, hk⟩; refine ⟨_, rfl, ?_⟩; have n0_ := Aside0.mk (Kd.R_mono (Kd.R_keep (IsS60.apart (show IsS60 w0 _ g l0 t407 t408 from by repeat (first | (with_reducible first | exact HI1.out | apply IsS60.alloc | apply IsS60.drewN | apply IsS60.drew | apply IsS60.set_1 | apply IsS60.set_2) | exact HI1.out)) (kd_to HO402) (by decide)) hk (fun _ h => h.2)) (fun _ h => h.1)); have n1_ := Aside0.mk (Kd.R_mono (Kd.R_keep (IsS60.apart (show IsS60 w0 _ g l0 t407 t408 from by repeat (first | (with_reducible first | exact HI1.out | apply IsS60.alloc | apply IsS60.drewN | apply IsS60.drew | apply IsS60.set_1 | apply IsS60.set_2) | exact HI1.out)) (kd_to HO411) (by decide)) hk (fun _ h => h.2)) (fun _ h => h.1)); have n2_ := Aside0.mk (KeepBut.trans (by repeat (first | (with_reducible first | exact HK.out | apply KeepBut.set_ | apply keep_drewN | apply keep_drew | apply keep_alloc) | exact HK.out)) hk (.inl rfl)); have n3_ := Aside0.mk (hb); have n4_ := Aside0.mk (hi); clear HO402; clear HO411; clear HK; clear HB; clear HI1; have HO402 := n0_; have HO411 := n1_; have HK := n2_; have HB := n3_; have HI1 := n4_; clear n0_ n1_ n2_ n3_ n4_; (try clear hb); (try clear hb2); (try clear hk); (try clear hi)))
  go_ret3
  exact ⟨by first | rfl | (simp [errW_none, errW_some] <;> rfl) | (simp [*, errW_none, errW_some] <;> rfl), by repeat (first | (with_reducible first | exact HI1.out | apply IsS60.alloc | apply IsS60.drewN | apply IsS60.drew | apply IsS60.set_1 | apply IsS60.set_2) | exact HI1.out), by repeat (first | (with_reducible first | exact HB.out | apply below_alloc | apply pw_below_drewN | apply below_drew1 | refine below_set ?_ (IsS60.ge HI1.out)) | exact HB.out), by repeat (first | (with_reducible first | exact HK.out | apply KeepBut.set_ | apply keep_drewN | apply keep_drew | apply keep_alloc) | exact HK.out)⟩

/-! ### impl_SharedBicycle: function 29 -/
def impl_SharedBicycle.f (k : Nat) (a0 : Int) (a1 : Int) (a2 : Int) : Option (Int × Int × Int × Int × Bool) := (impl_RideAndWalk.f k a0 a1 a1 a2).bind fun bt415 => (some (bt415.1, bt415.2.1, bt415.2.2.1, bt415.2.2.2.1, bt415.2.2.2.2))
set_option maxHeartbeats 8000000 in
set_option maxRecDepth 100000 in
theorem impl_SharedBicycle.calls (k : Nat) (a0 : Int) (a1 : Int) (a2 : Int) (r1 : Int) (r2 : Int) (r3 : Int) (r4 : Int) (r5 : Bool) (w : World) (h : impl_SharedBicycle.f k a0 a1 a2 = some (r1, r2, r3, r4, r5)) :
    Calls Try.prog 29 #[.int .i64 a0, .int .i64 a1, .int .i64 a2] w fun e w' => e = .returned (.tuple #[.int .i64 r1, .int .i64 r2, .int .i64 r3, .int .i64 r4, .bool r5]) ∧ Below w.heap.size w w' := by
  have HB := Aside0.mk (Below.refl w.heap.size w)
  have H : ((impl_RideAndWalk.f k a0 a1 a1 a2).bind fun bt415 => (some (bt415.1, bt415.2.1, bt415.2.2.1, bt415.2.2.2.1, bt415.2.2.2.2))) = some (r1, r2, r3, r4, r5) := h
  clear h
  replace H := Option.bind_eq_some_iff.mp H
  obtain ⟨⟨t415, t416, t417, t418, t419⟩, A40, H⟩ := H
  replace H : (some (t415, t416, t417, t418, t419)) = some (r1, r2, r3, r4, r5) := H
  have A4 := Aside0.mk A40
  clear A40
  simp only [Option.some.injEq, Prod.mk.injEq] at H
  obtain ⟨rfl, rfl, rfl, rfl, rfl⟩ := H
  go_enter Try.func29, Try.ntmps29
  go_wp2_with (first | ((with_reducible refine gate_callee (f := 26) rfl ?_); refine goesL_ (some 15) rfl rfl Try.func26 (by kernel_rfl) rfl #[.int .i64 a0, .int .i64 a1, .int .i64 a1, .int .i64 a2] rfl (by (try simp only [List.map_toArray, List.map_cons, List.map_nil]); first | done | rfl | (simp only [List.length_drop, List.length_take]; rfl)) ?_; (with_reducible refine (impl_RideAndWalk.calls k a0 a1 a1 a2 t415 t416 t417 t418 t419 _ A4.out).mono ?_); rintro e w5 ⟨rfl, hb⟩; refine ⟨_, rfl, ?_⟩; have n0_ := Aside0.mk (below_step (below_to HB) hb); clear HB; have HB := n0_; clear n0_; (try clear hb); (try clear hb2); (try clear hk); (try clear hi)))
  refine bodyPost_ret (results_list (rs := [.tmp 6, .tmp 7, .tmp 8, .tmp 9, .tmp 10]) rfl (by simp) (.tmp (.tmp (.tmp (.tmp (.tmp .nil)))))) rfl ?_
  exact ⟨by first | rfl | (simp [errW_none, errW_some] <;> rfl) | (simp [*, errW_none, errW_some] <;> rfl), by repeat (first | (with_reducible first | exact HB.out | apply below_alloc | apply pw_below_drewN | apply below_drew1) | exact HB.out)⟩

/-! ### spec_SharedBicycle: function 30 -/
def spec_SharedBicycle.f (k : Nat) (a0 : Int) (a1 : Int) (a2 : Int) : Option (Int × Int × Int × Int × Bool) := (spec_RideAndWalk.f k a0 a1 a1 a2).bind fun bt420 => (some (bt420.1, bt420.2.1, bt420.2.2.1, bt420.2.2.2.1, bt420.2.2.2.2))
set_option maxHeartbeats 8000000 in
set_option maxRecDepth 100000 in
theorem spec_SharedBicycle.calls (k : Nat) (a0 : Int) (a1 : Int) (a2 : Int) (r1 : Int) (r2 : Int) (r3 : Int) (r4 : Int) (r5 : Bool) (w : World) (h : spec_SharedBicycle.f k a0 a1 a2 = some (r1, r2, r3, r4, r5)) :
    Calls Try.prog 30 #[.int .i64 a0, .int .i64 a1, .int .i64 a2] w fun e w' => e = .returned (.tuple #[.int .i64 r1, .int .i64 r2, .int .i64 r3, .int .i64 r4, .bool r5]) ∧ Drawn0 w w' := by
  have H : ((spec_RideAndWalk.f k a0 a1 a1 a2).bind fun bt420 => (some (bt420.1, bt420.2.1, bt420.2.2.1, bt420.2.2.2.1, bt420.2.2.2.2))) = some (r1, r2, r3, r4, r5) := h
  clear h
  replace H := Option.bind_eq_some_iff.mp H
  obtain ⟨⟨t420, t421, t422, t423, t424⟩, A40, H⟩ := H
  replace H : (some (t420, t421, t422, t423, t424)) = some (r1, r2, r3, r4, r5) := H
  have A4 := Aside0.mk A40
  clear A40
  simp only [Option.some.injEq, Prod.mk.injEq] at H
  obtain ⟨rfl, rfl, rfl, rfl, rfl⟩ := H
  go_enter Try.func30, Try.ntmps30
  go_wp2_with (first | ((with_reducible refine gate_callee (f := 27) rfl ?_); refine goesL_ (some 15) rfl rfl Try.func27 (by kernel_rfl) rfl #[.int .i64 a0, .int .i64 a1, .int .i64 a1, .int .i64 a2] rfl (by (try simp only [List.map_toArray, List.map_cons, List.map_nil]); first | done | rfl | (simp only [List.length_drop, List.length_take]; rfl)) ?_; (with_reducible refine (spec_RideAndWalk.calls k a0 a1 a1 a2 t420 t421 t422 t423 t424 _ A4.out).mono ?_); rintro e w' ⟨rfl, ⟨nd, rfl⟩⟩; refine ⟨_, rfl, ?_⟩))
  refine bodyPost_ret (results_list (rs := [.tmp 6, .tmp 7, .tmp 8, .tmp 9, .tmp 10]) rfl (by simp) (.tmp (.tmp (.tmp (.tmp (.tmp .nil)))))) rfl ?_
  exact ⟨by first | rfl | (simp; done) | (simp [*]; done), by repeat (first | exact Drawn0.refl _ | apply Drawn0.step)⟩

/-! ### laws_ySame: function 31 -/
def laws_ySame.l0 : Nat → List Int → List Int → Int → Int → Option (Bool)
  | 0, _, _, _, _ => none
  | k + 1, x0, x1, x12, x13 => if x13 < x12 then (if 0 ≤ x13 then (if x13 < (x0.length : Int) then (if x13 < (x1.length : Int) then (if (rd x0 x13) = (rd x1 x13) then (laws_ySame.l0 k x0 x1 x12 (wrap64 (x13 + 1))) else (some false)) else (none)) else (none)) else (none)) else (some true)
def laws_ySame.f (k : Nat) (l0 : List Int) (l1 : List Int) : Option (Bool) := if (l0.length : Int) = (l1.length : Int) then (laws_ySame.l0 k l0 l1 (l0.length : Int) 0) else (some false)
set_option maxHeartbeats 8000000 in
set_option maxRecDepth 100000 in
theorem laws_ySame.calls (k : Nat) (A0 : Option Addr) (c0 : Nat) (l0 : List Int) (A1 : Option Addr) (c1 : Nat) (l1 : List Int) (r : Bool) (w : World) (hr0 : Kd.C (Kd.int .i64) w A0 l0.length l0) (hc0 : l0.length ≤ c0) (hr1 : Kd.C (Kd.int .i64) w A1 l1.length l1) (hc1 : l1.length ≤ c1) (h : laws_ySame.f k l0 l1 = some r) :
    Calls Try.prog 31 #[.slice A0 l0.length c0, .slice A1 l1.length c1] w fun e w' => e = .returned (.bool r) ∧ Drawn0 w w' := by
  have HR0 := Aside0.mk hr0
  have HC0 := Aside0.mk hc0
  clear hr0 hc0
  have HR1 := Aside0.mk hr1
  have HC1 := Aside0.mk hc1
  clear hr1 hc1
  have H : (if (l0.length : Int) = (l1.length : Int) then (laws_ySame.l0 k l0 l1 (l0.length : Int) 0) else (some false)) = some r := h
  clear h
  by_cases c3 : (l0.length : Int) = (l1.length : Int)
  · rw [if_pos c3] at H
    have c3b0 : ((l0.length : Int) == (l1.length : Int)) = true := beq_iff_eq.mpr c3
    have c3b1 : ((l0.length : Int) != (l1.length : Int)) = false := bne_eq_false_iff_eq.mpr c3
    have c3b2 : (l0.length == l1.length) = true := by first | simpa using c3 | (simp at c3 ⊢; omega)
    clear c3
    have H' := Aside0.mk H
    clear H
    go_enter Try.func31, Try.ntmps31
    go_wp2
    repeat (go_quiet (fail); try go_wp2)
    go_loopg [13] k (fun kq v13 w' => ∃ (x13_1 : Int), v13 = .int .i64 x13_1 ∧ Aside0 (laws_ySame.l0 kq l0 l1 (l0.length : Int) x13_1 = some r) ∧ Aside0 (kq ≤ k) ∧ Drawn0 w w')
    case atStart => exact ⟨(0), (by first | rfl | (simp; done) | (simp [*]; done)), H', ⟨Nat.le_refl _⟩, by repeat (first | exact Drawn0.refl _ | apply Drawn0.step)⟩
    case round =>
      clear H'
      try clear c1
      try clear p2
      try clear c3
      try clear c3b0
      try clear c3b1
      try clear c3b2
      obtain ⟨x13_1, rfl, HA, HK1, ⟨m1, rfl⟩⟩ := hrel
      cases gk with
      | zero => exact absurd HA.out (by simp [laws_ySame.l0])
      | succ k1 =>
        have H := HA.out
        clear HA
        simp only [laws_ySame.l0] at H
        by_cases c4 : x13_1 < (l0.length : Int)
        · rw [if_pos c4] at H
          have c4b0 : decide (x13_1 < (l0.length : Int)) = true := decide_eq_true c4
          clear c4
          by_cases c5 : 0 ≤ x13_1
          · rw [if_pos c5] at H
            have c5b0 : decide (0 ≤ x13_1) = true := decide_eq_true c5
            clear c5
            by_cases c6 : x13_1 < (l0.length : Int)
            · rw [if_pos c6] at H
              have c6b0 : decide (x13_1 < (l0.length : Int)) = true := decide_eq_true c6
              clear c6
              by_cases c7 : x13_1 < (l1.length : Int)
              · rw [if_pos c7] at H
                have c7b0 : decide (x13_1 < (l1.length : Int)) = true := decide_eq_true c7
                clear c7
                by_cases c8 : (rd l0 x13_1) = (rd l1 x13_1)
                · rw [if_pos c8] at H
                  have c8b0 : ((rd l0 x13_1) == (rd l1 x13_1)) = true := beq_iff_eq.mpr c8
                  have c8b1 : ((rd l0 x13_1) != (rd l1 x13_1)) = false := bne_eq_false_iff_eq.mpr c8
                  clear c8
                  have H' := Aside0.mk H
                  clear H
                  have p425 : 0 ≤ (x13_1 : Int) := of_decide_eq_true (by first | (with_reducible assumption) | assumption)
                  have q425 : x13_1 < (l0.length : Int) := of_decide_eq_true (by first | (with_reducible assumption) | assumption)
                  obtain ⟨ad425, e425, hx425_0⟩ := Kd.at_int HR0.out x13_1 p425 q425
                  cases e425
                  replace p425 := eq_true p425
                  replace q425 := eq_true q425
                  have p426 : 0 ≤ (x13_1 : Int) := of_decide_eq_true (by first | (with_reducible assumption) | assumption)
                  have q426 : x13_1 < (l1.length : Int) := of_decide_eq_true (by first | (with_reducible assumption) | assumption)
                  obtain ⟨ad426, e426, hx426_0⟩ := Kd.at_int HR1.out x13_1 p426 q426
                  cases e426
                  replace p426 := eq_true p426
                  replace q426 := eq_true q426
                  go_wp2
                  repeat (go_quiet (fail); try go_wp2)
                  go_roundg k1
                  case measure => have := HK1.out; omega
                  case rel => exact ⟨(wrap64 (x13_1 + 1)), (by first | rfl | (simp; done) | (simp [*]; done)), H', ⟨by have := HK1.out; omega⟩, by repeat (first | exact Drawn0.refl _ | apply Drawn0.step)⟩
                · rw [if_neg c8] at H
                  have c8b0 : ((rd l0 x13_1) == (rd l1 x13_1)) = false := beq_eq_false_iff_ne.mpr c8
                  have c8b1 : ((rd l0 x13_1) != (rd l1 x13_1)) = true := bne_iff_ne.mpr c8
                  obtain rfl := Option.some.inj H
                  have p425 : 0 ≤ (x13_1 : Int) := of_decide_eq_true (by first | (with_reducible assumption) | assumption)
                  have q425 : x13_1 < (l0.length : Int) := of_decide_eq_true (by first | (with_reducible assumption) | assumption)
                  obtain ⟨ad425, e425, hx425_0⟩ := Kd.at_int HR0.out x13_1 p425 q425
                  cases e425
                  replace p425 := eq_true p425
                  replace q425 := eq_true q425
                  have p426 : 0 ≤ (x13_1 : Int) := of_decide_eq_true (by first | (with_reducible assumption) | assumption)
                  have q426 : x13_1 < (l1.length : Int) := of_decide_eq_true (by first | (with_reducible assumption) | assumption)
                  obtain ⟨ad426, e426, hx426_0⟩ := Kd.at_int HR1.out x13_1 p426 q426
                  cases e426
                  replace p426 := eq_true p426
                  replace q426 := eq_true q426
                  go_wp2
                  repeat (go_quiet (fail); try go_wp2)
                  go_ret
                  exact ⟨by first | rfl | (simp; done) | (simp [*]; done), by repeat (first | exact Drawn0.refl _ | apply Drawn0.step)⟩
              · rw [if_neg c7] at H
                exact absurd H (by simp)
            · rw [if_neg c6] at H
              exact absurd H (by simp)
          · rw [if_neg c5] at H
            exact absurd H (by simp)
        · rw [if_neg c4] at H
          have c4b0 : decide (x13_1 < (l0.length : Int)) = false := decide_eq_false c4
          clear c4
          obtain rfl := Option.some.inj H
          go_wp2
          repeat (go_quiet (fail); try go_wp2)
          go_ret
          exact ⟨by first | rfl | (simp; done) | (simp [*]; done), by repeat (first | exact Drawn0.refl _ | apply Drawn0.step)⟩
  · rw [if_neg c3] at H
    have c3b0 : ((l0.length : Int) == (l1.length : Int)) = false := beq_eq_false_iff_ne.mpr c3
    have c3b1 : ((l0.length : Int) != (l1.length : Int)) = true := bne_iff_ne.mpr c3
    have c3b2 : (l0.length == l1.length) = false := by first | simpa using c3 | (simp at c3 ⊢; omega)
    obtain rfl := Option.some.inj H
    go_enter Try.func31, Try.ntmps31
    go_wp2
    repeat (go_quiet (fail); try go_wp2)
    go_ret
    exact ⟨by first | rfl | (simp; done) | (simp [*]; done), by repeat (first | exact Drawn0.refl _ | apply Drawn0.step)⟩

/-! ### laws_yLegs: function 32 -/
def laws_yLegs.l0 : Nat → List (S54) → List (S54) → Int → Int → Option (Bool)
  | 0, _, _, _, _ => none
  | k + 1, x0, x1, x12, x13 => if x13 < x12 then (if 0 ≤ x13 then (if x13 < (x0.length : Int) then (if x13 < (x1.length : Int) then (if (!(((rd_T54 x0 x13).f0) == ((rd_T54 x1 x13).f0)) || (!(((rd_T54 x0 x13).f1) == ((rd_T54 x1 x13).f1)))) = true then (some false) else (laws_yLegs.l0 k x0 x1 x12 (wrap64 (x13 + 1)))) else (none)) else (none)) else (none)) else (some true)
def laws_yLegs.f (k : Nat) (l0 : List (S54)) (l1 : List (S54)) : Option (Bool) := if (l0.length : Int) = (l1.length : Int) then (laws_yLegs.l0 k l0 l1 (l0.length : Int) 0) else (some false)
set_option maxHeartbeats 8000000 in
set_option maxRecDepth 100000 in
theorem laws_yLegs.calls (k : Nat) (A0 : Option Addr) (c0 : Nat) (l0 : List (S54)) (A1 : Option Addr) (c1 : Nat) (l1 : List (S54)) (r : Bool) (w : World) (hr0 : Kd.C k54 w A0 l0.length l0) (hc0 : l0.length ≤ c0) (hr1 : Kd.C k54 w A1 l1.length l1) (hc1 : l1.length ≤ c1) (h : laws_yLegs.f k l0 l1 = some r) :
    Calls Try.prog 32 #[.slice A0 l0.length c0, .slice A1 l1.length c1] w fun e w' => e = .returned (.bool r) ∧ Drawn0 w w' := by
  have hu54 := Try.underlying54
  have HR0 := Aside0.mk hr0
  have HC0 := Aside0.mk hc0
  clear hr0 hc0
  have HR1 := Aside0.mk hr1
  have HC1 := Aside0.mk hc1
  clear hr1 hc1
  have H : (if (l0.length : Int) = (l1.length : Int) then (laws_yLegs.l0 k l0 l1 (l0.length : Int) 0) else (some false)) = some r := h
  clear h
  by_cases c3 : (l0.length : Int) = (l1.length : Int)
  · rw [if_pos c3] at H
    have c3b0 : ((l0.length : Int) == (l1.length : Int)) = true := beq_iff_eq.mpr c3
    have c3b1 : ((l0.length : Int) != (l1.length : Int)) = false := bne_eq_false_iff_eq.mpr c3
    have c3b2 : (l0.length == l1.length) = true := by first | simpa using c3 | (simp at c3 ⊢; omega)
    clear c3
    have H' := Aside0.mk H
    clear H
    go_enter Try.func32, Try.ntmps32
    go_wp2
    repeat (go_quiet (fail); try go_wp2)
    go_loopg [13] k (fun kq v13 w' => ∃ (x13_1 : Int), v13 = .int .i64 x13_1 ∧ Aside0 (laws_yLegs.l0 kq l0 l1 (l0.length : Int) x13_1 = some r) ∧ Aside0 (kq ≤ k) ∧ Drawn0 w w')
    case atStart => exact ⟨(0), (by first | rfl | (simp; done) | (simp [*]; done)), H', ⟨Nat.le_refl _⟩, by repeat (first | exact Drawn0.refl _ | apply Drawn0.step)⟩
    case round =>
      clear H'
      try clear c1
      try clear p2
      try clear c3
      try clear c3b0
      try clear c3b1
      try clear c3b2
      obtain ⟨x13_1, rfl, HA, HK1, ⟨m1, rfl⟩⟩ := hrel
      cases gk with
      | zero => exact absurd HA.out (by simp [laws_yLegs.l0])
      | succ k1 =>
        have H := HA.out
        clear HA
        simp only [laws_yLegs.l0] at H
        by_cases c4 : x13_1 < (l0.length : Int)
        · rw [if_pos c4] at H
          have c4b0 : decide (x13_1 < (l0.length : Int)) = true := decide_eq_true c4
          clear c4
          by_cases c5 : 0 ≤ x13_1
          · rw [if_pos c5] at H
            have c5b0 : decide (0 ≤ x13_1) = true := decide_eq_true c5
            clear c5
            by_cases c6 : x13_1 < (l0.length : Int)
            · rw [if_pos c6] at H
              have c6b0 : decide (x13_1 < (l0.length : Int)) = true := decide_eq_true c6
              clear c6
              by_cases c7 : x13_1 < (l1.length : Int)
              · rw [if_pos c7] at H
                have c7b0 : decide (x13_1 < (l1.length : Int)) = true := decide_eq_true c7
                clear c7
                by_cases c8 : (!(((rd_T54 l0 x13_1).f0) == ((rd_T54 l1 x13_1).f0)) || (!(((rd_T54 l0 x13_1).f1) == ((rd_T54 l1 x13_1).f1)))) = true
                · rw [if_pos c8] at H
                  have c8b0 : (!(((rd_T54 l0 x13_1).f0) == ((rd_T54 l1 x13_1).f0)) || (!(((rd_T54 l0 x13_1).f1) == ((rd_T54 l1 x13_1).f1)))) = true := c8
                  clear c8
                  obtain rfl := Option.some.inj H
                  have p427 : 0 ≤ (x13_1 : Int) := of_decide_eq_true (by first | (with_reducible assumption) | assumption)
                  have q427 : x13_1 < (l0.length : Int) := of_decide_eq_true (by first | (with_reducible assumption) | assumption)
                  obtain ⟨ad427, e427, hx427_0, hx427_1⟩ := at_T54 HR0.out x13_1 p427 q427
                  cases e427
                  replace p427 := eq_true p427
                  replace q427 := eq_true q427
                  have p428 : 0 ≤ (x13_1 : Int) := of_decide_eq_true (by first | (with_reducible assumption) | assumption)
                  have q428 : x13_1 < (l1.length : Int) := of_decide_eq_true (by first | (with_reducible assumption) | assumption)
                  obtain ⟨ad428, e428, hx428_0, hx428_1⟩ := at_T54 HR1.out x13_1 p428 q428
                  cases e428
                  replace p428 := eq_true p428
                  replace q428 := eq_true q428
                  go_wp2
                  repeat (go_quiet (fail); try go_wp2)
                  go_ret
                  exact ⟨by first | rfl | (simp; done) | (simp [*]; done), by repeat (first | exact Drawn0.refl _ | apply Drawn0.step)⟩
                · rw [if_neg c8] at H
                  have c8b0 : (!(((rd_T54 l0 x13_1).f0) == ((rd_T54 l1 x13_1).f0)) || (!(((rd_T54 l0 x13_1).f1) == ((rd_T54 l1 x13_1).f1)))) = false := by simpa using c8
                  clear c8
                  have H' := Aside0.mk H
                  clear H
                  have p427 : 0 ≤ (x13_1 : Int) := of_decide_eq_true (by first | (with_reducible assumption) | assumption)
                  have q427 : x13_1 < (l0.length : Int) := of_decide_eq_true (by first | (with_reducible assumption) | assumption)
                  obtain ⟨ad427, e427, hx427_0, hx427_1⟩ := at_T54 HR0.out x13_1 p427 q427
                  cases e427
                  replace p427 := eq_true p427
                  replace q427 := eq_true q427
                  have p428 : 0 ≤ (x13_1 : Int) := of_decide_eq_true (by first | (with_reducible assumption) | assumption)
                  have q428 : x13_1 < (l1.length : Int) := of_decide_eq_true (by first | (with_reducible assumption) | assumption)
                  obtain ⟨ad428, e428, hx428_0, hx428_1⟩ := at_T54 HR1.out x13_1 p428 q428
                  cases e428
                  replace p428 := eq_true p428
                  replace q428 := eq_true q428
                  go_wp2
                  repeat (go_quiet (fail); try go_wp2)
                  go_roundg k1
                  case measure => have := HK1.out; omega
                  case rel => exact ⟨(wrap64 (x13_1 + 1)), (by first | rfl | (simp; done) | (simp [*]; done)), H', ⟨by have := HK1.out; omega⟩, by repeat (first | exact Drawn0.refl _ | apply Drawn0.step)⟩
              · rw [if_neg c7] at H
                exact absurd H (by simp)
            · rw [if_neg c6] at H
              exact absurd H (by simp)
          · rw [if_neg c5] at H
            exact absurd H (by simp)
        · rw [if_neg c4] at H
          have c4b0 : decide (x13_1 < (l0.length : Int)) = false := decide_eq_false c4
          clear c4
          obtain rfl := Option.some.inj H
          go_wp2
          repeat (go_quiet (fail); try go_wp2)
          go_ret
          exact ⟨by first | rfl | (simp; done) | (simp [*]; done), by repeat (first | exact Drawn0.refl _ | apply Drawn0.step)⟩
  · rw [if_neg c3] at H
    have c3b0 : ((l0.length : Int) == (l1.length : Int)) = false := beq_eq_false_iff_ne.mpr c3
    have c3b1 : ((l0.length : Int) != (l1.length : Int)) = true := bne_iff_ne.mpr c3
    have c3b2 : (l0.length == l1.length) = false := by first | simpa using c3 | (simp at c3 ⊢; omega)
    obtain rfl := Option.some.inj H
    go_enter Try.func32, Try.ntmps32
    go_wp2
    repeat (go_quiet (fail); try go_wp2)
    go_ret
    exact ⟨by first | rfl | (simp; done) | (simp [*]; done), by repeat (first | exact Drawn0.refl _ | apply Drawn0.step)⟩

end Go.Proofs.Ytgjhomhfcifipaa.QS
