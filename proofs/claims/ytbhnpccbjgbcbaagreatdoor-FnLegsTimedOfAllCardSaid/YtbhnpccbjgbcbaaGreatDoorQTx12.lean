-- WRITTEN BY a program of this session (wip/xprint.py, over the kit's print): Lean checks it.
import Derived.Test.YtbhnpccbjgbcbaaGreatDoorQTx12d
import Derived.Test.YtbhnpccbjgbcbaaGreatDoorQTx12s1
namespace Go.Proofs.YtbhnpccbjgbcbaaGreatDoor.QT
open Go.Proofs.YtbhnpccbjgbcbaaGreatDoor.X Go.RowKit Go.Proofs.YtbhnpccbjgbcbaaGreatDoorW.PrintWords Go.Proofs.YtbhnpccbjgbcbaaGreatDoorW.PrintLast Go.Proofs.YtbhnpccbjgbcbaaGreatDoorW.PrintMore
attribute [local go_sem] max2_int min2_int max_two min_two max_three min_three max_four min_four   -- for this text's walks alone
set_option linter.unusedVariables false
set_option linter.unusedSimpArgs false

set_option maxHeartbeats 8000000 in
set_option maxRecDepth 100000 in
theorem lw_.calls (k : Nat) (A0 : Option Addr) (c0 : Nat) (l0 : List (S37)) (A1 : Option Addr) (c1 : Nat) (l1 : List (S37)) (a2 : Int) (a3 : Int) (A4 : Option Addr) (c4 : Nat) (l4 : List Int) (a5 : ByteArray) (r : Bool) (w : World) (hr0 : Kd.C k37 w A0 l0.length l0) (hc0 : l0.length ≤ c0) (hr1 : Kd.C k37 w A1 l1.length l1) (hc1 : l1.length ≤ c1) (hr4 : Kd.C (Kd.int .i64) w A4 l4.length l4) (hc4 : l4.length ≤ c4) (h : lw_.f k l0 l1 a2 a3 l4 a5 = some r) (hR_ : r = true) (hT_ : Go.Proofs.YtbhnpccbjgbcbaaGreatDoor.XText.T2 w) :
  Calls Tryz.prog 3 #[.slice A0 l0.length c0, .slice A1 l1.length c1, .int .i64 a2, .int .i64 a3, .slice A4 l4.length c4, .string a5] w fun e w' => e = .returned (.bool r) ∧ Below w.heap.size w w' := by
 have HTab_ := Aside0.mk hT_
 clear hT_
 have HR_ := Aside0.mk hR_
 clear hR_
 have hu37 := Tryz.underlying37
 have HR0 := Aside0.mk hr0
 have HC0 := Aside0.mk hc0
 clear hr0 hc0
 have HR1 := Aside0.mk hr1
 have HC1 := Aside0.mk hc1
 clear hr1 hc1
 have HR4 := Aside0.mk hr4
 have HC4 := Aside0.mk hc4
 clear hr4 hc4
 have HB := Aside0.mk (Below.refl w.heap.size w)
 have H := h
 unfold lw_.f at H
 clear h
 have HC7 := Aside0.mk H
 clear H
 go_enter Tryz.func3, Tryz.ntmps3
 go_upto_region 1 with (fail)
 go_cut [108] from 100000 (fun v108 wc => ∃ (kq : Nat) (x108_6 : Bool), v108 = .bool x108_6 ∧ Aside0 (lw_.j0 kq l0 l1 a2 a3 l4 a5 x108_6 = some r) ∧ Aside0 (kq ≤ k) ∧ Aside0 (Below w.heap.size w wc))
 case first =>
  (try conv => arg 2; dsimp only [List.append_eq, List.cons_append, List.nil_append])
  have H := HC7.out
  clear HC7
  by_cases c8 : (l0.length : Int) > 10000
  ·rw [if_pos c8] at H
   have c8b0 := decide_eq_true c8
   have c8b1 : decide (10000 < l0.length) = true := decide_eq_true (by omega)
   clear c8
   (first | rw [c8b0] | (simp only [i64_w, i32_w]; rw [c8b0]) | skip)
   have H' := Aside0.mk H
   clear H
   go_wp2
   go_meet
   case rel => exact ⟨_, (true), rt_, H', ⟨by first | omega | exact Nat.le_refl _⟩, ⟨below_to HB⟩⟩
  ·rw [if_neg c8] at H
   have c8b0 := decide_eq_false c8
   have c8b1 : decide (10000 < l0.length) = false := decide_eq_false (by omega)
   clear c8
   (first | rw [c8b0] | (simp only [i64_w, i32_w]; rw [c8b0]) | skip)
   by_cases c9 : (l1.length : Int) > 10000
   ·rw [if_pos c9] at H
    have c9b0 := decide_eq_true c9
    have c9b1 : decide (10000 < l1.length) = true := decide_eq_true (by omega)
    clear c9
    have H' := Aside0.mk H
    clear H
    go_wp2
    go_meet
    case rel => exact ⟨_, (true), rt_, H', ⟨by first | omega | exact Nat.le_refl _⟩, ⟨below_to HB⟩⟩
   ·rw [if_neg c9] at H
    have c9b0 := decide_eq_false c9
    have c9b1 : decide (10000 < l1.length) = false := decide_eq_false (by omega)
    clear c9
    by_cases c10 : (l4.length : Int) > 10000
    ·rw [if_pos c10] at H
     have c10b0 := decide_eq_true c10
     have c10b1 : decide (10000 < l4.length) = true := decide_eq_true (by omega)
     clear c10
     have H' := Aside0.mk H
     clear H
     go_wp2
     go_meet
     case rel => exact ⟨_, (true), rt_, H', ⟨by first | omega | exact Nat.le_refl _⟩, ⟨below_to HB⟩⟩
    ·rw [if_neg c10] at H
     have c10b0 := decide_eq_false c10
     have c10b1 : decide (10000 < l4.length) = false := decide_eq_false (by omega)
     clear c10
     have H' := Aside0.mk H
     clear H
     go_wp2
     go_meet
     case rel => exact ⟨_, (decide ((a5.size : Int) > 1048576)), rt_, H', ⟨by first | omega | exact Nat.le_refl _⟩, ⟨below_to HB⟩⟩
 case rest =>
  clear HC7
  (try clear c1); (try clear c4); (try clear c8); (try clear c8b0); (try clear c8b1); (try clear c9); (try clear c9b0); (try clear c9b1); (try clear c10); (try clear c10b0); (try clear c10b1)
  obtain ⟨kq, x108_6, rfl, HA, HJ6, HB⟩ := hcut
  cases kq with
  | zero => exact absurd HA.out (by simp [lw_.j0])
  | succ kj6 =>
   have H := HA.out
   clear HA
   simp only [lw_.j0] at H
   by_cases c11 : x108_6 = true
   ·subst c11
    rw [if_pos rfl] at H
    obtain rfl := Option.some.inj H
    go_wp2
    go_ret
    exact ⟨rtE_, below_to HB⟩
   ·replace c11 := Bool.eq_false_iff.mpr c11
    subst c11
    rw [if_neg (show ¬ (false = true) by decide)] at H
    replace H := Option.bind_eq_some_iff.mp H
    obtain ⟨⟨t391, t392⟩, A120, H⟩ := H
    (try dsimp only at H)
    have A12 := Aside0.mk A120
    clear A120
    replace H := Option.bind_eq_some_iff.mp H
    obtain ⟨⟨t395, t396⟩, A130, H⟩ := H
    (try dsimp only at H)
    have A13 := Aside0.mk A130
    clear A130
    replace H := Option.bind_eq_some_iff.mp H
    obtain ⟨⟨t399, t400, t401⟩, A140, H⟩ := H
    (try dsimp only at H)
    have A14 := Aside0.mk A140
    clear A140
    replace H := Option.bind_eq_some_iff.mp H
    obtain ⟨⟨t402, t403, t404⟩, A150, H⟩ := H
    (try dsimp only at H)
    have A15 := Aside0.mk A150
    clear A150
    replace H := Option.bind_eq_some_iff.mp H
    obtain ⟨⟨t405, t406⟩, A160, H⟩ := H
    (try dsimp only at H)
    have A16 := Aside0.mk A160
    clear A160
    replace H := Option.bind_eq_some_iff.mp H
    obtain ⟨⟨t407, t408⟩, A170, H⟩ := H
    (try dsimp only at H)
    have A17 := Aside0.mk A170
    clear A170
    replace H := Option.bind_eq_some_iff.mp H
    obtain ⟨⟨t409, t410, t411⟩, A180, H⟩ := H
    (try dsimp only at H)
    have A18 := Aside0.mk A180
    clear A180
    replace H := Option.bind_eq_some_iff.mp H
    obtain ⟨⟨t412, t413, t414⟩, A190, H⟩ := H
    (try dsimp only at H)
    have A19 := Aside0.mk A190
    clear A190
    replace H := Option.bind_eq_some_iff.mp H
    obtain ⟨⟨t415, t416⟩, A200, H⟩ := H
    (try dsimp only at H)
    have A20 := Aside0.mk A200
    clear A200
    replace H := Option.bind_eq_some_iff.mp H
    obtain ⟨⟨t417, t418⟩, A210, H⟩ := H
    (try dsimp only at H)
    have A21 := Aside0.mk A210
    clear A210
    replace H := Option.bind_eq_some_iff.mp H
    obtain ⟨⟨t419, t420⟩, A220, H⟩ := H
    (try dsimp only at H)
    have A22 := Aside0.mk A220
    clear A220
    replace H := Option.bind_eq_some_iff.mp H
    obtain ⟨⟨t421, t422⟩, A230, H⟩ := H
    (try dsimp only at H)
    have A23 := Aside0.mk A230
    clear A230
    have HC24 := Aside0.mk H
    clear H
    go_upto_region 15 with (first | ((with_reducible refine gate_callee (f := 5) rfl ?_); refine goesL_ (some 111) rfl rfl Tryz.func5 (by kernel_rfl) rfl #[.slice A0 l0.length c0] rfl am_ ?_; (with_reducible refine (impl_TimesOfLegs.calls kj6 _ _ l0 t391 t392 _ ?side1 ?side2 A12.out).mono ?_); (case side1 => exact cb_ HR0 HB); (case side2 => exact HC0.out); rintro e w25 ⟨v393, rfl, ho0, hb⟩; refine ⟨_, rfl, ?_⟩; have HO394 := Aside0.mk (Kd.S_lower ho0 (below_size (below_to HB))); replace HB := Aside0.mk (below_step (below_to HB) hb); (try clear hb); (try clear ho0)) | ((with_reducible refine gate_callee (f := 6) rfl ?_); refine goesL_ (some 116) rfl rfl Tryz.func6 (by kernel_rfl) rfl #[.slice A0 l0.length c0] rfl am_ ?_; (with_reducible refine (spec_TimesOfLegs.calls kj6 _ _ l0 t395 t396 _ ?side1 ?side2 A13.out).mono ?_); (case side1 => exact cb_ HR0 HB); (case side2 => exact HC0.out); rintro e w26 ⟨v397, rfl, ho0, hb⟩; refine ⟨_, rfl, ?_⟩; have n0_ := Aside0.mk (Kd.S_elder' (by (with_reducible repeat (first | apply Kd.S_alloc | apply Kd.S_drewN | apply Kd.S_drew)); exact HO394.out) (Kd.S_base ho0) hb); have n1_ := Aside0.mk (Kd.S_lower (Kd.S_new' ho0 (Kd.S_lt (by (with_reducible repeat (first | apply Kd.S_alloc | apply Kd.S_drewN | apply Kd.S_drew)); exact HO394.out))) (below_size (below_to HB))); have n2_ := Aside0.mk (below_step (below_to HB) hb); clear HO394; clear HB; have HO394 := n0_; have HO398 := n1_; have HB := n2_; clear n0_ n1_ n2_; (try clear hb); (try clear ho0)) | ((with_reducible refine gate_callee (f := 7) rfl ?_); refine goesL_ (some 121) rfl rfl Tryz.func7 (by kernel_rfl) rfl #[.slice A0 l0.length c0] rfl am_ ?_; (with_reducible refine (impl_TimeOfLegs.calls kj6 _ _ l0 t399 t400 t401 _ ?side1 ?side2 A14.out).mono ?_); (case side1 => exact cb_ HR0 HB); (case side2 => exact HC0.out); rintro e w27 ⟨rfl, hb⟩; refine ⟨_, rfl, ?_⟩; replace HO394 := Aside0.mk (Kd.S_below (by (with_reducible repeat (first | apply Kd.S_alloc | apply Kd.S_drewN | apply Kd.S_drew)); exact HO394.out) hb); replace HO398 := Aside0.mk (Kd.S_below (by (with_reducible repeat (first | apply Kd.S_alloc | apply Kd.S_drewN | apply Kd.S_drew)); exact HO398.out) hb); replace HB := Aside0.mk (below_step (below_to HB) hb); (try clear hb)) | ((with_reducible refine gate_callee (f := 8) rfl ?_); refine goesL_ (some 127) rfl rfl Tryz.func8 (by kernel_rfl) rfl #[.slice A0 l0.length c0] rfl am_ ?_; (with_reducible refine (spec_TimeOfLegs.calls kj6 _ _ l0 t402 t403 t404 _ ?side1 ?side2 A15.out).mono ?_); (case side1 => exact cb_ HR0 HB); (case side2 => exact HC0.out); rintro e w28 ⟨rfl, hb⟩; refine ⟨_, rfl, ?_⟩; replace HO394 := Aside0.mk (Kd.S_below (by (with_reducible repeat (first | apply Kd.S_alloc | apply Kd.S_drewN | apply Kd.S_drew)); exact HO394.out) hb); replace HO398 := Aside0.mk (Kd.S_below (by (with_reducible repeat (first | apply Kd.S_alloc | apply Kd.S_drewN | apply Kd.S_drew)); exact HO398.out) hb); replace HB := Aside0.mk (below_step (below_to HB) hb); (try clear hb)) | ((with_reducible refine gate_callee (f := 9) rfl ?_); refine goesL_ (some 133) rfl rfl Tryz.func9 (by kernel_rfl) rfl #[.slice A0 l0.length c0] rfl am_ ?_; (with_reducible refine (impl_LongOfLegs.calls kj6 _ _ l0 t405 t406 _ ?side1 ?side2 A16.out).mono ?_); (case side1 => exact cb_ HR0 HB); (case side2 => exact HC0.out); rintro e w29 ⟨rfl, hb⟩; refine ⟨_, rfl, ?_⟩; replace HO394 := Aside0.mk (Kd.S_below (by (with_reducible repeat (first | apply Kd.S_alloc | apply Kd.S_drewN | apply Kd.S_drew)); exact HO394.out) hb); replace HO398 := Aside0.mk (Kd.S_below (by (with_reducible repeat (first | apply Kd.S_alloc | apply Kd.S_drewN | apply Kd.S_drew)); exact HO398.out) hb); replace HB := Aside0.mk (below_step (below_to HB) hb); (try clear hb)) | ((with_reducible refine gate_callee (f := 10) rfl ?_); refine goesL_ (some 138) rfl rfl Tryz.func10 (by kernel_rfl) rfl #[.slice A0 l0.length c0] rfl am_ ?_; (with_reducible refine (spec_LongOfLegs.calls kj6 _ _ l0 t407 t408 _ ?side1 ?side2 A17.out).mono ?_); (case side1 => exact cb_ HR0 HB); (case side2 => exact HC0.out); rintro e w30 ⟨rfl, hb⟩; refine ⟨_, rfl, ?_⟩; replace HO394 := Aside0.mk (Kd.S_below (by (with_reducible repeat (first | apply Kd.S_alloc | apply Kd.S_drewN | apply Kd.S_drew)); exact HO394.out) hb); replace HO398 := Aside0.mk (Kd.S_below (by (with_reducible repeat (first | apply Kd.S_alloc | apply Kd.S_drewN | apply Kd.S_drew)); exact HO398.out) hb); replace HB := Aside0.mk (below_step (below_to HB) hb); (try clear hb)) | ((with_reducible refine gate_callee (f := 11) rfl ?_); refine goesL_ (some 143) rfl rfl Tryz.func11 (by kernel_rfl) rfl #[.slice A0 l0.length c0] rfl am_ ?_; (with_reducible refine (impl_MeanSpeed.calls kj6 _ _ l0 t409 t410 t411 _ ?side1 ?side2 A18.out).mono ?_); (case side1 => exact cb_ HR0 HB); (case side2 => exact HC0.out); rintro e w31 ⟨rfl, hb⟩; refine ⟨_, rfl, ?_⟩; replace HO394 := Aside0.mk (Kd.S_below (by (with_reducible repeat (first | apply Kd.S_alloc | apply Kd.S_drewN | apply Kd.S_drew)); exact HO394.out) hb); replace HO398 := Aside0.mk (Kd.S_below (by (with_reducible repeat (first | apply Kd.S_alloc | apply Kd.S_drewN | apply Kd.S_drew)); exact HO398.out) hb); replace HB := Aside0.mk (below_step (below_to HB) hb); (try clear hb)) | ((with_reducible refine gate_callee (f := 12) rfl ?_); refine goesL_ (some 149) rfl rfl Tryz.func12 (by kernel_rfl) rfl #[.slice A0 l0.length c0] rfl am_ ?_; (with_reducible refine (spec_MeanSpeed.calls kj6 _ _ l0 t412 t413 t414 _ ?side1 ?side2 A19.out).mono ?_); (case side1 => exact cb_ HR0 HB); (case side2 => exact HC0.out); rintro e w32 ⟨rfl, hb⟩; refine ⟨_, rfl, ?_⟩; replace HO394 := Aside0.mk (Kd.S_below (by (with_reducible repeat (first | apply Kd.S_alloc | apply Kd.S_drewN | apply Kd.S_drew)); exact HO394.out) hb); replace HO398 := Aside0.mk (Kd.S_below (by (with_reducible repeat (first | apply Kd.S_alloc | apply Kd.S_drewN | apply Kd.S_drew)); exact HO398.out) hb); replace HB := Aside0.mk (below_step (below_to HB) hb); (try clear hb)) | ((with_reducible refine gate_callee (f := 13) rfl ?_); refine goesL_ (some 155) rfl rfl Tryz.func13 (by kernel_rfl) rfl #[.slice A0 l0.length c0] rfl am_ ?_; (with_reducible refine (impl_SlowestLeg.calls kj6 _ _ l0 t415 t416 _ ?side1 ?side2 A20.out).mono ?_); (case side1 => exact cb_ HR0 HB); (case side2 => exact HC0.out); rintro e w33 ⟨rfl, hb⟩; refine ⟨_, rfl, ?_⟩; replace HO394 := Aside0.mk (Kd.S_below (by (with_reducible repeat (first | apply Kd.S_alloc | apply Kd.S_drewN | apply Kd.S_drew)); exact HO394.out) hb); replace HO398 := Aside0.mk (Kd.S_below (by (with_reducible repeat (first | apply Kd.S_alloc | apply Kd.S_drewN | apply Kd.S_drew)); exact HO398.out) hb); replace HB := Aside0.mk (below_step (below_to HB) hb); (try clear hb)) | ((with_reducible refine gate_callee (f := 14) rfl ?_); refine goesL_ (some 160) rfl rfl Tryz.func14 (by kernel_rfl) rfl #[.slice A0 l0.length c0] rfl am_ ?_; (with_reducible refine (spec_SlowestLeg.calls kj6 _ _ l0 t417 t418 _ ?side1 ?side2 A21.out).mono ?_); (case side1 => exact cb_ HR0 HB); (case side2 => exact HC0.out); rintro e w34 ⟨rfl, hb⟩; refine ⟨_, rfl, ?_⟩; replace HO394 := Aside0.mk (Kd.S_below (by (with_reducible repeat (first | apply Kd.S_alloc | apply Kd.S_drewN | apply Kd.S_drew)); exact HO394.out) hb); replace HO398 := Aside0.mk (Kd.S_below (by (with_reducible repeat (first | apply Kd.S_alloc | apply Kd.S_drewN | apply Kd.S_drew)); exact HO398.out) hb); replace HB := Aside0.mk (below_step (below_to HB) hb); (try clear hb)) | ((with_reducible refine gate_callee (f := 15) rfl ?_); refine goesL_ (some 165) rfl rfl Tryz.func15 (by kernel_rfl) rfl #[.slice A0 l0.length c0] rfl am_ ?_; (with_reducible refine (impl_LegsText.calls kj6 _ _ l0 t419 t420 _ ?side1 ?side2 A22.out ?sidet).mono ?_); (case sidet => refine Go.Proofs.YtbhnpccbjgbcbaaGreatDoor.XText.T1.on (w := w) (Go.Proofs.YtbhnpccbjgbcbaaGreatDoor.XText.T2.to1 HTab_.out) ?_; repeat (first | (with_reducible first | exact HB.out | exact Below.refl _ _ | apply below_alloc | apply pw_below_drewN | apply below_drew1 | refine below_set ?_ GE434.out) | exact HB.out | exact Below.refl _ _)); (case side1 => exact cb_ HR0 HB); (case side2 => exact HC0.out); rintro e w35 ⟨rfl, hb⟩; refine ⟨_, rfl, ?_⟩; replace HO394 := Aside0.mk (Kd.S_below (by (with_reducible repeat (first | apply Kd.S_alloc | apply Kd.S_drewN | apply Kd.S_drew)); exact HO394.out) hb); replace HO398 := Aside0.mk (Kd.S_below (by (with_reducible repeat (first | apply Kd.S_alloc | apply Kd.S_drewN | apply Kd.S_drew)); exact HO398.out) hb); replace HB := Aside0.mk (below_step (below_to HB) hb); (try clear hb)) | ((with_reducible refine gate_callee (f := 16) rfl ?_); refine goesL_ (some 170) rfl rfl Tryz.func16 (by kernel_rfl) rfl #[.slice A0 l0.length c0] rfl am_ ?_; (with_reducible refine (spec_LegsText.calls kj6 _ _ l0 t421 t422 _ ?side1 ?side2 A23.out).mono ?_); (case side1 => exact cb_ HR0 HB); (case side2 => exact HC0.out); rintro e w36 ⟨rfl, hb⟩; refine ⟨_, rfl, ?_⟩; replace HO394 := Aside0.mk (Kd.S_below (by (with_reducible repeat (first | apply Kd.S_alloc | apply Kd.S_drewN | apply Kd.S_drew)); exact HO394.out) hb); replace HO398 := Aside0.mk (Kd.S_below (by (with_reducible repeat (first | apply Kd.S_alloc | apply Kd.S_drewN | apply Kd.S_drew)); exact HO398.out) hb); replace HB := Aside0.mk (below_step (below_to HB) hb); (try clear hb)))
    (try simp only [Act.put, List.setIfInBounds_toArray, List.set_cons_zero, List.set_cons_succ])
    go_cut [279] from 100000 (fun v279 wc => ∃ (kq : Nat) (x279_23 : Bool), v279 = .bool x279_23 ∧ Aside0 (lw_.j1 kq l0 l1 a2 a3 l4 a5 t391 t392 t399 t400 t405 t409 t410 t415 t419 x279_23 = some r) ∧ Aside0 (kq ≤ kj6) ∧ Aside0 (Kd.S (Kd.slice 3 (Kd.int .i64)) 23 wc w.heap.size (fun _ => True) v393 t391) ∧ Aside0 (Below w.heap.size w wc))
    case first =>
     (try conv => arg 2; dsimp only [List.append_eq, List.cons_append, List.nil_append])
     have H := HC24.out
     clear HC24
     by_cases c37 : (t392 != t396) = true
     ·rw [if_pos c37] at H
      have c37b0 : (t392 != t396) = true := c37
      (try (have c37b1 : decide (t392 = t396) = false := by simpa using c37))
      (try (have c37b2 : (t392 == t396) = false := by simpa using c37))
      (try (have c37b3 : ¬ (t392 = t396) := by simpa using c37))
      clear c37
      (first | rw [c37b0] | (simp only [i64_w, i32_w]; rw [c37b0]) | skip)
      exact absurd H (by rw [HR_.out]; cases kj6 <;> simp [lw_.j1])
     ·rw [if_neg c37] at H
      have c37b0 : (t392 != t396) = false := by simpa using c37
      (try (have c37b1 : decide (t392 = t396) = true := by simpa using c37))
      (try (have c37b2 : (t392 == t396) = true := by simpa using c37))
      clear c37
      (first | rw [c37b0] | (simp only [i64_w, i32_w]; rw [c37b0]) | skip)
      replace H := Option.bind_eq_some_iff.mp H
      obtain ⟨t423, A380, H⟩ := H
      (try dsimp only at H)
      have A38 := Aside0.mk A380
      clear A380
      by_cases c39 : t423 = true
      ·subst c39
       rw [if_pos rfl] at H
       by_cases c40 : (t401 != t404) = true
       ·rw [if_pos c40] at H
        have c40b0 : (t401 != t404) = true := c40
        (try (have c40b1 : decide (t401 = t404) = false := by simpa using c40))
        (try (have c40b2 : (t401 == t404) = false := by simpa using c40))
        (try (have c40b3 : ¬ (t401 = t404) := by simpa using c40))
        clear c40
        exact absurd H (by rw [HR_.out]; cases kj6 <;> simp [lw_.j1])
       ·rw [if_neg c40] at H
        have c40b0 : (t401 != t404) = false := by simpa using c40
        (try (have c40b1 : decide (t401 = t404) = true := by simpa using c40))
        (try (have c40b2 : (t401 == t404) = true := by simpa using c40))
        clear c40
        by_cases c41 : t399 = t402
        ·rw [if_pos c41] at H
         have c41b0 := beq_iff_eq.mpr c41
         have c41b1 := bne_eq_false_iff_eq.mpr c41
         clear c41
         by_cases c42 : t400 = t403
         ·rw [if_pos c42] at H
          have c42b0 := beq_iff_eq.mpr c42
          have c42b1 := bne_eq_false_iff_eq.mpr c42
          clear c42
          by_cases c43 : (t406 != t408) = true
          ·rw [if_pos c43] at H
           have c43b0 : (t406 != t408) = true := c43
           (try (have c43b1 : decide (t406 = t408) = false := by simpa using c43))
           (try (have c43b2 : (t406 == t408) = false := by simpa using c43))
           (try (have c43b3 : ¬ (t406 = t408) := by simpa using c43))
           clear c43
           exact absurd H (by rw [HR_.out]; cases kj6 <;> simp [lw_.j1])
          ·rw [if_neg c43] at H
           have c43b0 : (t406 != t408) = false := by simpa using c43
           (try (have c43b1 : decide (t406 = t408) = true := by simpa using c43))
           (try (have c43b2 : (t406 == t408) = true := by simpa using c43))
           clear c43
           by_cases c44 : t405 = t407
           ·rw [if_pos c44] at H
            have c44b0 := beq_iff_eq.mpr c44
            have c44b1 := bne_eq_false_iff_eq.mpr c44
            clear c44
            by_cases c45 : (t411 != t414) = true
            ·rw [if_pos c45] at H
             have c45b0 : (t411 != t414) = true := c45
             (try (have c45b1 : decide (t411 = t414) = false := by simpa using c45))
             (try (have c45b2 : (t411 == t414) = false := by simpa using c45))
             (try (have c45b3 : ¬ (t411 = t414) := by simpa using c45))
             clear c45
             exact absurd H (by rw [HR_.out]; cases kj6 <;> simp [lw_.j1])
            ·rw [if_neg c45] at H
             have c45b0 : (t411 != t414) = false := by simpa using c45
             (try (have c45b1 : decide (t411 = t414) = true := by simpa using c45))
             (try (have c45b2 : (t411 == t414) = true := by simpa using c45))
             clear c45
             by_cases c46 : t409 = t412
             ·rw [if_pos c46] at H
              have c46b0 := beq_iff_eq.mpr c46
              have c46b1 := bne_eq_false_iff_eq.mpr c46
              clear c46
              by_cases c47 : t410 = t413
              ·rw [if_pos c47] at H
               have c47b0 := beq_iff_eq.mpr c47
               have c47b1 := bne_eq_false_iff_eq.mpr c47
               clear c47
               by_cases c48 : (t416 != t418) = true
               ·rw [if_pos c48] at H
                have c48b0 : (t416 != t418) = true := c48
                (try (have c48b1 : decide (t416 = t418) = false := by simpa using c48))
                (try (have c48b2 : (t416 == t418) = false := by simpa using c48))
                (try (have c48b3 : ¬ (t416 = t418) := by simpa using c48))
                clear c48
                exact absurd H (by rw [HR_.out]; cases kj6 <;> simp [lw_.j1])
               ·rw [if_neg c48] at H
                have c48b0 : (t416 != t418) = false := by simpa using c48
                (try (have c48b1 : decide (t416 = t418) = true := by simpa using c48))
                (try (have c48b2 : (t416 == t418) = true := by simpa using c48))
                clear c48
                by_cases c49 : t415 = t417
                ·rw [if_pos c49] at H
                 have c49b0 := beq_iff_eq.mpr c49
                 have c49b1 := bne_eq_false_iff_eq.mpr c49
                 clear c49
                 by_cases c50 : (t420 != t422) = true
                 ·rw [if_pos c50] at H
                  have c50b0 : (t420 != t422) = true := c50
                  (try (have c50b1 : decide (t420 = t422) = false := by simpa using c50))
                  (try (have c50b2 : (t420 == t422) = false := by simpa using c50))
                  (try (have c50b3 : ¬ (t420 = t422) := by simpa using c50))
                  clear c50
                  exact absurd H (by rw [HR_.out]; cases kj6 <;> simp [lw_.j1])
                 ·rw [if_neg c50] at H
                  have c50b0 : (t420 != t422) = false := by simpa using c50
                  (try (have c50b1 : decide (t420 = t422) = true := by simpa using c50))
                  (try (have c50b2 : (t420 == t422) = true := by simpa using c50))
                  clear c50
                  by_cases c51 : t419.toList = t421.toList
                  ·rw [if_pos c51] at H
                   have c51b0 := beq_iff_eq.mpr c51
                   have c51b1 := bne_eq_false_iff_eq.mpr c51
                   clear c51
                   replace H := Option.bind_eq_some_iff.mp H
                   obtain ⟨t424, A520, H⟩ := H
                   (try dsimp only at H)
                   have A52 := Aside0.mk A520
                   clear A520
                   by_cases c53 : (t392 != t424) = true
                   ·rw [if_pos c53] at H
                    have c53b0 : (t392 != t424) = true := c53
                    (try (have c53b1 : decide (t392 = t424) = false := by simpa using c53))
                    (try (have c53b2 : (t392 == t424) = false := by simpa using c53))
                    (try (have c53b3 : ¬ (t392 = t424) := by simpa using c53))
                    clear c53
                    exact absurd H (by rw [HR_.out]; cases kj6 <;> simp [lw_.j1])
                   ·rw [if_neg c53] at H
                    have c53b0 : (t392 != t424) = false := by simpa using c53
                    (try (have c53b1 : decide (t392 = t424) = true := by simpa using c53))
                    (try (have c53b2 : (t392 == t424) = true := by simpa using c53))
                    clear c53
                    replace H := Option.bind_eq_some_iff.mp H
                    obtain ⟨t425, A540, H⟩ := H
                    (try dsimp only at H)
                    have A54 := Aside0.mk A540
                    have eqA_ := Option.some.inj (A52.out.symm.trans A54.out)
                    subst eqA_
                    clear A540
                    replace H := Option.bind_eq_some_iff.mp H
                    obtain ⟨t426, A550, H⟩ := H
                    (try dsimp only at H)
                    have A55 := Aside0.mk A550
                    clear A550
                    by_cases c56 : (t424 != t426) = true
                    ·rw [if_pos c56] at H
                     have c56b0 : (t424 != t426) = true := c56
                     (try (have c56b1 : decide (t424 = t426) = false := by simpa using c56))
                     (try (have c56b2 : (t424 == t426) = false := by simpa using c56))
                     (try (have c56b3 : ¬ (t424 = t426) := by simpa using c56))
                     clear c56
                     exact absurd H (by rw [HR_.out]; cases kj6 <;> simp [lw_.j1])
                    ·rw [if_neg c56] at H
                     have c56b0 : (t424 != t426) = false := by simpa using c56
                     (try (have c56b1 : decide (t424 = t426) = true := by simpa using c56))
                     (try (have c56b2 : (t424 == t426) = true := by simpa using c56))
                     clear c56
                     by_cases c57 : (t401 != t392) = true
                     ·rw [if_pos c57] at H
                      have c57b0 : (t401 != t392) = true := c57
                      (try (have c57b1 : decide (t401 = t392) = false := by simpa using c57))
                      (try (have c57b2 : (t401 == t392) = false := by simpa using c57))
                      (try (have c57b3 : ¬ (t401 = t392) := by simpa using c57))
                      clear c57
                      exact absurd H (by rw [HR_.out]; cases kj6 <;> simp [lw_.j1])
                     ·rw [if_neg c57] at H
                      have c57b0 : (t401 != t392) = false := by simpa using c57
                      (try (have c57b1 : decide (t401 = t392) = true := by simpa using c57))
                      (try (have c57b2 : (t401 == t392) = true := by simpa using c57))
                      clear c57
                      by_cases c58 : (t406 != t392) = true
                      ·rw [if_pos c58] at H
                       have c58b0 : (t406 != t392) = true := c58
                       (try (have c58b1 : decide (t406 = t392) = false := by simpa using c58))
                       (try (have c58b2 : (t406 == t392) = false := by simpa using c58))
                       (try (have c58b3 : ¬ (t406 = t392) := by simpa using c58))
                       clear c58
                       exact absurd H (by rw [HR_.out]; cases kj6 <;> simp [lw_.j1])
                      ·rw [if_neg c58] at H
                       have c58b0 : (t406 != t392) = false := by simpa using c58
                       (try (have c58b1 : decide (t406 = t392) = true := by simpa using c58))
                       (try (have c58b2 : (t406 == t392) = true := by simpa using c58))
                       clear c58
                       by_cases c59 : (t411 != t392) = true
                       ·rw [if_pos c59] at H
                        have c59b0 : (t411 != t392) = true := c59
                        (try (have c59b1 : decide (t411 = t392) = false := by simpa using c59))
                        (try (have c59b2 : (t411 == t392) = false := by simpa using c59))
                        (try (have c59b3 : ¬ (t411 = t392) := by simpa using c59))
                        clear c59
                        exact absurd H (by rw [HR_.out]; cases kj6 <;> simp [lw_.j1])
                       ·rw [if_neg c59] at H
                        have c59b0 : (t411 != t392) = false := by simpa using c59
                        (try (have c59b1 : decide (t411 = t392) = true := by simpa using c59))
                        (try (have c59b2 : (t411 == t392) = true := by simpa using c59))
                        clear c59
                        by_cases c60 : (t416 != t392) = true
                        ·rw [if_pos c60] at H
                         have c60b0 : (t416 != t392) = true := c60
                         (try (have c60b1 : decide (t416 = t392) = false := by simpa using c60))
                         (try (have c60b2 : (t416 == t392) = false := by simpa using c60))
                         (try (have c60b3 : ¬ (t416 = t392) := by simpa using c60))
                         clear c60
                         exact absurd H (by rw [HR_.out]; cases kj6 <;> simp [lw_.j1])
                        ·rw [if_neg c60] at H
                         have c60b0 : (t416 != t392) = false := by simpa using c60
                         (try (have c60b1 : decide (t416 = t392) = true := by simpa using c60))
                         (try (have c60b2 : (t416 == t392) = true := by simpa using c60))
                         clear c60
                         have H' := Aside0.mk H
                         clear H
                         obtain ⟨Ao61, co61, eo61⟩ := Kd.S_slice HO394.out
                         subst eo61
                         obtain ⟨Ao62, co62, eo62⟩ := Kd.S_slice HO398.out
                         subst eo62
                         go_wp2_with (first | (go_at_call 17; (with_reducible refine (laws_yRows.calls kj6 _ _ t391 _ _ t395 true _ ?side1 ?side2 ?side3 ?side4 A38.out).mono ?_); (case side1 => repeat (first | exact (Kd.S_reads' HO394.out).2.2 | (with_reducible refine Kd.C_alloc ?_ _) | (with_reducible refine Kd.C_drewN ?_ _) | (with_reducible refine Kd.C_drew ?_))); (case side2 => exact (Kd.S_reads' HO394.out).2.1); (case side3 => repeat (first | exact (Kd.S_reads' HO398.out).2.2 | (with_reducible refine Kd.C_alloc ?_ _) | (with_reducible refine Kd.C_drewN ?_ _) | (with_reducible refine Kd.C_drew ?_))); (case side4 => exact (Kd.S_reads' HO398.out).2.1); rintro e w' ⟨rfl, ⟨nd, rfl⟩⟩) | (go_at_call 18; (with_reducible refine (impl_AreLegs.calls kj6 _ _ l0 t424 _ ?side1 ?side2 A52.out).mono ?_); (case side1 => repeat (first | exact (Kd.C_below HR0.out (below_to HB)) | (with_reducible refine Kd.C_alloc ?_ _) | (with_reducible refine Kd.C_drewN ?_ _) | (with_reducible refine Kd.C_drew ?_))); (case side2 => exact HC0.out); rintro e w63 ⟨rfl, hb⟩; replace HO394 := Aside0.mk (Kd.S_below (by (with_reducible repeat (first | apply Kd.S_alloc | apply Kd.S_drewN | apply Kd.S_drew)); exact HO394.out) hb); replace HO398 := Aside0.mk (Kd.S_below (by (with_reducible repeat (first | apply Kd.S_alloc | apply Kd.S_drewN | apply Kd.S_drew)); exact HO398.out) hb); replace HB := Aside0.mk (below_step (below_to HB) hb); (try clear hb)) | (go_at_call 18; (with_reducible refine (impl_AreLegs.calls kj6 _ _ l0 t424 _ ?side1 ?side2 A54.out).mono ?_); (case side1 => exact cb_ HR0 HB); (case side2 => exact HC0.out); rintro e w64 ⟨rfl, hb⟩; replace HO394 := Aside0.mk (Kd.S_below (by (with_reducible repeat (first | apply Kd.S_alloc | apply Kd.S_drewN | apply Kd.S_drew)); exact HO394.out) hb); replace HO398 := Aside0.mk (Kd.S_below (by (with_reducible repeat (first | apply Kd.S_alloc | apply Kd.S_drewN | apply Kd.S_drew)); exact HO398.out) hb); replace HB := Aside0.mk (below_step (below_to HB) hb); (try clear hb)) | (go_at_call 19; (with_reducible refine (spec_AreLegs.calls kj6 _ _ l0 t426 _ ?side1 ?side2 A55.out).mono ?_); (case side1 => exact cb_ HR0 HB); (case side2 => exact HC0.out); rintro e w65 ⟨rfl, hb⟩; replace HO394 := Aside0.mk (Kd.S_below (by (with_reducible repeat (first | apply Kd.S_alloc | apply Kd.S_drewN | apply Kd.S_drew)); exact HO394.out) hb); replace HO398 := Aside0.mk (Kd.S_below (by (with_reducible repeat (first | apply Kd.S_alloc | apply Kd.S_drewN | apply Kd.S_drew)); exact HO398.out) hb); replace HB := Aside0.mk (below_step (below_to HB) hb); (try clear hb)))
                         go_meet
                         case rel => exact ⟨_, ((t420 != t392)), rt_, H', ⟨by have := HJ6.out; first | omega | exact Nat.le_refl _⟩, ⟨by (with_reducible repeat (first | apply Kd.S_alloc | apply Kd.S_drewN | apply Kd.S_drew)); exact Kd.S_mono HO394.out (fun _ hk => trivial)⟩, ⟨below_to HB⟩⟩
                  ·rw [if_neg c51] at H
                   have c51b0 := beq_eq_false_iff_ne.mpr c51
                   have c51b1 := bne_iff_ne.mpr c51
                   exact absurd H (by rw [HR_.out]; cases kj6 <;> simp [lw_.j1])
                ·rw [if_neg c49] at H
                 have c49b0 := beq_eq_false_iff_ne.mpr c49
                 have c49b1 := bne_iff_ne.mpr c49
                 exact absurd H (by rw [HR_.out]; cases kj6 <;> simp [lw_.j1])
              ·rw [if_neg c47] at H
               have c47b0 := beq_eq_false_iff_ne.mpr c47
               have c47b1 := bne_iff_ne.mpr c47
               exact absurd H (by rw [HR_.out]; cases kj6 <;> simp [lw_.j1])
             ·rw [if_neg c46] at H
              have c46b0 := beq_eq_false_iff_ne.mpr c46
              have c46b1 := bne_iff_ne.mpr c46
              exact absurd H (by rw [HR_.out]; cases kj6 <;> simp [lw_.j1])
           ·rw [if_neg c44] at H
            have c44b0 := beq_eq_false_iff_ne.mpr c44
            have c44b1 := bne_iff_ne.mpr c44
            exact absurd H (by rw [HR_.out]; cases kj6 <;> simp [lw_.j1])
         ·rw [if_neg c42] at H
          have c42b0 := beq_eq_false_iff_ne.mpr c42
          have c42b1 := bne_iff_ne.mpr c42
          exact absurd H (by rw [HR_.out]; cases kj6 <;> simp [lw_.j1])
        ·rw [if_neg c41] at H
         have c41b0 := beq_eq_false_iff_ne.mpr c41
         have c41b1 := bne_iff_ne.mpr c41
         exact absurd H (by rw [HR_.out]; cases kj6 <;> simp [lw_.j1])
      ·replace c39 := Bool.eq_false_iff.mpr c39
       subst c39
       rw [if_neg (show ¬ (false = true) by decide)] at H
       exact absurd H (by rw [HR_.out]; cases kj6 <;> simp [lw_.j1])
    case rest =>
     clear HC24
     (try clear c1); (try clear c4); (try clear c8); (try clear c8b0); (try clear c8b1); (try clear c9); (try clear c9b0); (try clear c9b1); (try clear c10); (try clear c10b0); (try clear c10b1); (try clear c11); (try clear c37); (try clear c37b0); (try clear c37b1); (try clear c37b2); (try clear c39); (try clear c40); (try clear c40b0); (try clear c40b1); (try clear c40b2); (try clear c41); (try clear c41b0); (try clear c41b1); (try clear c42); (try clear c42b0); (try clear c42b1); (try clear c43); (try clear c43b0); (try clear c43b1); (try clear c43b2); (try clear c44); (try clear c44b0); (try clear c44b1); (try clear c45); (try clear c45b0); (try clear c45b1); (try clear c45b2); (try clear c46); (try clear c46b0); (try clear c46b1); (try clear c47); (try clear c47b0); (try clear c47b1); (try clear c48); (try clear c48b0); (try clear c48b1); (try clear c48b2); (try clear c49); (try clear c49b0); (try clear c49b1); (try clear c50); (try clear c50b0); (try clear c50b1); (try clear c50b2); (try clear c51); (try clear c51b0); (try clear c51b1); (try clear c53); (try clear c53b0); (try clear c53b1); (try clear c53b2); (try clear c56); (try clear c56b0); (try clear c56b1); (try clear c56b2); (try clear c57); (try clear c57b0); (try clear c57b1); (try clear c57b2); (try clear c58); (try clear c58b0); (try clear c58b1); (try clear c58b2); (try clear c59); (try clear c59b0); (try clear c59b1); (try clear c59b2); (try clear c60); (try clear c60b0); (try clear c60b1); (try clear c60b2)
     obtain ⟨kq, x279_23, rfl, HA, HJ23, HO_13, HB⟩ := hcut
     cases kq with
     | zero => exact absurd HA.out (by simp [lw_.j1])
     | succ kj23 =>
      have H := HA.out
      clear HA
      simp only [lw_.j1] at H
      by_cases c66 : x279_23 = true
      ·subst c66
       rw [if_pos rfl] at H
       exact absurd (Option.some.inj H).symm (by rw [HR_.out]; decide)
      ·replace c66 := Bool.eq_false_iff.mpr c66
       subst c66
       rw [if_neg (show ¬ (false = true) by decide)] at H
       have HC67 := Aside0.mk H
       clear H
       go_step
       go_step
       go_step
       go_step
       go_step
       exact lw_.seg1 k A0 c0 l0 A1 c1 l1 a2 a3 A4 c4 l4 a5 r w HTab_ HR_ hu37 HR0 HC0 HR1 HC1 HR4 HC4 kj6 HJ6 t391 t392 t399 t400 t405 t409 t410 t415 t419 v393 wc HO_13 HB kj23 HJ23 HC67

end Go.Proofs.YtbhnpccbjgbcbaaGreatDoor.QT
