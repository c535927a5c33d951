import Derived.Test.YtbhnpccbjgbcbaaGreatDoorQDx15s1
namespace Go.Proofs.YtbhnpccbjgbcbaaGreatDoor.QD
open Go.Proofs.YtbhnpccbjgbcbaaGreatDoor.X Go.RowKit Go.Proofs.YtbhnpccbjgbcbaaGreatDoorW.PrintWords Go.Proofs.YtbhnpccbjgbcbaaGreatDoorW.PrintLast Go.Proofs.YtbhnpccbjgbcbaaGreatDoorW.PrintMore
attribute [local go_sem] max2_int min2_int max_two min_two max_three min_three max_four min_four
set_option linter.unusedVariables false
set_option linter.unusedSimpArgs false
set_option maxHeartbeats 8000000 in
set_option maxRecDepth 100000 in
theorem lw_.calls (k : Nat) (A0 : Option Addr) (c0 : Nat) (l0 : List Int) (A1 : Option Addr) (c1 : Nat) (l1 : List Int) (r : Bool) (w : World) (hr0 : Kd.C (Kd.int .u8) w A0 l0.length l0) (hc0 : l0.length ≤ c0) (hr1 : Kd.C (Kd.int .u8) w A1 l1.length l1) (hc1 : l1.length ≤ c1) (h : lw_.f k l0 l1 = some r) (hR_ : r = true) (hT_ : Go.Proofs.YtbhnpccbjgbcbaaGreatDoor.XText.T2 w) :
  Calls Tryz.prog 4 #[.slice A0 l0.length c0, .slice A1 l1.length c1] w fun e w' => e = .returned (.bool r) ∧ Below w.heap.size w w' := by
 have HTab_ := Aside0.mk hT_
 clear hT_
 have HR_ := Aside0.mk hR_
 clear hR_
 have hu37 := Tryz.underlying37
 have HR0 := Aside0.mk hr0
 have HC0 := Aside0.mk hc0
 clear hr0 hc0
 have HR1 := Aside0.mk hr1
 have HC1 := Aside0.mk hc1
 clear hr1 hc1
 have HB := Aside0.mk (Below.refl w.heap.size w)
 have H := h
 unfold lw_.f at H
 clear h
 replace H := Option.bind_eq_some_iff.mp H
 obtain ⟨t572, A30, H⟩ := H
 (try dsimp only at H)
 have A3 := Aside0.mk A30
 clear A30
 by_cases c4 : t572 = true
 ·subst c4
  rw [if_pos rfl] at H
  obtain rfl := Option.some.inj H
  go_enter Tryz.func4, Tryz.ntmps4
  go_wp2_with (first | ((with_reducible refine gate_callee (f := 32) rfl ?_); refine goesL_ (some 91) rfl rfl Tryz.func32 (by kernel_rfl) rfl #[.slice A0 l0.length c0, .slice A1 l1.length c1] rfl am_ ?_; (with_reducible refine (laws_big.calls _ _ l0 _ _ l1 true _ ?side1 ?side2 ?side3 ?side4 A3.out).mono ?_); (case side1 => exact c_to HR0); (case side2 => exact HC0.out); (case side3 => exact c_to HR1); (case side4 => exact HC1.out); rintro e w' ⟨rfl, ⟨nd, rfl⟩⟩; refine ⟨_, rfl, ?_⟩))
  go_ret
  exact ⟨rtE_, below_to HB⟩
 replace c4 := Bool.eq_false_iff.mpr c4
 subst c4
 rw [if_neg ft_] at H
 replace H := Option.bind_eq_some_iff.mp H
 obtain ⟨t573, A50, H⟩ := H
 (try dsimp only at H)
 have A5 := Aside0.mk A50
 clear A50
 replace H := Option.bind_eq_some_iff.mp H
 obtain ⟨⟨t576, t577⟩, A60, H⟩ := H
 (try dsimp only at H)
 have A6 := Aside0.mk A60
 clear A60
 replace H := Option.bind_eq_some_iff.mp H
 obtain ⟨⟨t580, t581⟩, A70, H⟩ := H
 (try dsimp only at H)
 have A7 := Aside0.mk A70
 clear A70
 replace H := Option.bind_eq_some_iff.mp H
 obtain ⟨⟨t584, t585, t586⟩, A80, H⟩ := H
 (try dsimp only at H)
 have A8 := Aside0.mk A80
 clear A80
 replace H := Option.bind_eq_some_iff.mp H
 obtain ⟨⟨t587, t588, t589⟩, A90, H⟩ := H
 (try dsimp only at H)
 have A9 := Aside0.mk A90
 clear A90
 replace H := Option.bind_eq_some_iff.mp H
 obtain ⟨⟨t590, t591⟩, A100, H⟩ := H
 (try dsimp only at H)
 have A10 := Aside0.mk A100
 clear A100
 replace H := Option.bind_eq_some_iff.mp H
 obtain ⟨⟨t592, t593⟩, A110, H⟩ := H
 (try dsimp only at H)
 have A11 := Aside0.mk A110
 clear A110
 replace H := Option.bind_eq_some_iff.mp H
 obtain ⟨⟨t594, t595, t596⟩, A120, H⟩ := H
 (try dsimp only at H)
 have A12 := Aside0.mk A120
 clear A120
 replace H := Option.bind_eq_some_iff.mp H
 obtain ⟨⟨t597, t598, t599⟩, A130, H⟩ := H
 (try dsimp only at H)
 have A13 := Aside0.mk A130
 clear A130
 replace H := Option.bind_eq_some_iff.mp H
 obtain ⟨⟨t600, t601⟩, A140, H⟩ := H
 (try dsimp only at H)
 have A14 := Aside0.mk A140
 clear A140
 replace H := Option.bind_eq_some_iff.mp H
 obtain ⟨⟨t602, t603⟩, A150, H⟩ := H
 (try dsimp only at H)
 have A15 := Aside0.mk A150
 clear A150
 replace H := Option.bind_eq_some_iff.mp H
 obtain ⟨⟨t604, t605⟩, A160, H⟩ := H
 (try dsimp only at H)
 have A16 := Aside0.mk A160
 clear A160
 replace H := Option.bind_eq_some_iff.mp H
 obtain ⟨⟨t606, t607⟩, A170, H⟩ := H
 (try dsimp only at H)
 have A17 := Aside0.mk A170
 clear A170
 have HC18 := Aside0.mk H
 clear H
 go_enter Tryz.func4, Tryz.ntmps4
 go_upto_region 16 with (first | ((with_reducible refine gate_callee (f := 32) rfl ?_); refine goesL_ (some 91) rfl rfl Tryz.func32 (by kernel_rfl) rfl #[.slice A0 l0.length c0, .slice A1 l1.length c1] rfl am_ ?_; (with_reducible refine (laws_big.calls _ _ l0 _ _ l1 false _ ?side1 ?side2 ?side3 ?side4 A3.out).mono ?_); (case side1 => exact c_to HR0); (case side2 => exact HC0.out); (case side3 => exact c_to HR1); (case side4 => exact HC1.out); rintro e w' ⟨rfl, ⟨nd, rfl⟩⟩; refine ⟨_, rfl, ?_⟩) | ((with_reducible refine gate_callee (f := 33) rfl ?_); refine goesL_ (some 93) rfl rfl Tryz.func33 (by kernel_rfl) rfl #[.slice A0 l0.length c0] rfl am_ ?_; (with_reducible refine (spec_DrawTimesOfLegs.calls k _ _ l0 t573 _ ?side1 ?side2 A5.out).mono ?_); (case side1 => exact c_to HR0); (case side2 => exact HC0.out); rintro e w19 ⟨v574, rfl, ho0, hb⟩; refine ⟨_, rfl, ?_⟩; have HO575 := Aside0.mk (Kd.R_lower ho0 (below_size (below_to HB))); replace HB := Aside0.mk (below_step (below_to HB) hb); (try clear hb); (try clear ho0); obtain ⟨Ao20, co20, eo20⟩ := Kd.R_slice HO575.out; subst eo20) | ((with_reducible refine gate_callee (f := 5) rfl ?_); refine goesL_ (some 96) rfl rfl Tryz.func5 (by kernel_rfl) rfl #[.slice Ao20 t573.length co20] rfl am_ ?_; (with_reducible refine (impl_TimesOfLegs.calls k _ _ t573 t576 t577 _ ?side1 ?side2 A6.out).mono ?_); (case side1 => exact cR_ HO575); (case side2 => exact (Kd.R_reads' HO575.out).2.1); rintro e w21 ⟨v578, rfl, ho0, hb⟩; refine ⟨_, rfl, ?_⟩; replace HO575 := Aside0.mk (Kd.R_below (kd_to HO575) hb); have HO579 := Aside0.mk (Kd.S_lower ho0 (below_size (below_to HB))); replace HB := Aside0.mk (below_step (below_to HB) hb); (try clear hb); (try clear ho0)) | ((with_reducible refine gate_callee (f := 6) rfl ?_); refine goesL_ (some 101) rfl rfl Tryz.func6 (by kernel_rfl) rfl #[.slice Ao20 t573.length co20] rfl am_ ?_; (with_reducible refine (spec_TimesOfLegs.calls k _ _ t573 t580 t581 _ ?side1 ?side2 A7.out).mono ?_); (case side1 => exact cR_ HO575); (case side2 => exact (Kd.R_reads' HO575.out).2.1); rintro e w22 ⟨v582, rfl, ho0, hb⟩; refine ⟨_, rfl, ?_⟩; have n0_ := Aside0.mk (Kd.R_below (kd_to HO575) hb); have n1_ := Aside0.mk (Kd.S_elder' (sd_to HO579) (Kd.S_base ho0) hb); have n2_ := Aside0.mk (Kd.S_lower (Kd.S_new' ho0 (Kd.S_lt (sd_to HO579))) (below_size (below_to HB))); have n3_ := Aside0.mk (below_step (below_to HB) hb); clear HO575; clear HO579; clear HB; have HO575 := n0_; have HO579 := n1_; have HO583 := n2_; have HB := n3_; clear n0_ n1_ n2_ n3_; (try clear hb); (try clear ho0)) | ((with_reducible refine gate_callee (f := 7) rfl ?_); refine goesL_ (some 106) rfl rfl Tryz.func7 (by kernel_rfl) rfl #[.slice Ao20 t573.length co20] rfl am_ ?_; (with_reducible refine (impl_TimeOfLegs.calls k _ _ t573 t584 t585 t586 _ ?side1 ?side2 A8.out).mono ?_); (case side1 => exact cR_ HO575); (case side2 => exact (Kd.R_reads' HO575.out).2.1); rintro e w23 ⟨rfl, hb⟩; refine ⟨_, rfl, ?_⟩; replace HO575 := Aside0.mk (Kd.R_below (kd_to HO575) hb); replace HO579 := Aside0.mk (Kd.S_below (sd_to HO579) hb); replace HO583 := Aside0.mk (Kd.S_below (sd_to HO583) hb); replace HB := Aside0.mk (below_step (below_to HB) hb); (try clear hb)) | ((with_reducible refine gate_callee (f := 8) rfl ?_); refine goesL_ (some 112) rfl rfl Tryz.func8 (by kernel_rfl) rfl #[.slice Ao20 t573.length co20] rfl am_ ?_; (with_reducible refine (spec_TimeOfLegs.calls k _ _ t573 t587 t588 t589 _ ?side1 ?side2 A9.out).mono ?_); (case side1 => exact cR_ HO575); (case side2 => exact (Kd.R_reads' HO575.out).2.1); rintro e w24 ⟨rfl, hb⟩; refine ⟨_, rfl, ?_⟩; replace HO575 := Aside0.mk (Kd.R_below (kd_to HO575) hb); replace HO579 := Aside0.mk (Kd.S_below (sd_to HO579) hb); replace HO583 := Aside0.mk (Kd.S_below (sd_to HO583) hb); replace HB := Aside0.mk (below_step (below_to HB) hb); (try clear hb)) | ((with_reducible refine gate_callee (f := 9) rfl ?_); refine goesL_ (some 118) rfl rfl Tryz.func9 (by kernel_rfl) rfl #[.slice Ao20 t573.length co20] rfl am_ ?_; (with_reducible refine (impl_LongOfLegs.calls k _ _ t573 t590 t591 _ ?side1 ?side2 A10.out).mono ?_); (case side1 => exact cR_ HO575); (case side2 => exact (Kd.R_reads' HO575.out).2.1); rintro e w25 ⟨rfl, hb⟩; refine ⟨_, rfl, ?_⟩; replace HO575 := Aside0.mk (Kd.R_below (kd_to HO575) hb); replace HO579 := Aside0.mk (Kd.S_below (sd_to HO579) hb); replace HO583 := Aside0.mk (Kd.S_below (sd_to HO583) hb); replace HB := Aside0.mk (below_step (below_to HB) hb); (try clear hb)) | ((with_reducible refine gate_callee (f := 10) rfl ?_); refine goesL_ (some 123) rfl rfl Tryz.func10 (by kernel_rfl) rfl #[.slice Ao20 t573.length co20] rfl am_ ?_; (with_reducible refine (spec_LongOfLegs.calls k _ _ t573 t592 t593 _ ?side1 ?side2 A11.out).mono ?_); (case side1 => exact cR_ HO575); (case side2 => exact (Kd.R_reads' HO575.out).2.1); rintro e w26 ⟨rfl, hb⟩; refine ⟨_, rfl, ?_⟩; replace HO575 := Aside0.mk (Kd.R_below (kd_to HO575) hb); replace HO579 := Aside0.mk (Kd.S_below (sd_to HO579) hb); replace HO583 := Aside0.mk (Kd.S_below (sd_to HO583) hb); replace HB := Aside0.mk (below_step (below_to HB) hb); (try clear hb)) | ((with_reducible refine gate_callee (f := 11) rfl ?_); refine goesL_ (some 128) rfl rfl Tryz.func11 (by kernel_rfl) rfl #[.slice Ao20 t573.length co20] rfl am_ ?_; (with_reducible refine (impl_MeanSpeed.calls k _ _ t573 t594 t595 t596 _ ?side1 ?side2 A12.out).mono ?_); (case side1 => exact cR_ HO575); (case side2 => exact (Kd.R_reads' HO575.out).2.1); rintro e w27 ⟨rfl, hb⟩; refine ⟨_, rfl, ?_⟩; replace HO575 := Aside0.mk (Kd.R_below (kd_to HO575) hb); replace HO579 := Aside0.mk (Kd.S_below (sd_to HO579) hb); replace HO583 := Aside0.mk (Kd.S_below (sd_to HO583) hb); replace HB := Aside0.mk (below_step (below_to HB) hb); (try clear hb)) | ((with_reducible refine gate_callee (f := 12) rfl ?_); refine goesL_ (some 134) rfl rfl Tryz.func12 (by kernel_rfl) rfl #[.slice Ao20 t573.length co20] rfl am_ ?_; (with_reducible refine (spec_MeanSpeed.calls k _ _ t573 t597 t598 t599 _ ?side1 ?side2 A13.out).mono ?_); (case side1 => exact cR_ HO575); (case side2 => exact (Kd.R_reads' HO575.out).2.1); rintro e w28 ⟨rfl, hb⟩; refine ⟨_, rfl, ?_⟩; replace HO575 := Aside0.mk (Kd.R_below (kd_to HO575) hb); replace HO579 := Aside0.mk (Kd.S_below (sd_to HO579) hb); replace HO583 := Aside0.mk (Kd.S_below (sd_to HO583) hb); replace HB := Aside0.mk (below_step (below_to HB) hb); (try clear hb)) | ((with_reducible refine gate_callee (f := 13) rfl ?_); refine goesL_ (some 140) rfl rfl Tryz.func13 (by kernel_rfl) rfl #[.slice Ao20 t573.length co20] rfl am_ ?_; (with_reducible refine (impl_SlowestLeg.calls k _ _ t573 t600 t601 _ ?side1 ?side2 A14.out).mono ?_); (case side1 => exact cR_ HO575); (case side2 => exact (Kd.R_reads' HO575.out).2.1); rintro e w29 ⟨rfl, hb⟩; refine ⟨_, rfl, ?_⟩; replace HO575 := Aside0.mk (Kd.R_below (kd_to HO575) hb); replace HO579 := Aside0.mk (Kd.S_below (sd_to HO579) hb); replace HO583 := Aside0.mk (Kd.S_below (sd_to HO583) hb); replace HB := Aside0.mk (below_step (below_to HB) hb); (try clear hb)) | ((with_reducible refine gate_callee (f := 14) rfl ?_); refine goesL_ (some 145) rfl rfl Tryz.func14 (by kernel_rfl) rfl #[.slice Ao20 t573.length co20] rfl am_ ?_; (with_reducible refine (spec_SlowestLeg.calls k _ _ t573 t602 t603 _ ?side1 ?side2 A15.out).mono ?_); (case side1 => exact cR_ HO575); (case side2 => exact (Kd.R_reads' HO575.out).2.1); rintro e w30 ⟨rfl, hb⟩; refine ⟨_, rfl, ?_⟩; replace HO575 := Aside0.mk (Kd.R_below (kd_to HO575) hb); replace HO579 := Aside0.mk (Kd.S_below (sd_to HO579) hb); replace HO583 := Aside0.mk (Kd.S_below (sd_to HO583) hb); replace HB := Aside0.mk (below_step (below_to HB) hb); (try clear hb)) | ((with_reducible refine gate_callee (f := 15) rfl ?_); refine goesL_ (some 150) rfl rfl Tryz.func15 (by kernel_rfl) rfl #[.slice Ao20 t573.length co20] rfl am_ ?_; (with_reducible refine (impl_LegsText.calls k _ _ t573 t604 t605 _ ?side1 ?side2 A16.out ?sidet).mono ?_); (case sidet => refine Go.Proofs.YtbhnpccbjgbcbaaGreatDoor.XText.T1.on (w := w) (Go.Proofs.YtbhnpccbjgbcbaaGreatDoor.XText.T2.to1 HTab_.out) ?_; repeat (first | (with_reducible first | exact HB.out | exact Below.refl _ _ | apply below_alloc | apply pw_below_drewN | apply below_drew1 | refine below_set ?_ GE619.out) | exact HB.out | exact Below.refl _ _)); (case side1 => exact cR_ HO575); (case side2 => exact (Kd.R_reads' HO575.out).2.1); rintro e w31 ⟨rfl, hb⟩; refine ⟨_, rfl, ?_⟩; replace HO575 := Aside0.mk (Kd.R_below (kd_to HO575) hb); replace HO579 := Aside0.mk (Kd.S_below (sd_to HO579) hb); replace HO583 := Aside0.mk (Kd.S_below (sd_to HO583) hb); replace HB := Aside0.mk (below_step (below_to HB) hb); (try clear hb)) | ((with_reducible refine gate_callee (f := 16) rfl ?_); refine goesL_ (some 155) rfl rfl Tryz.func16 (by kernel_rfl) rfl #[.slice Ao20 t573.length co20] rfl am_ ?_; (with_reducible refine (spec_LegsText.calls k _ _ t573 t606 t607 _ ?side1 ?side2 A17.out).mono ?_); (case side1 => exact cR_ HO575); (case side2 => exact (Kd.R_reads' HO575.out).2.1); rintro e w32 ⟨rfl, hb⟩; refine ⟨_, rfl, ?_⟩; replace HO575 := Aside0.mk (Kd.R_below (kd_to HO575) hb); replace HO579 := Aside0.mk (Kd.S_below (sd_to HO579) hb); replace HO583 := Aside0.mk (Kd.S_below (sd_to HO583) hb); replace HB := Aside0.mk (below_step (below_to HB) hb); (try clear hb)))
 (try simp only [Act.put, List.setIfInBounds_toArray, List.set_cons_zero, List.set_cons_succ])
 go_cut [264] from 100000 (fun v264 wc => ∃ (kq : Nat) (x264_17 : Bool), v264 = .bool x264_17 ∧ Aside0 (lw_.j0 kq l1 t573 t576 t577 t584 t585 t590 t594 t595 t600 t604 x264_17 = some r) ∧ Aside0 (kq ≤ k) ∧ Aside0 (Kd.R k37 37 wc w.heap.size (fun _ => True) (.slice Ao20 t573.length co20) t573) ∧ Aside0 (Kd.S (Kd.slice 3 (Kd.int .i64)) 23 wc w.heap.size (fun _ => True) v578 t576) ∧ Aside0 (Below w.heap.size w wc))
 case first =>
  (try conv => arg 2; dsimp only [List.append_eq, List.cons_append, List.nil_append])
  have H := HC18.out
  clear HC18
  by_cases c33 : (t577 != t581) = true
  ·rw [if_pos c33] at H
   have c33b0 : (t577 != t581) = true := c33
   (try (have c33b1 : decide (t577 = t581) = false := by simpa using c33))
   (try (have c33b2 : (t577 == t581) = false := by simpa using c33))
   (try (have c33b3 : ¬ (t577 = t581) := by simpa using c33))
   clear c33
   (first | rw [c33b0] | (simp only [i64_w, i32_w]; rw [c33b0]) | skip)
   exact absurd H (by rw [HR_.out]; cases k <;> simp [lw_.j0])
  rw [if_neg c33] at H
  have c33b0 : (t577 != t581) = false := by simpa using c33
  (try (have c33b1 : decide (t577 = t581) = true := by simpa using c33))
  (try (have c33b2 : (t577 == t581) = true := by simpa using c33))
  clear c33
  (first | rw [c33b0] | (simp only [i64_w, i32_w]; rw [c33b0]) | skip)
  replace H := Option.bind_eq_some_iff.mp H
  obtain ⟨t608, A340, H⟩ := H
  (try dsimp only at H)
  have A34 := Aside0.mk A340
  clear A340
  by_cases c35 : t608 = true
  rotate_left
  ·replace c35 := Bool.eq_false_iff.mpr c35
   subst c35
   rw [if_neg ft_] at H
   exact absurd H (by rw [HR_.out]; cases k <;> simp [lw_.j0])
  subst c35
  rw [if_pos rfl] at H
  by_cases c36 : (t586 != t589) = true
  ·rw [if_pos c36] at H
   have c36b0 : (t586 != t589) = true := c36
   (try (have c36b1 : decide (t586 = t589) = false := by simpa using c36))
   (try (have c36b2 : (t586 == t589) = false := by simpa using c36))
   (try (have c36b3 : ¬ (t586 = t589) := by simpa using c36))
   clear c36
   exact absurd H (by rw [HR_.out]; cases k <;> simp [lw_.j0])
  rw [if_neg c36] at H
  have c36b0 : (t586 != t589) = false := by simpa using c36
  (try (have c36b1 : decide (t586 = t589) = true := by simpa using c36))
  (try (have c36b2 : (t586 == t589) = true := by simpa using c36))
  clear c36
  by_cases c37 : t584 = t587
  rotate_left
  ·rw [if_neg c37] at H
   have c37b0 := beq_eq_false_iff_ne.mpr c37
   have c37b1 := bne_iff_ne.mpr c37
   exact absurd H (by rw [HR_.out]; cases k <;> simp [lw_.j0])
  rw [if_pos c37] at H
  have c37b0 := beq_iff_eq.mpr c37
  have c37b1 := bne_eq_false_iff_eq.mpr c37
  clear c37
  by_cases c38 : t585 = t588
  rotate_left
  ·rw [if_neg c38] at H
   have c38b0 := beq_eq_false_iff_ne.mpr c38
   have c38b1 := bne_iff_ne.mpr c38
   exact absurd H (by rw [HR_.out]; cases k <;> simp [lw_.j0])
  rw [if_pos c38] at H
  have c38b0 := beq_iff_eq.mpr c38
  have c38b1 := bne_eq_false_iff_eq.mpr c38
  clear c38
  by_cases c39 : (t591 != t593) = true
  ·rw [if_pos c39] at H
   have c39b0 : (t591 != t593) = true := c39
   (try (have c39b1 : decide (t591 = t593) = false := by simpa using c39))
   (try (have c39b2 : (t591 == t593) = false := by simpa using c39))
   (try (have c39b3 : ¬ (t591 = t593) := by simpa using c39))
   clear c39
   exact absurd H (by rw [HR_.out]; cases k <;> simp [lw_.j0])
  rw [if_neg c39] at H
  have c39b0 : (t591 != t593) = false := by simpa using c39
  (try (have c39b1 : decide (t591 = t593) = true := by simpa using c39))
  (try (have c39b2 : (t591 == t593) = true := by simpa using c39))
  clear c39
  by_cases c40 : t590 = t592
  rotate_left
  ·rw [if_neg c40] at H
   have c40b0 := beq_eq_false_iff_ne.mpr c40
   have c40b1 := bne_iff_ne.mpr c40
   exact absurd H (by rw [HR_.out]; cases k <;> simp [lw_.j0])
  rw [if_pos c40] at H
  have c40b0 := beq_iff_eq.mpr c40
  have c40b1 := bne_eq_false_iff_eq.mpr c40
  clear c40
  by_cases c41 : (t596 != t599) = true
  ·rw [if_pos c41] at H
   have c41b0 : (t596 != t599) = true := c41
   (try (have c41b1 : decide (t596 = t599) = false := by simpa using c41))
   (try (have c41b2 : (t596 == t599) = false := by simpa using c41))
   (try (have c41b3 : ¬ (t596 = t599) := by simpa using c41))
   clear c41
   exact absurd H (by rw [HR_.out]; cases k <;> simp [lw_.j0])
  rw [if_neg c41] at H
  have c41b0 : (t596 != t599) = false := by simpa using c41
  (try (have c41b1 : decide (t596 = t599) = true := by simpa using c41))
  (try (have c41b2 : (t596 == t599) = true := by simpa using c41))
  clear c41
  by_cases c42 : t594 = t597
  rotate_left
  ·rw [if_neg c42] at H
   have c42b0 := beq_eq_false_iff_ne.mpr c42
   have c42b1 := bne_iff_ne.mpr c42
   exact absurd H (by rw [HR_.out]; cases k <;> simp [lw_.j0])
  rw [if_pos c42] at H
  have c42b0 := beq_iff_eq.mpr c42
  have c42b1 := bne_eq_false_iff_eq.mpr c42
  clear c42
  by_cases c43 : t595 = t598
  rotate_left
  ·rw [if_neg c43] at H
   have c43b0 := beq_eq_false_iff_ne.mpr c43
   have c43b1 := bne_iff_ne.mpr c43
   exact absurd H (by rw [HR_.out]; cases k <;> simp [lw_.j0])
  rw [if_pos c43] at H
  have c43b0 := beq_iff_eq.mpr c43
  have c43b1 := bne_eq_false_iff_eq.mpr c43
  clear c43
  by_cases c44 : (t601 != t603) = true
  ·rw [if_pos c44] at H
   have c44b0 : (t601 != t603) = true := c44
   (try (have c44b1 : decide (t601 = t603) = false := by simpa using c44))
   (try (have c44b2 : (t601 == t603) = false := by simpa using c44))
   (try (have c44b3 : ¬ (t601 = t603) := by simpa using c44))
   clear c44
   exact absurd H (by rw [HR_.out]; cases k <;> simp [lw_.j0])
  rw [if_neg c44] at H
  have c44b0 : (t601 != t603) = false := by simpa using c44
  (try (have c44b1 : decide (t601 = t603) = true := by simpa using c44))
  (try (have c44b2 : (t601 == t603) = true := by simpa using c44))
  clear c44
  by_cases c45 : t600 = t602
  rotate_left
  ·rw [if_neg c45] at H
   have c45b0 := beq_eq_false_iff_ne.mpr c45
   have c45b1 := bne_iff_ne.mpr c45
   exact absurd H (by rw [HR_.out]; cases k <;> simp [lw_.j0])
  rw [if_pos c45] at H
  have c45b0 := beq_iff_eq.mpr c45
  have c45b1 := bne_eq_false_iff_eq.mpr c45
  clear c45
  by_cases c46 : (t605 != t607) = true
  ·rw [if_pos c46] at H
   have c46b0 : (t605 != t607) = true := c46
   (try (have c46b1 : decide (t605 = t607) = false := by simpa using c46))
   (try (have c46b2 : (t605 == t607) = false := by simpa using c46))
   (try (have c46b3 : ¬ (t605 = t607) := by simpa using c46))
   clear c46
   exact absurd H (by rw [HR_.out]; cases k <;> simp [lw_.j0])
  rw [if_neg c46] at H
  have c46b0 : (t605 != t607) = false := by simpa using c46
  (try (have c46b1 : decide (t605 = t607) = true := by simpa using c46))
  (try (have c46b2 : (t605 == t607) = true := by simpa using c46))
  clear c46
  by_cases c47 : t604.toList = t606.toList
  rotate_left
  ·rw [if_neg c47] at H
   have c47b0 := beq_eq_false_iff_ne.mpr c47
   have c47b1 := bne_iff_ne.mpr c47
   exact absurd H (by rw [HR_.out]; cases k <;> simp [lw_.j0])
  rw [if_pos c47] at H
  have c47b0 := beq_iff_eq.mpr c47
  have c47b1 := bne_eq_false_iff_eq.mpr c47
  clear c47
  replace H := Option.bind_eq_some_iff.mp H
  obtain ⟨t609, A480, H⟩ := H
  (try dsimp only at H)
  have A48 := Aside0.mk A480
  clear A480
  by_cases c49 : (t577 != t609) = true
  ·rw [if_pos c49] at H
   have c49b0 : (t577 != t609) = true := c49
   (try (have c49b1 : decide (t577 = t609) = false := by simpa using c49))
   (try (have c49b2 : (t577 == t609) = false := by simpa using c49))
   (try (have c49b3 : ¬ (t577 = t609) := by simpa using c49))
   clear c49
   exact absurd H (by rw [HR_.out]; cases k <;> simp [lw_.j0])
  rw [if_neg c49] at H
  have c49b0 : (t577 != t609) = false := by simpa using c49
  (try (have c49b1 : decide (t577 = t609) = true := by simpa using c49))
  (try (have c49b2 : (t577 == t609) = true := by simpa using c49))
  clear c49
  replace H := Option.bind_eq_some_iff.mp H
  obtain ⟨t610, A500, H⟩ := H
  (try dsimp only at H)
  have A50 := Aside0.mk A500
  have eqA_ := Option.some.inj (A48.out.symm.trans A50.out)
  subst eqA_
  clear A500
  replace H := Option.bind_eq_some_iff.mp H
  obtain ⟨t611, A510, H⟩ := H
  (try dsimp only at H)
  have A51 := Aside0.mk A510
  clear A510
  by_cases c52 : (t609 != t611) = true
  ·rw [if_pos c52] at H
   have c52b0 : (t609 != t611) = true := c52
   (try (have c52b1 : decide (t609 = t611) = false := by simpa using c52))
   (try (have c52b2 : (t609 == t611) = false := by simpa using c52))
   (try (have c52b3 : ¬ (t609 = t611) := by simpa using c52))
   clear c52
   exact absurd H (by rw [HR_.out]; cases k <;> simp [lw_.j0])
  rw [if_neg c52] at H
  have c52b0 : (t609 != t611) = false := by simpa using c52
  (try (have c52b1 : decide (t609 = t611) = true := by simpa using c52))
  (try (have c52b2 : (t609 == t611) = true := by simpa using c52))
  clear c52
  by_cases c53 : (t586 != t577) = true
  ·rw [if_pos c53] at H
   have c53b0 : (t586 != t577) = true := c53
   (try (have c53b1 : decide (t586 = t577) = false := by simpa using c53))
   (try (have c53b2 : (t586 == t577) = false := by simpa using c53))
   (try (have c53b3 : ¬ (t586 = t577) := by simpa using c53))
   clear c53
   exact absurd H (by rw [HR_.out]; cases k <;> simp [lw_.j0])
  rw [if_neg c53] at H
  have c53b0 : (t586 != t577) = false := by simpa using c53
  (try (have c53b1 : decide (t586 = t577) = true := by simpa using c53))
  (try (have c53b2 : (t586 == t577) = true := by simpa using c53))
  clear c53
  by_cases c54 : (t591 != t577) = true
  ·rw [if_pos c54] at H
   have c54b0 : (t591 != t577) = true := c54
   (try (have c54b1 : decide (t591 = t577) = false := by simpa using c54))
   (try (have c54b2 : (t591 == t577) = false := by simpa using c54))
   (try (have c54b3 : ¬ (t591 = t577) := by simpa using c54))
   clear c54
   exact absurd H (by rw [HR_.out]; cases k <;> simp [lw_.j0])
  rw [if_neg c54] at H
  have c54b0 : (t591 != t577) = false := by simpa using c54
  (try (have c54b1 : decide (t591 = t577) = true := by simpa using c54))
  (try (have c54b2 : (t591 == t577) = true := by simpa using c54))
  clear c54
  by_cases c55 : (t596 != t577) = true
  ·rw [if_pos c55] at H
   have c55b0 : (t596 != t577) = true := c55
   (try (have c55b1 : decide (t596 = t577) = false := by simpa using c55))
   (try (have c55b2 : (t596 == t577) = false := by simpa using c55))
   (try (have c55b3 : ¬ (t596 = t577) := by simpa using c55))
   clear c55
   exact absurd H (by rw [HR_.out]; cases k <;> simp [lw_.j0])
  ·rw [if_neg c55] at H
   have c55b0 : (t596 != t577) = false := by simpa using c55
   (try (have c55b1 : decide (t596 = t577) = true := by simpa using c55))
   (try (have c55b2 : (t596 == t577) = true := by simpa using c55))
   clear c55
   by_cases c56 : (t601 != t577) = true
   ·rw [if_pos c56] at H
    have c56b0 : (t601 != t577) = true := c56
    (try (have c56b1 : decide (t601 = t577) = false := by simpa using c56))
    (try (have c56b2 : (t601 == t577) = false := by simpa using c56))
    (try (have c56b3 : ¬ (t601 = t577) := by simpa using c56))
    clear c56
    exact absurd H (by rw [HR_.out]; cases k <;> simp [lw_.j0])
   ·rw [if_neg c56] at H
    have c56b0 : (t601 != t577) = false := by simpa using c56
    (try (have c56b1 : decide (t601 = t577) = true := by simpa using c56))
    (try (have c56b2 : (t601 == t577) = true := by simpa using c56))
    clear c56
    have H' := Aside0.mk H
    clear H
    obtain ⟨Ao57, co57, eo57⟩ := Kd.S_slice HO579.out
    subst eo57
    obtain ⟨Ao58, co58, eo58⟩ := Kd.S_slice HO583.out
    subst eo58
    go_wp2_with (first | (go_at_call 17; (with_reducible refine (laws_yRows.calls k _ _ t576 _ _ t580 true _ ?side1 ?side2 ?side3 ?side4 A34.out).mono ?_); (case side1 => exact cS_ HO579); (case side2 => exact (Kd.S_reads' HO579.out).2.1); (case side3 => exact cS_ HO583); (case side4 => exact (Kd.S_reads' HO583.out).2.1); rintro e w' ⟨rfl, ⟨nd, rfl⟩⟩) | (go_at_call 18; (with_reducible refine (impl_AreLegs.calls k _ _ t573 t609 _ ?side1 ?side2 A48.out).mono ?_); (case side1 => exact cR_ HO575); (case side2 => exact (Kd.R_reads' HO575.out).2.1); rintro e w59 ⟨rfl, hb⟩; replace HO575 := Aside0.mk (Kd.R_below (kd_to HO575) hb); replace HO579 := Aside0.mk (Kd.S_below (sd_to HO579) hb); replace HO583 := Aside0.mk (Kd.S_below (sd_to HO583) hb); replace HB := Aside0.mk (below_step (below_to HB) hb); (try clear hb)) | (go_at_call 18; (with_reducible refine (impl_AreLegs.calls k _ _ t573 t609 _ ?side1 ?side2 A50.out).mono ?_); (case side1 => exact cR_ HO575); (case side2 => exact (Kd.R_reads' HO575.out).2.1); rintro e w60 ⟨rfl, hb⟩; replace HO575 := Aside0.mk (Kd.R_below (kd_to HO575) hb); replace HO579 := Aside0.mk (Kd.S_below (sd_to HO579) hb); replace HO583 := Aside0.mk (Kd.S_below (sd_to HO583) hb); replace HB := Aside0.mk (below_step (below_to HB) hb); (try clear hb)) | (go_at_call 19; (with_reducible refine (spec_AreLegs.calls k _ _ t573 t611 _ ?side1 ?side2 A51.out).mono ?_); (case side1 => exact cR_ HO575); (case side2 => exact (Kd.R_reads' HO575.out).2.1); rintro e w61 ⟨rfl, hb⟩; replace HO575 := Aside0.mk (Kd.R_below (kd_to HO575) hb); replace HO579 := Aside0.mk (Kd.S_below (sd_to HO579) hb); replace HO583 := Aside0.mk (Kd.S_below (sd_to HO583) hb); replace HB := Aside0.mk (below_step (below_to HB) hb); (try clear hb)))
    go_meet
    case rel => exact ⟨_, ((t605 != t577)), rt_, H', ⟨by first | omega | exact Nat.le_refl _⟩, ⟨kd_to HO575⟩, ⟨by (with_reducible repeat (first | apply Kd.S_alloc | apply Kd.S_drewN | apply Kd.S_drew)); exact Kd.S_mono HO579.out (fun _ hk => trivial)⟩, ⟨below_to HB⟩⟩
 clear HC18
 (try clear c1); (try clear c4); (try clear c33); (try clear c33b0); (try clear c33b1); (try clear c33b2); (try clear c35); (try clear c36); (try clear c36b0); (try clear c36b1); (try clear c36b2); (try clear c37); (try clear c37b0); (try clear c37b1); (try clear c38); (try clear c38b0); (try clear c38b1); (try clear c39); (try clear c39b0); (try clear c39b1); (try clear c39b2); (try clear c40); (try clear c40b0); (try clear c40b1); (try clear c41); (try clear c41b0); (try clear c41b1); (try clear c41b2); (try clear c42); (try clear c42b0); (try clear c42b1); (try clear c43); (try clear c43b0); (try clear c43b1); (try clear c44); (try clear c44b0); (try clear c44b1); (try clear c44b2); (try clear c45); (try clear c45b0); (try clear c45b1); (try clear c46); (try clear c46b0); (try clear c46b1); (try clear c46b2); (try clear c47); (try clear c47b0); (try clear c47b1); (try clear c49); (try clear c49b0); (try clear c49b1); (try clear c49b2); (try clear c52); (try clear c52b0); (try clear c52b1); (try clear c52b2); (try clear c53); (try clear c53b0); (try clear c53b1); (try clear c53b2); (try clear c54); (try clear c54b0); (try clear c54b1); (try clear c54b2); (try clear c55); (try clear c55b0); (try clear c55b1); (try clear c55b2); (try clear c56); (try clear c56b0); (try clear c56b1); (try clear c56b2)
 obtain ⟨kq, x264_17, rfl, HA, HJ17, HO_5, HO_6, HB⟩ := hcut
 cases kq with
 | zero => exact absurd HA.out (by simp [lw_.j0])
 | succ kj17 =>
  have H := HA.out
  clear HA
  simp only [lw_.j0] at H
  by_cases c62 : x264_17 = true
  ·subst c62
   rw [if_pos rfl] at H
   exact nof_ HR_ H
  ·replace c62 := Bool.eq_false_iff.mpr c62
   subst c62
   rw [if_neg ft_] at H
   have HC63 := Aside0.mk H
   clear H
   go_step
   go_step
   go_step
   go_step
   go_step
   exact lw_.seg1 k l0 A1 c1 l1 r w HTab_ HR_ hu37 HR1 HC1 t573 t576 t577 t584 t585 t590 t594 t595 t600 t604 nd Ao20 co20 v578 wc HO_5 HO_6 HB kj17 HJ17 HC63
end Go.Proofs.YtbhnpccbjgbcbaaGreatDoor.QD
