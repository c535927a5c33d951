-- WRITTEN BY a program of this session (wip/xprint.py, over the kit's print): Lean checks it.
import Derived.Test.YtgjhomhfcifipaaQSx13d
import Derived.Test.YtgjhomhfcifipaaQSx13s1
namespace Go.Proofs.Ytgjhomhfcifipaa.QS
open Go.Proofs.Ytgjhomhfcifipaa.X Go.RowKit Go.Proofs.YtgjhomhfcifipaaW.PrintWords Go.Proofs.YtgjhomhfcifipaaW.PrintLast Go.Proofs.YtgjhomhfcifipaaW.PrintMore
attribute [local go_sem] max2_int min2_int max_two min_two max_three min_three max_four min_four   -- for this text's walks alone
set_option linter.unusedVariables false
set_option linter.unusedSimpArgs false

set_option maxHeartbeats 8000000 in
set_option maxRecDepth 100000 in
theorem laws_FnLegsShared.calls (k : Nat) (A0 : Option Addr) (c0 : Nat) (l0 : List Int) (A1 : Option Addr) (c1 : Nat) (l1 : List Int) (r : Bool) (w : World) (hr0 : Kd.C (Kd.int .u8) w A0 l0.length l0) (hc0 : l0.length ≤ c0) (hr1 : Kd.C (Kd.int .u8) w A1 l1.length l1) (hc1 : l1.length ≤ c1) (h : laws_FnLegsShared.f k l0 l1 = some r) (hR_ : r = true) :
  Calls Try.prog 5 #[.slice A0 l0.length c0, .slice A1 l1.length c1] w fun e w' => e = .returned (.bool r) ∧ Below w.heap.size w w' := by
 have HR_ := Aside0.mk hR_
 clear hR_
 have HR0 := Aside0.mk hr0
 have HC0 := Aside0.mk hc0
 clear hr0 hc0
 have HR1 := Aside0.mk hr1
 have HC1 := Aside0.mk hc1
 clear hr1 hc1
 have HB := Aside0.mk (Below.refl w.heap.size w)
 have H : ((laws_big.f l0 l1).bind fun t431 => (if t431 = true then (some true) else ((spec_DrawNeededSpeed.f k l0).bind fun bt432 => ((impl_NeededSpeed.f k bt432.1 bt432.2.1 bt432.2.2).bind fun bt437 => ((spec_NeededSpeed.f k bt432.1 bt432.2.1 bt432.2.2).bind fun bt440 => (if (bt437.2.2 != bt440.2.2) = true then (laws_FnLegsShared.j0 k l1 bt432.1 bt432.2.1 bt432.2.2 bt437.1 bt437.2.1 bt437.2.2 true) else (if bt437.1 = bt440.1 then (laws_FnLegsShared.j0 k l1 bt432.1 bt432.2.1 bt432.2.2 bt437.1 bt437.2.1 bt437.2.2 (bt437.2.1 != bt440.2.1)) else (laws_FnLegsShared.j0 k l1 bt432.1 bt432.2.1 bt432.2.2 bt437.1 bt437.2.1 bt437.2.2 true)))))))) = some r := h
 clear h
 replace H := Option.bind_eq_some_iff.mp H
 obtain ⟨t431, A30, H⟩ := H
 (try dsimp only at H)
 have A3 := Aside0.mk A30
 clear A30
 by_cases c4 : t431 = true
 ·subst c4
  have H1 : (some true) = some r := by rw [if_pos rfl] at H; exact H
  clear H
  have H := H1
  clear H1
  obtain rfl := Option.some.inj H
  go_enter Try.func5, Try.ntmps5
  go_wp2_with (first | (go_at_call 14; (with_reducible refine (laws_big.calls _ _ l0 _ _ l1 true _ ?side1 ?side2 ?side3 ?side4 A3.out).mono ?_); (case side1 => repeat (first | exact HR0.out | (with_reducible refine Kd.C_alloc ?_ _) | (with_reducible refine Kd.C_drewN ?_ _) | (with_reducible refine Kd.C_drew ?_))); (case side2 => exact HC0.out); (case side3 => repeat (first | exact HR1.out | (with_reducible refine Kd.C_alloc ?_ _) | (with_reducible refine Kd.C_drewN ?_ _) | (with_reducible refine Kd.C_drew ?_))); (case side4 => exact HC1.out); rintro e w' ⟨rfl, ⟨nd, rfl⟩⟩; (try first | exact ⟨rfl, _, World.drewN_drewN _ _ _⟩ | exact ⟨rfl, _, Eq.trans (World.drewN_drewN _ _ _) (congrArg (World.drewN _) (Nat.add_assoc _ _ _))⟩)))
  repeat (go_quiet (first | (go_at_call 14; (with_reducible refine (laws_big.calls _ _ l0 _ _ l1 true _ ?side1 ?side2 ?side3 ?side4 A3.out).mono ?_); (case side1 => repeat (first | exact HR0.out | (with_reducible refine Kd.C_alloc ?_ _) | (with_reducible refine Kd.C_drewN ?_ _) | (with_reducible refine Kd.C_drew ?_))); (case side2 => exact HC0.out); (case side3 => repeat (first | exact HR1.out | (with_reducible refine Kd.C_alloc ?_ _) | (with_reducible refine Kd.C_drewN ?_ _) | (with_reducible refine Kd.C_drew ?_))); (case side4 => exact HC1.out); rintro e w' ⟨rfl, ⟨nd, rfl⟩⟩; (try first | exact ⟨rfl, _, World.drewN_drewN _ _ _⟩ | exact ⟨rfl, _, Eq.trans (World.drewN_drewN _ _ _) (congrArg (World.drewN _) (Nat.add_assoc _ _ _))⟩))); try go_wp2_with (first | (go_at_call 14; (with_reducible refine (laws_big.calls _ _ l0 _ _ l1 true _ ?side1 ?side2 ?side3 ?side4 A3.out).mono ?_); (case side1 => repeat (first | exact HR0.out | (with_reducible refine Kd.C_alloc ?_ _) | (with_reducible refine Kd.C_drewN ?_ _) | (with_reducible refine Kd.C_drew ?_))); (case side2 => exact HC0.out); (case side3 => repeat (first | exact HR1.out | (with_reducible refine Kd.C_alloc ?_ _) | (with_reducible refine Kd.C_drewN ?_ _) | (with_reducible refine Kd.C_drew ?_))); (case side4 => exact HC1.out); rintro e w' ⟨rfl, ⟨nd, rfl⟩⟩; (try first | exact ⟨rfl, _, World.drewN_drewN _ _ _⟩ | exact ⟨rfl, _, Eq.trans (World.drewN_drewN _ _ _) (congrArg (World.drewN _) (Nat.add_assoc _ _ _))⟩))))
  go_ret
  exact ⟨by first | rfl | (simp [errW_none, errW_some] <;> rfl) | (simp [*, errW_none, errW_some] <;> rfl), by repeat (first | (with_reducible first | exact HB.out | apply below_alloc | apply pw_below_drewN | apply below_drew1) | exact HB.out)⟩
 ·replace c4 := Bool.eq_false_iff.mpr c4
  subst c4
  have H1 : ((spec_DrawNeededSpeed.f k l0).bind fun bt432 => ((impl_NeededSpeed.f k bt432.1 bt432.2.1 bt432.2.2).bind fun bt437 => ((spec_NeededSpeed.f k bt432.1 bt432.2.1 bt432.2.2).bind fun bt440 => (if (bt437.2.2 != bt440.2.2) = true then (laws_FnLegsShared.j0 k l1 bt432.1 bt432.2.1 bt432.2.2 bt437.1 bt437.2.1 bt437.2.2 true) else (if bt437.1 = bt440.1 then (laws_FnLegsShared.j0 k l1 bt432.1 bt432.2.1 bt432.2.2 bt437.1 bt437.2.1 bt437.2.2 (bt437.2.1 != bt440.2.1)) else (laws_FnLegsShared.j0 k l1 bt432.1 bt432.2.1 bt432.2.2 bt437.1 bt437.2.1 bt437.2.2 true)))))) = some r := by rw [if_neg (show ¬ (false = true) by decide)] at H; exact H
  clear H
  have H := H1
  clear H1
  replace H := Option.bind_eq_some_iff.mp H
  obtain ⟨⟨t432, t433, t434⟩, A50, H⟩ := H
  (try dsimp only at H)
  have A5 := Aside0.mk A50
  clear A50
  replace H := Option.bind_eq_some_iff.mp H
  obtain ⟨⟨t437, t438, t439⟩, A60, H⟩ := H
  (try dsimp only at H)
  have A6 := Aside0.mk A60
  clear A60
  replace H := Option.bind_eq_some_iff.mp H
  obtain ⟨⟨t440, t441, t442⟩, A70, H⟩ := H
  replace H : (if (t439 != t442) = true then (laws_FnLegsShared.j0 k l1 t432 t433 t434 t437 t438 t439 true) else (if t437 = t440 then (laws_FnLegsShared.j0 k l1 t432 t433 t434 t437 t438 t439 (t438 != t441)) else (laws_FnLegsShared.j0 k l1 t432 t433 t434 t437 t438 t439 true))) = some r := H
  have A7 := Aside0.mk A70
  clear A70
  have HC8 := Aside0.mk H
  clear H
  go_enter Try.func5, Try.ntmps5
  go_upto_region 6 with (first | (go_at_call 14; (with_reducible refine (laws_big.calls _ _ l0 _ _ l1 false _ ?side1 ?side2 ?side3 ?side4 A3.out).mono ?_); (case side1 => repeat (first | exact HR0.out | (with_reducible refine Kd.C_alloc ?_ _) | (with_reducible refine Kd.C_drewN ?_ _) | (with_reducible refine Kd.C_drew ?_))); (case side2 => exact HC0.out); (case side3 => repeat (first | exact HR1.out | (with_reducible refine Kd.C_alloc ?_ _) | (with_reducible refine Kd.C_drewN ?_ _) | (with_reducible refine Kd.C_drew ?_))); (case side4 => exact HC1.out); rintro e w' ⟨rfl, ⟨nd, rfl⟩⟩; (try first | exact ⟨rfl, _, World.drewN_drewN _ _ _⟩ | exact ⟨rfl, _, Eq.trans (World.drewN_drewN _ _ _) (congrArg (World.drewN _) (Nat.add_assoc _ _ _))⟩)) | (go_at_call 15; (with_reducible refine (spec_DrawNeededSpeed.calls k _ _ l0 t432 t433 t434 _ ?side1 ?side2 A5.out).mono ?_); (case side1 => repeat (first | exact HR0.out | (with_reducible refine Kd.C_alloc ?_ _) | (with_reducible refine Kd.C_drewN ?_ _) | (with_reducible refine Kd.C_drew ?_))); (case side2 => exact HC0.out); rintro e w9 ⟨v435, rfl, ho0, hb⟩; have n0_ := Aside0.mk (Kd.R_lower ho0 (below_size (below_to HB))); have n1_ := Aside0.mk (below_step (below_to HB) hb); clear HB; have HO436 := n0_; have HB := n1_; clear n0_ n1_; (try clear hb); (try clear ho0); obtain ⟨Ao10, co10, eo10⟩ := Kd.R_slice HO436.out; subst eo10) | (go_at_call 16; (with_reducible refine (impl_NeededSpeed.calls k _ _ t432 t433 t434 t437 t438 t439 _ ?side1 ?side2 A6.out).mono ?_); (case side1 => repeat (first | exact (Kd.R_reads' HO436.out).2.2 | (with_reducible refine Kd.C_alloc ?_ _) | (with_reducible refine Kd.C_drewN ?_ _) | (with_reducible refine Kd.C_drew ?_))); (case side2 => exact (Kd.R_reads' HO436.out).2.1); rintro e w11 ⟨rfl, hb⟩; have n0_ := Aside0.mk (Kd.R_below (kd_to HO436) hb); have n1_ := Aside0.mk (below_step (below_to HB) hb); clear HO436; clear HB; have HO436 := n0_; have HB := n1_; clear n0_ n1_; (try clear hb)) | (go_at_call 17; (with_reducible refine (spec_NeededSpeed.calls k _ _ t432 t433 t434 t440 t441 t442 _ ?side1 ?side2 A7.out).mono ?_); (case side1 => repeat (first | exact (Kd.R_reads' HO436.out).2.2 | (with_reducible refine Kd.C_alloc ?_ _) | (with_reducible refine Kd.C_drewN ?_ _) | (with_reducible refine Kd.C_drew ?_))); (case side2 => exact (Kd.R_reads' HO436.out).2.1); rintro e w12 ⟨rfl, hb⟩; have n0_ := Aside0.mk (Kd.R_below (kd_to HO436) hb); have n1_ := Aside0.mk (below_step (below_to HB) hb); clear HO436; clear HB; have HO436 := n0_; have HB := n1_; clear n0_ n1_; (try clear hb)))
  repeat (go_quiet (first | (go_at_call 14; (with_reducible refine (laws_big.calls _ _ l0 _ _ l1 false _ ?side1 ?side2 ?side3 ?side4 A3.out).mono ?_); (case side1 => repeat (first | exact HR0.out | (with_reducible refine Kd.C_alloc ?_ _) | (with_reducible refine Kd.C_drewN ?_ _) | (with_reducible refine Kd.C_drew ?_))); (case side2 => exact HC0.out); (case side3 => repeat (first | exact HR1.out | (with_reducible refine Kd.C_alloc ?_ _) | (with_reducible refine Kd.C_drewN ?_ _) | (with_reducible refine Kd.C_drew ?_))); (case side4 => exact HC1.out); rintro e w' ⟨rfl, ⟨nd, rfl⟩⟩; (try first | exact ⟨rfl, _, World.drewN_drewN _ _ _⟩ | exact ⟨rfl, _, Eq.trans (World.drewN_drewN _ _ _) (congrArg (World.drewN _) (Nat.add_assoc _ _ _))⟩)) | (go_at_call 15; (with_reducible refine (spec_DrawNeededSpeed.calls k _ _ l0 t432 t433 t434 _ ?side1 ?side2 A5.out).mono ?_); (case side1 => repeat (first | exact HR0.out | (with_reducible refine Kd.C_alloc ?_ _) | (with_reducible refine Kd.C_drewN ?_ _) | (with_reducible refine Kd.C_drew ?_))); (case side2 => exact HC0.out); rintro e w9 ⟨v435, rfl, ho0, hb⟩; have n0_ := Aside0.mk (Kd.R_lower ho0 (below_size (below_to HB))); have n1_ := Aside0.mk (below_step (below_to HB) hb); clear HB; have HO436 := n0_; have HB := n1_; clear n0_ n1_; (try clear hb); (try clear ho0); obtain ⟨Ao10, co10, eo10⟩ := Kd.R_slice HO436.out; subst eo10) | (go_at_call 16; (with_reducible refine (impl_NeededSpeed.calls k _ _ t432 t433 t434 t437 t438 t439 _ ?side1 ?side2 A6.out).mono ?_); (case side1 => repeat (first | exact (Kd.R_reads' HO436.out).2.2 | (with_reducible refine Kd.C_alloc ?_ _) | (with_reducible refine Kd.C_drewN ?_ _) | (with_reducible refine Kd.C_drew ?_))); (case side2 => exact (Kd.R_reads' HO436.out).2.1); rintro e w11 ⟨rfl, hb⟩; have n0_ := Aside0.mk (Kd.R_below (kd_to HO436) hb); have n1_ := Aside0.mk (below_step (below_to HB) hb); clear HO436; clear HB; have HO436 := n0_; have HB := n1_; clear n0_ n1_; (try clear hb)) | (go_at_call 17; (with_reducible refine (spec_NeededSpeed.calls k _ _ t432 t433 t434 t440 t441 t442 _ ?side1 ?side2 A7.out).mono ?_); (case side1 => repeat (first | exact (Kd.R_reads' HO436.out).2.2 | (with_reducible refine Kd.C_alloc ?_ _) | (with_reducible refine Kd.C_drewN ?_ _) | (with_reducible refine Kd.C_drew ?_))); (case side2 => exact (Kd.R_reads' HO436.out).2.1); rintro e w12 ⟨rfl, hb⟩; have n0_ := Aside0.mk (Kd.R_below (kd_to HO436) hb); have n1_ := Aside0.mk (below_step (below_to HB) hb); clear HO436; clear HB; have HO436 := n0_; have HB := n1_; clear n0_ n1_; (try clear hb))); go_upto_region 6 with (first | (go_at_call 14; (with_reducible refine (laws_big.calls _ _ l0 _ _ l1 false _ ?side1 ?side2 ?side3 ?side4 A3.out).mono ?_); (case side1 => repeat (first | exact HR0.out | (with_reducible refine Kd.C_alloc ?_ _) | (with_reducible refine Kd.C_drewN ?_ _) | (with_reducible refine Kd.C_drew ?_))); (case side2 => exact HC0.out); (case side3 => repeat (first | exact HR1.out | (with_reducible refine Kd.C_alloc ?_ _) | (with_reducible refine Kd.C_drewN ?_ _) | (with_reducible refine Kd.C_drew ?_))); (case side4 => exact HC1.out); rintro e w' ⟨rfl, ⟨nd, rfl⟩⟩; (try first | exact ⟨rfl, _, World.drewN_drewN _ _ _⟩ | exact ⟨rfl, _, Eq.trans (World.drewN_drewN _ _ _) (congrArg (World.drewN _) (Nat.add_assoc _ _ _))⟩)) | (go_at_call 15; (with_reducible refine (spec_DrawNeededSpeed.calls k _ _ l0 t432 t433 t434 _ ?side1 ?side2 A5.out).mono ?_); (case side1 => repeat (first | exact HR0.out | (with_reducible refine Kd.C_alloc ?_ _) | (with_reducible refine Kd.C_drewN ?_ _) | (with_reducible refine Kd.C_drew ?_))); (case side2 => exact HC0.out); rintro e w9 ⟨v435, rfl, ho0, hb⟩; have n0_ := Aside0.mk (Kd.R_lower ho0 (below_size (below_to HB))); have n1_ := Aside0.mk (below_step (below_to HB) hb); clear HB; have HO436 := n0_; have HB := n1_; clear n0_ n1_; (try clear hb); (try clear ho0); obtain ⟨Ao10, co10, eo10⟩ := Kd.R_slice HO436.out; subst eo10) | (go_at_call 16; (with_reducible refine (impl_NeededSpeed.calls k _ _ t432 t433 t434 t437 t438 t439 _ ?side1 ?side2 A6.out).mono ?_); (case side1 => repeat (first | exact (Kd.R_reads' HO436.out).2.2 | (with_reducible refine Kd.C_alloc ?_ _) | (with_reducible refine Kd.C_drewN ?_ _) | (with_reducible refine Kd.C_drew ?_))); (case side2 => exact (Kd.R_reads' HO436.out).2.1); rintro e w11 ⟨rfl, hb⟩; have n0_ := Aside0.mk (Kd.R_below (kd_to HO436) hb); have n1_ := Aside0.mk (below_step (below_to HB) hb); clear HO436; clear HB; have HO436 := n0_; have HB := n1_; clear n0_ n1_; (try clear hb)) | (go_at_call 17; (with_reducible refine (spec_NeededSpeed.calls k _ _ t432 t433 t434 t440 t441 t442 _ ?side1 ?side2 A7.out).mono ?_); (case side1 => repeat (first | exact (Kd.R_reads' HO436.out).2.2 | (with_reducible refine Kd.C_alloc ?_ _) | (with_reducible refine Kd.C_drewN ?_ _) | (with_reducible refine Kd.C_drew ?_))); (case side2 => exact (Kd.R_reads' HO436.out).2.1); rintro e w12 ⟨rfl, hb⟩; have n0_ := Aside0.mk (Kd.R_below (kd_to HO436) hb); have n1_ := Aside0.mk (below_step (below_to HB) hb); clear HO436; clear HB; have HO436 := n0_; have HB := n1_; clear n0_ n1_; (try clear hb))))
  (try simp only [Act.put, List.setIfInBounds_toArray, List.set_cons_zero, List.set_cons_succ])
  go_cut [116] from 100000 (fun v116 wc => ∃ (kq : Nat) (x116_7 : Bool), v116 = .bool x116_7 ∧ Aside0 (laws_FnLegsShared.j0 kq l1 t432 t433 t434 t437 t438 t439 x116_7 = some r) ∧ Aside0 (kq ≤ k) ∧ Aside0 (Kd.R k54 54 wc w.heap.size (fun _ => True) (.slice Ao10 t432.length co10) t432) ∧ Aside0 (Below w.heap.size w wc))
  case first =>
   have H := HC8.out
   clear HC8
   by_cases c13 : (t439 != t442) = true
   ·rw [if_pos c13] at H
    have c13b0 : (t439 != t442) = true := c13
    (try (have c13b1 : decide (t439 = t442) = false := by simpa using c13))
    (try (have c13b2 : (t439 == t442) = false := by simpa using c13))
    (try (have c13b3 : ¬ (t439 = t442) := by simpa using c13))
    clear c13
    (first | rw [c13b0] | (simp only [i64_w, i32_w]; rw [c13b0]) | skip)
    exact absurd H (by rw [HR_.out]; cases k <;> simp [laws_FnLegsShared.j0])
   ·rw [if_neg c13] at H
    have c13b0 : (t439 != t442) = false := by simpa using c13
    (try (have c13b1 : decide (t439 = t442) = true := by simpa using c13))
    (try (have c13b2 : (t439 == t442) = true := by simpa using c13))
    clear c13
    (first | rw [c13b0] | (simp only [i64_w, i32_w]; rw [c13b0]) | skip)
    by_cases c14 : t437 = t440
    ·rw [if_pos c14] at H
     have c14b0 : (t437 == t440) = true := beq_iff_eq.mpr c14
     have c14b1 : (t437 != t440) = false := bne_eq_false_iff_eq.mpr c14
     clear c14
     have H' := Aside0.mk H
     clear H
     go_wp2
     repeat (go_quiet (fail); try go_wp2)
     go_meet
     case rel => exact ⟨_, ((t438 != t441)), (by first | rfl | (simp; done) | (simp [*]; done)), H', ⟨by first | omega | exact Nat.le_refl _⟩, ⟨by (with_reducible repeat (first | apply Kd.R_alloc | apply Kd.R_drewN | apply Kd.R_drew)); exact HO436.out⟩, ⟨by repeat (first | (with_reducible first | exact HB.out | apply below_alloc | apply pw_below_drewN | apply below_drew1) | exact HB.out)⟩⟩
    ·rw [if_neg c14] at H
     have c14b0 : (t437 == t440) = false := beq_eq_false_iff_ne.mpr c14
     have c14b1 : (t437 != t440) = true := bne_iff_ne.mpr c14
     exact absurd H (by rw [HR_.out]; cases k <;> simp [laws_FnLegsShared.j0])
  case rest =>
   clear HC8
   (try clear c1); (try clear p2); (try clear c4); (try clear c5); (try clear c13); (try clear c13b0); (try clear c13b1); (try clear c13b2); (try clear c14); (try clear c14b0); (try clear c14b1)
   obtain ⟨kq, x116_7, rfl, HA, HJ7, HO_5, HB⟩ := hcut
   cases kq with
   | zero => exact absurd HA.out (by simp [laws_FnLegsShared.j0])
   | succ kj7 =>
    have H := HA.out
    clear HA
    simp only [laws_FnLegsShared.j0] at H
    by_cases c15 : x116_7 = true
    ·subst c15
     have H1 : (some false) = some r := by rw [if_pos rfl] at H; exact H
     clear H
     have H := H1
     clear H1
     exact absurd (Option.some.inj H).symm (by rw [HR_.out]; decide)
    ·replace c15 := Bool.eq_false_iff.mpr c15
     subst c15
     have H1 : (if t439 = true then ((impl_TimeOfLegs.f kj7 t432).bind fun bt443 => ((impl_LongOfLegs.f kj7 t432).bind fun bt446 => ((laws_yLow.f kj7 t437 t438).bind fun t448 => (if t448 = true then (if t437 < 1 then (some false) else (if bt443.2.2 = true then (if bt446.2 = true then (if (wrap64 ((wrap64 ((wrap64 (bt446.1 + t433)) * bt443.2.1)) * t437)) = (wrap64 (t434 * (wrap64 ((wrap64 (bt443.1 * t437)) + (wrap64 ((wrap64 (t433 * t438)) * bt443.2.1)))))) then (laws_FnLegsShared.j1 kj7 l1) else (some false)) else (some false)) else (some false))) else (some false))))) else (laws_FnLegsShared.j1 kj7 l1)) = some r := by rw [if_neg (show ¬ (false = true) by decide)] at H; exact H
     clear H
     have H := H1
     clear H1
     have HC16 := Aside0.mk H
     clear H
     go_upto_if 117 with (fail)
     repeat (go_quiet (fail); go_upto_if 117 with (fail))
     go_cut [] from 100000 (fun wc => ∃ (kq : Nat), Aside0 (laws_FnLegsShared.j1 kq l1 = some r) ∧ Aside0 (kq ≤ kj7) ∧ Aside0 (Below w.heap.size w wc))
     case first =>
      have H := HC16.out
      clear HC16
      by_cases c17 : t439 = true
      ·subst c17
       have H1 : ((impl_TimeOfLegs.f kj7 t432).bind fun bt443 => ((impl_LongOfLegs.f kj7 t432).bind fun bt446 => ((laws_yLow.f kj7 t437 t438).bind fun t448 => (if t448 = true then (if t437 < 1 then (some false) else (if bt443.2.2 = true then (if bt446.2 = true then (if (wrap64 ((wrap64 ((wrap64 (bt446.1 + t433)) * bt443.2.1)) * t437)) = (wrap64 (t434 * (wrap64 ((wrap64 (bt443.1 * t437)) + (wrap64 ((wrap64 (t433 * t438)) * bt443.2.1)))))) then (laws_FnLegsShared.j1 kj7 l1) else (some false)) else (some false)) else (some false))) else (some false))))) = some r := by rw [if_pos rfl] at H; exact H
       clear H
       have H := H1
       clear H1
       replace H := Option.bind_eq_some_iff.mp H
       obtain ⟨⟨t443, t444, t445⟩, A180, H⟩ := H
       (try dsimp only at H)
       have A18 := Aside0.mk A180
       clear A180
       replace H := Option.bind_eq_some_iff.mp H
       obtain ⟨⟨t446, t447⟩, A190, H⟩ := H
       (try dsimp only at H)
       have A19 := Aside0.mk A190
       clear A190
       replace H := Option.bind_eq_some_iff.mp H
       obtain ⟨t448, A200, H⟩ := H
       (try dsimp only at H)
       have A20 := Aside0.mk A200
       clear A200
       by_cases c21 : t448 = true
       ·subst c21
        have H1 : (if t437 < 1 then (some false) else (if t445 = true then (if t447 = true then (if (wrap64 ((wrap64 ((wrap64 (t446 + t433)) * t444)) * t437)) = (wrap64 (t434 * (wrap64 ((wrap64 (t443 * t437)) + (wrap64 ((wrap64 (t433 * t438)) * t444)))))) then (laws_FnLegsShared.j1 kj7 l1) else (some false)) else (some false)) else (some false))) = some r := by rw [if_pos rfl] at H; exact H
        clear H
        have H := H1
        clear H1
        by_cases c22 : t437 < 1
        ·rw [if_pos c22] at H
         have c22b0 : decide (t437 < 1) = true := decide_eq_true c22
         clear c22
         (first | rw [c22b0] | (simp only [i64_w, i32_w]; rw [c22b0]) | skip)
         exact absurd (Option.some.inj H).symm (by rw [HR_.out]; decide)
        ·rw [if_neg c22] at H
         have c22b0 : decide (t437 < 1) = false := decide_eq_false c22
         clear c22
         (first | rw [c22b0] | (simp only [i64_w, i32_w]; rw [c22b0]) | skip)
         by_cases c23 : t445 = true
         ·subst c23
          have H1 : (if t447 = true then (if (wrap64 ((wrap64 ((wrap64 (t446 + t433)) * t444)) * t437)) = (wrap64 (t434 * (wrap64 ((wrap64 (t443 * t437)) + (wrap64 ((wrap64 (t433 * t438)) * t444)))))) then (laws_FnLegsShared.j1 kj7 l1) else (some false)) else (some false)) = some r := by rw [if_pos rfl] at H; exact H
          clear H
          have H := H1
          clear H1
          by_cases c24 : t447 = true
          ·subst c24
           have H1 : (if (wrap64 ((wrap64 ((wrap64 (t446 + t433)) * t444)) * t437)) = (wrap64 (t434 * (wrap64 ((wrap64 (t443 * t437)) + (wrap64 ((wrap64 (t433 * t438)) * t444)))))) then (laws_FnLegsShared.j1 kj7 l1) else (some false)) = some r := by rw [if_pos rfl] at H; exact H
           clear H
           have H := H1
           clear H1
           by_cases c25 : (wrap64 ((wrap64 ((wrap64 (t446 + t433)) * t444)) * t437)) = (wrap64 (t434 * (wrap64 ((wrap64 (t443 * t437)) + (wrap64 ((wrap64 (t433 * t438)) * t444))))))
           ·rw [if_pos c25] at H
            have c25b0 : ((wrap64 ((wrap64 ((wrap64 (t446 + t433)) * t444)) * t437)) == (wrap64 (t434 * (wrap64 ((wrap64 (t443 * t437)) + (wrap64 ((wrap64 (t433 * t438)) * t444))))))) = true := beq_iff_eq.mpr c25
            have c25b1 : ((wrap64 ((wrap64 ((wrap64 (t446 + t433)) * t444)) * t437)) != (wrap64 (t434 * (wrap64 ((wrap64 (t443 * t437)) + (wrap64 ((wrap64 (t433 * t438)) * t444))))))) = false := bne_eq_false_iff_eq.mpr c25
            clear c25
            have H' := Aside0.mk H
            clear H
            go_wp2_with (first | (go_at_call 18; (with_reducible refine (impl_TimeOfLegs.calls kj7 _ _ t432 t443 t444 true _ ?side1 ?side2 A18.out).mono ?_); (case side1 => repeat (first | exact (Kd.R_reads' HO_5.out).2.2 | (with_reducible refine Kd.C_alloc ?_ _) | (with_reducible refine Kd.C_drewN ?_ _) | (with_reducible refine Kd.C_drew ?_))); (case side2 => exact (Kd.R_reads' HO_5.out).2.1); rintro e w26 ⟨rfl, hb⟩; have n0_ := Aside0.mk (Kd.R_below (kd_to HO_5) hb); have n1_ := Aside0.mk (below_step (below_to HB) hb); clear HO_5; clear HB; have HO_5 := n0_; have HB := n1_; clear n0_ n1_; (try clear hb)) | (go_at_call 19; (with_reducible refine (impl_LongOfLegs.calls kj7 _ _ t432 t446 true _ ?side1 ?side2 A19.out).mono ?_); (case side1 => repeat (first | exact (Kd.R_reads' HO_5.out).2.2 | (with_reducible refine Kd.C_alloc ?_ _) | (with_reducible refine Kd.C_drewN ?_ _) | (with_reducible refine Kd.C_drew ?_))); (case side2 => exact (Kd.R_reads' HO_5.out).2.1); rintro e w27 ⟨rfl, hb⟩; have n0_ := Aside0.mk (Kd.R_below (kd_to HO_5) hb); have n1_ := Aside0.mk (below_step (below_to HB) hb); clear HO_5; clear HB; have HO_5 := n0_; have HB := n1_; clear n0_ n1_; (try clear hb)) | (go_at_call 20; (with_reducible refine (laws_yLow.calls kj7 t437 t438 true _ A20.out).mono ?_); rintro e w' ⟨rfl, ⟨nd, rfl⟩⟩; (try first | exact ⟨rfl, _, World.drewN_drewN _ _ _⟩ | exact ⟨rfl, _, Eq.trans (World.drewN_drewN _ _ _) (congrArg (World.drewN _) (Nat.add_assoc _ _ _))⟩)))
            repeat (go_quiet (first | (go_at_call 18; (with_reducible refine (impl_TimeOfLegs.calls kj7 _ _ t432 t443 t444 true _ ?side1 ?side2 A18.out).mono ?_); (case side1 => repeat (first | exact (Kd.R_reads' HO_5.out).2.2 | (with_reducible refine Kd.C_alloc ?_ _) | (with_reducible refine Kd.C_drewN ?_ _) | (with_reducible refine Kd.C_drew ?_))); (case side2 => exact (Kd.R_reads' HO_5.out).2.1); rintro e w26 ⟨rfl, hb⟩; have n0_ := Aside0.mk (Kd.R_below (kd_to HO_5) hb); have n1_ := Aside0.mk (below_step (below_to HB) hb); clear HO_5; clear HB; have HO_5 := n0_; have HB := n1_; clear n0_ n1_; (try clear hb)) | (go_at_call 19; (with_reducible refine (impl_LongOfLegs.calls kj7 _ _ t432 t446 true _ ?side1 ?side2 A19.out).mono ?_); (case side1 => repeat (first | exact (Kd.R_reads' HO_5.out).2.2 | (with_reducible refine Kd.C_alloc ?_ _) | (with_reducible refine Kd.C_drewN ?_ _) | (with_reducible refine Kd.C_drew ?_))); (case side2 => exact (Kd.R_reads' HO_5.out).2.1); rintro e w27 ⟨rfl, hb⟩; have n0_ := Aside0.mk (Kd.R_below (kd_to HO_5) hb); have n1_ := Aside0.mk (below_step (below_to HB) hb); clear HO_5; clear HB; have HO_5 := n0_; have HB := n1_; clear n0_ n1_; (try clear hb)) | (go_at_call 20; (with_reducible refine (laws_yLow.calls kj7 t437 t438 true _ A20.out).mono ?_); rintro e w' ⟨rfl, ⟨nd, rfl⟩⟩; (try first | exact ⟨rfl, _, World.drewN_drewN _ _ _⟩ | exact ⟨rfl, _, Eq.trans (World.drewN_drewN _ _ _) (congrArg (World.drewN _) (Nat.add_assoc _ _ _))⟩))); try go_wp2_with (first | (go_at_call 18; (with_reducible refine (impl_TimeOfLegs.calls kj7 _ _ t432 t443 t444 true _ ?side1 ?side2 A18.out).mono ?_); (case side1 => repeat (first | exact (Kd.R_reads' HO_5.out).2.2 | (with_reducible refine Kd.C_alloc ?_ _) | (with_reducible refine Kd.C_drewN ?_ _) | (with_reducible refine Kd.C_drew ?_))); (case side2 => exact (Kd.R_reads' HO_5.out).2.1); rintro e w26 ⟨rfl, hb⟩; have n0_ := Aside0.mk (Kd.R_below (kd_to HO_5) hb); have n1_ := Aside0.mk (below_step (below_to HB) hb); clear HO_5; clear HB; have HO_5 := n0_; have HB := n1_; clear n0_ n1_; (try clear hb)) | (go_at_call 19; (with_reducible refine (impl_LongOfLegs.calls kj7 _ _ t432 t446 true _ ?side1 ?side2 A19.out).mono ?_); (case side1 => repeat (first | exact (Kd.R_reads' HO_5.out).2.2 | (with_reducible refine Kd.C_alloc ?_ _) | (with_reducible refine Kd.C_drewN ?_ _) | (with_reducible refine Kd.C_drew ?_))); (case side2 => exact (Kd.R_reads' HO_5.out).2.1); rintro e w27 ⟨rfl, hb⟩; have n0_ := Aside0.mk (Kd.R_below (kd_to HO_5) hb); have n1_ := Aside0.mk (below_step (below_to HB) hb); clear HO_5; clear HB; have HO_5 := n0_; have HB := n1_; clear n0_ n1_; (try clear hb)) | (go_at_call 20; (with_reducible refine (laws_yLow.calls kj7 t437 t438 true _ A20.out).mono ?_); rintro e w' ⟨rfl, ⟨nd, rfl⟩⟩; (try first | exact ⟨rfl, _, World.drewN_drewN _ _ _⟩ | exact ⟨rfl, _, Eq.trans (World.drewN_drewN _ _ _) (congrArg (World.drewN _) (Nat.add_assoc _ _ _))⟩))))
            go_meet
            case rel => exact ⟨_, H', ⟨by have := HJ7.out; first | omega | exact Nat.le_refl _⟩, ⟨by repeat (first | (with_reducible first | exact HB.out | apply below_alloc | apply pw_below_drewN | apply below_drew1) | exact HB.out)⟩⟩
           ·rw [if_neg c25] at H
            have c25b0 : ((wrap64 ((wrap64 ((wrap64 (t446 + t433)) * t444)) * t437)) == (wrap64 (t434 * (wrap64 ((wrap64 (t443 * t437)) + (wrap64 ((wrap64 (t433 * t438)) * t444))))))) = false := beq_eq_false_iff_ne.mpr c25
            have c25b1 : ((wrap64 ((wrap64 ((wrap64 (t446 + t433)) * t444)) * t437)) != (wrap64 (t434 * (wrap64 ((wrap64 (t443 * t437)) + (wrap64 ((wrap64 (t433 * t438)) * t444))))))) = true := bne_iff_ne.mpr c25
            exact absurd (Option.some.inj H).symm (by rw [HR_.out]; decide)
          ·replace c24 := Bool.eq_false_iff.mpr c24
           subst c24
           have H1 : (some false) = some r := by rw [if_neg (show ¬ (false = true) by decide)] at H; exact H
           clear H
           have H := H1
           clear H1
           exact absurd (Option.some.inj H).symm (by rw [HR_.out]; decide)
         ·replace c23 := Bool.eq_false_iff.mpr c23
          subst c23
          have H1 : (some false) = some r := by rw [if_neg (show ¬ (false = true) by decide)] at H; exact H
          clear H
          have H := H1
          clear H1
          exact absurd (Option.some.inj H).symm (by rw [HR_.out]; decide)
       ·replace c21 := Bool.eq_false_iff.mpr c21
        subst c21
        have H1 : (some false) = some r := by rw [if_neg (show ¬ (false = true) by decide)] at H; exact H
        clear H
        have H := H1
        clear H1
        exact absurd (Option.some.inj H).symm (by rw [HR_.out]; decide)
      ·replace c17 := Bool.eq_false_iff.mpr c17
       subst c17
       have H1 : (laws_FnLegsShared.j1 kj7 l1) = some r := by rw [if_neg (show ¬ (false = true) by decide)] at H; exact H
       clear H
       have H := H1
       clear H1
       have H' := Aside0.mk H
       clear H
       go_wp2
       repeat (go_quiet (fail); try go_wp2)
       go_meet
       case rel => exact ⟨_, H', ⟨by have := HJ7.out; first | omega | exact Nat.le_refl _⟩, ⟨by repeat (first | (with_reducible first | exact HB.out | apply below_alloc | apply pw_below_drewN | apply below_drew1) | exact HB.out)⟩⟩
     case rest =>
      clear HC16
      (try clear c1); (try clear c2); (try clear p2); (try clear c4); (try clear c5); (try clear p6); (try clear c13); (try clear c13b0); (try clear c13b1); (try clear c13b2); (try clear c14); (try clear c14b0); (try clear c14b1); (try clear c15); (try clear c17); (try clear c21); (try clear c22); (try clear c22b0); (try clear c23); (try clear c24); (try clear c25); (try clear c25b0); (try clear c25b1); (try clear p2)
      obtain ⟨kq, HA, HJ15, HB⟩ := hcut
      go_step
      exact laws_FnLegsShared.seg1 k A0 c0 l0 A1 c1 l1 r w HR_ HR0 HC0 HR1 HC1 A3 t432 t433 t434 A5 t437 t438 t439 A6 t440 t441 t442 A7 nd w9 Ao10 co10 w11 w12 HO436 u104 u105 u106 u107 u108 u109 u110 u111 u112 u113 u114 u115 kj7 HJ7 wc u4 u14 u15 u16 u17 u18 u118 u119 u120 u121 u122 u123 u124 u125 u126 u127 u128 u129 u130 u131 u132 u133 u134 u135 u136 u137 u138 u139 u140 u141 u142 u143 u144 u145 u146 u147 u148 u149 u150 u151 u152 u153 u154 u155 u156 u157 u158 u159 u160 u161 u162 u163 u164 u165 kq HA HJ15 HB

end Go.Proofs.Ytgjhomhfcifipaa.QS
