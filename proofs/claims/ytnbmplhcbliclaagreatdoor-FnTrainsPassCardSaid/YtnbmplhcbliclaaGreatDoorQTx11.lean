-- WRITTEN BY a program of this session (wip/xprint.py, over the kit's print): Lean checks it.
import Derived.Test.YtnbmplhcbliclaaGreatDoorQTx11d
import Derived.Test.YtnbmplhcbliclaaGreatDoorQTx11s1
namespace Go.Proofs.YtnbmplhcbliclaaGreatDoor.QT
open Go.Proofs.YtnbmplhcbliclaaGreatDoor.X Go.RowKit Go.Proofs.YtnbmplhcbliclaaGreatDoorW.PrintWords Go.Proofs.YtnbmplhcbliclaaGreatDoorW.PrintLast Go.Proofs.YtnbmplhcbliclaaGreatDoorW.PrintMore
attribute [local go_sem] max2_int min2_int max_two min_two max_three min_three max_four min_four   -- for this text's walks alone
set_option linter.unusedVariables false
set_option linter.unusedSimpArgs false

attribute [local go_sem high] eqA25
set_option maxHeartbeats 8000000 in
set_option maxRecDepth 100000 in
theorem laws_FnTrainsPass.calls (k : Nat) (A0 : Option Addr) (c0 : Nat) (l0 : List Int) (A1 : Option Addr) (c1 : Nat) (l1 : List Int) (r : Bool) (w : World) (hr0 : Kd.C (Kd.int .u8) w A0 l0.length l0) (hc0 : l0.length ≤ c0) (hr1 : Kd.C (Kd.int .u8) w A1 l1.length l1) (hc1 : l1.length ≤ c1) (h : laws_FnTrainsPass.f k l0 l1 = some r) (hR_ : r = true) (hT_ : Go.Proofs.YtnbmplhcbliclaaGreatDoor.XText.T2 w) :
  Calls Tryz.prog 3 #[.slice A0 l0.length c0, .slice A1 l1.length c1] w fun e w' => e = .returned (.bool r) ∧ Below w.heap.size w w' := by
 have HTab_ := Aside0.mk hT_
 clear hT_
 have HR_ := Aside0.mk hR_
 clear hR_
 have hu25 := Tryz.underlying25
 have HR0 := Aside0.mk hr0
 have HC0 := Aside0.mk hc0
 clear hr0 hc0
 have HR1 := Aside0.mk hr1
 have HC1 := Aside0.mk hc1
 clear hr1 hc1
 have HB := Aside0.mk (Below.refl w.heap.size w)
 have H : ((laws_big.f l0 l1).bind fun t428 => (if t428 = true then (some true) else ((spec_DrawBridgePassing.f l0).bind fun bt429 => ((impl_BridgePassing.f k bt429.1 bt429.2.1 bt429.2.2).bind fun bt433 => ((spec_BridgePassing.f k bt429.1 bt429.2.1 bt429.2.2).bind fun bt436 => ((impl_PolePassing.f k bt429.1 bt429.2.1).bind fun bt439 => ((spec_PolePassing.f k bt429.1 bt429.2.1).bind fun bt442 => ((impl_InsideTunnel.f k bt429.1 bt429.2.1 bt429.2.2).bind fun bt445 => ((spec_InsideTunnel.f k bt429.1 bt429.2.1 bt429.2.2).bind fun bt448 => ((impl_TrainText.f k bt429.1 bt429.2.1).bind fun bt451 => ((spec_TrainText.f k bt429.1 bt429.2.1).bind fun bt453 => (if (bt433.2.2 != bt436.2.2) = true then (laws_FnTrainsPass.j0 k l1 bt429.2.2 bt433.1 bt433.2.1 bt433.2.2 bt439.1 bt439.2.1 bt439.2.2 bt445.1 bt445.2.1 bt445.2.2 bt451.1 true bt429.1 bt429.2.1) else (if bt433.1 = bt436.1 then (if bt433.2.1 = bt436.2.1 then (if (bt439.2.2 != bt442.2.2) = true then (laws_FnTrainsPass.j0 k l1 bt429.2.2 bt433.1 bt433.2.1 bt433.2.2 bt439.1 bt439.2.1 bt439.2.2 bt445.1 bt445.2.1 bt445.2.2 bt451.1 true bt429.1 bt429.2.1) else (if bt439.1 = bt442.1 then (if bt439.2.1 = bt442.2.1 then (if (bt445.2.2 != bt448.2.2) = true then (laws_FnTrainsPass.j0 k l1 bt429.2.2 bt433.1 bt433.2.1 bt433.2.2 bt439.1 bt439.2.1 bt439.2.2 bt445.1 bt445.2.1 bt445.2.2 bt451.1 true bt429.1 bt429.2.1) else (if bt445.1 = bt448.1 then (if bt445.2.1 = bt448.2.1 then (if (bt451.2 != bt453.2) = true then (laws_FnTrainsPass.j0 k l1 bt429.2.2 bt433.1 bt433.2.1 bt433.2.2 bt439.1 bt439.2.1 bt439.2.2 bt445.1 bt445.2.1 bt445.2.2 bt451.1 true bt429.1 bt429.2.1) else (if bt451.1.toList = bt453.1.toList then ((impl_IsTrain.f bt429.1 bt429.2.1).bind fun t455 => (if (bt439.2.2 != t455) = true then (laws_FnTrainsPass.j0 k l1 bt429.2.2 bt433.1 bt433.2.1 bt433.2.2 bt439.1 bt439.2.1 bt439.2.2 bt445.1 bt445.2.1 bt445.2.2 bt451.1 true bt429.1 bt429.2.1) else ((impl_IsTrain.f bt429.1 bt429.2.1).bind fun t456 => ((spec_IsTrain.f bt429.1 bt429.2.1).bind fun t457 => (if (t456 != t457) = true then (laws_FnTrainsPass.j0 k l1 bt429.2.2 bt433.1 bt433.2.1 bt433.2.2 bt439.1 bt439.2.1 bt439.2.2 bt445.1 bt445.2.1 bt445.2.2 bt451.1 true bt429.1 bt429.2.1) else (if (bt451.2 != bt439.2.2) = true then (laws_FnTrainsPass.j0 k l1 bt429.2.2 bt433.1 bt433.2.1 bt433.2.2 bt439.1 bt439.2.1 bt439.2.2 bt445.1 bt445.2.1 bt445.2.2 bt451.1 true bt429.1 bt429.2.1) else (if bt433.2.2 = true then (if bt439.2.2 = true then (laws_FnTrainsPass.j0 k l1 bt429.2.2 bt433.1 bt433.2.1 bt433.2.2 bt439.1 bt439.2.1 bt439.2.2 bt445.1 bt445.2.1 bt445.2.2 bt451.1 (bt445.2.2 != (decide (bt429.1 ≤ bt429.2.2))) bt429.1 bt429.2.1) else (laws_FnTrainsPass.j0 k l1 bt429.2.2 bt433.1 bt433.2.1 bt433.2.2 bt439.1 bt439.2.1 bt439.2.2 bt445.1 bt445.2.1 bt445.2.2 bt451.1 true bt429.1 bt429.2.1)) else (laws_FnTrainsPass.j0 k l1 bt429.2.2 bt433.1 bt433.2.1 bt433.2.2 bt439.1 bt439.2.1 bt439.2.2 bt445.1 bt445.2.1 bt445.2.2 bt451.1 (bt445.2.2 != false) bt429.1 bt429.2.1)))))))) else (laws_FnTrainsPass.j0 k l1 bt429.2.2 bt433.1 bt433.2.1 bt433.2.2 bt439.1 bt439.2.1 bt439.2.2 bt445.1 bt445.2.1 bt445.2.2 bt451.1 true bt429.1 bt429.2.1))) else (laws_FnTrainsPass.j0 k l1 bt429.2.2 bt433.1 bt433.2.1 bt433.2.2 bt439.1 bt439.2.1 bt439.2.2 bt445.1 bt445.2.1 bt445.2.2 bt451.1 true bt429.1 bt429.2.1)) else (laws_FnTrainsPass.j0 k l1 bt429.2.2 bt433.1 bt433.2.1 bt433.2.2 bt439.1 bt439.2.1 bt439.2.2 bt445.1 bt445.2.1 bt445.2.2 bt451.1 true bt429.1 bt429.2.1))) else (laws_FnTrainsPass.j0 k l1 bt429.2.2 bt433.1 bt433.2.1 bt433.2.2 bt439.1 bt439.2.1 bt439.2.2 bt445.1 bt445.2.1 bt445.2.2 bt451.1 true bt429.1 bt429.2.1)) else (laws_FnTrainsPass.j0 k l1 bt429.2.2 bt433.1 bt433.2.1 bt433.2.2 bt439.1 bt439.2.1 bt439.2.2 bt445.1 bt445.2.1 bt445.2.2 bt451.1 true bt429.1 bt429.2.1))) else (laws_FnTrainsPass.j0 k l1 bt429.2.2 bt433.1 bt433.2.1 bt433.2.2 bt439.1 bt439.2.1 bt439.2.2 bt445.1 bt445.2.1 bt445.2.2 bt451.1 true bt429.1 bt429.2.1)) else (laws_FnTrainsPass.j0 k l1 bt429.2.2 bt433.1 bt433.2.1 bt433.2.2 bt439.1 bt439.2.1 bt439.2.2 bt445.1 bt445.2.1 bt445.2.2 bt451.1 true bt429.1 bt429.2.1)))))))))))))) = some r := h
 clear h
 replace H := Option.bind_eq_some_iff.mp H
 obtain ⟨t428, A30, H⟩ := H
 (try dsimp only at H)
 have A3 := Aside0.mk A30
 clear A30
 by_cases c4 : t428 = true
 ·subst c4
  have H1 : (some true) = some r := by rw [if_pos rfl] at H; exact H
  clear H
  have H := H1
  clear H1
  obtain rfl := Option.some.inj H
  go_enter Tryz.func3, Tryz.ntmps3
  go_wp2_with (first | ((with_reducible refine gate_callee (f := 4) rfl ?_); refine goesL_ (some 92) rfl rfl Tryz.func4 (by kernel_rfl) rfl #[.slice A0 l0.length c0, .slice A1 l1.length c1] rfl am_ ?_; (with_reducible refine (laws_big.calls _ _ l0 _ _ l1 true _ ?side1 ?side2 ?side3 ?side4 A3.out).mono ?_); (case side1 => repeat (first | exact HR0.out | (with_reducible refine Kd.C_alloc ?_ _) | (with_reducible refine Kd.C_drewN ?_ _) | (with_reducible refine Kd.C_drew ?_))); (case side2 => exact HC0.out); (case side3 => repeat (first | exact HR1.out | (with_reducible refine Kd.C_alloc ?_ _) | (with_reducible refine Kd.C_drewN ?_ _) | (with_reducible refine Kd.C_drew ?_))); (case side4 => exact HC1.out); rintro e w' ⟨rfl, ⟨nd, rfl⟩⟩; refine ⟨_, rfl, ?_⟩))
  go_ret
  exact ⟨by first | rfl | (simp [errW_none, errW_some] <;> rfl) | (simp [*, errW_none, errW_some] <;> rfl), below_to HB⟩
 ·replace c4 := Bool.eq_false_iff.mpr c4
  subst c4
  have H1 : ((spec_DrawBridgePassing.f l0).bind fun bt429 => ((impl_BridgePassing.f k bt429.1 bt429.2.1 bt429.2.2).bind fun bt433 => ((spec_BridgePassing.f k bt429.1 bt429.2.1 bt429.2.2).bind fun bt436 => ((impl_PolePassing.f k bt429.1 bt429.2.1).bind fun bt439 => ((spec_PolePassing.f k bt429.1 bt429.2.1).bind fun bt442 => ((impl_InsideTunnel.f k bt429.1 bt429.2.1 bt429.2.2).bind fun bt445 => ((spec_InsideTunnel.f k bt429.1 bt429.2.1 bt429.2.2).bind fun bt448 => ((impl_TrainText.f k bt429.1 bt429.2.1).bind fun bt451 => ((spec_TrainText.f k bt429.1 bt429.2.1).bind fun bt453 => (if (bt433.2.2 != bt436.2.2) = true then (laws_FnTrainsPass.j0 k l1 bt429.2.2 bt433.1 bt433.2.1 bt433.2.2 bt439.1 bt439.2.1 bt439.2.2 bt445.1 bt445.2.1 bt445.2.2 bt451.1 true bt429.1 bt429.2.1) else (if bt433.1 = bt436.1 then (if bt433.2.1 = bt436.2.1 then (if (bt439.2.2 != bt442.2.2) = true then (laws_FnTrainsPass.j0 k l1 bt429.2.2 bt433.1 bt433.2.1 bt433.2.2 bt439.1 bt439.2.1 bt439.2.2 bt445.1 bt445.2.1 bt445.2.2 bt451.1 true bt429.1 bt429.2.1) else (if bt439.1 = bt442.1 then (if bt439.2.1 = bt442.2.1 then (if (bt445.2.2 != bt448.2.2) = true then (laws_FnTrainsPass.j0 k l1 bt429.2.2 bt433.1 bt433.2.1 bt433.2.2 bt439.1 bt439.2.1 bt439.2.2 bt445.1 bt445.2.1 bt445.2.2 bt451.1 true bt429.1 bt429.2.1) else (if bt445.1 = bt448.1 then (if bt445.2.1 = bt448.2.1 then (if (bt451.2 != bt453.2) = true then (laws_FnTrainsPass.j0 k l1 bt429.2.2 bt433.1 bt433.2.1 bt433.2.2 bt439.1 bt439.2.1 bt439.2.2 bt445.1 bt445.2.1 bt445.2.2 bt451.1 true bt429.1 bt429.2.1) else (if bt451.1.toList = bt453.1.toList then ((impl_IsTrain.f bt429.1 bt429.2.1).bind fun t455 => (if (bt439.2.2 != t455) = true then (laws_FnTrainsPass.j0 k l1 bt429.2.2 bt433.1 bt433.2.1 bt433.2.2 bt439.1 bt439.2.1 bt439.2.2 bt445.1 bt445.2.1 bt445.2.2 bt451.1 true bt429.1 bt429.2.1) else ((impl_IsTrain.f bt429.1 bt429.2.1).bind fun t456 => ((spec_IsTrain.f bt429.1 bt429.2.1).bind fun t457 => (if (t456 != t457) = true then (laws_FnTrainsPass.j0 k l1 bt429.2.2 bt433.1 bt433.2.1 bt433.2.2 bt439.1 bt439.2.1 bt439.2.2 bt445.1 bt445.2.1 bt445.2.2 bt451.1 true bt429.1 bt429.2.1) else (if (bt451.2 != bt439.2.2) = true then (laws_FnTrainsPass.j0 k l1 bt429.2.2 bt433.1 bt433.2.1 bt433.2.2 bt439.1 bt439.2.1 bt439.2.2 bt445.1 bt445.2.1 bt445.2.2 bt451.1 true bt429.1 bt429.2.1) else (if bt433.2.2 = true then (if bt439.2.2 = true then (laws_FnTrainsPass.j0 k l1 bt429.2.2 bt433.1 bt433.2.1 bt433.2.2 bt439.1 bt439.2.1 bt439.2.2 bt445.1 bt445.2.1 bt445.2.2 bt451.1 (bt445.2.2 != (decide (bt429.1 ≤ bt429.2.2))) bt429.1 bt429.2.1) else (laws_FnTrainsPass.j0 k l1 bt429.2.2 bt433.1 bt433.2.1 bt433.2.2 bt439.1 bt439.2.1 bt439.2.2 bt445.1 bt445.2.1 bt445.2.2 bt451.1 true bt429.1 bt429.2.1)) else (laws_FnTrainsPass.j0 k l1 bt429.2.2 bt433.1 bt433.2.1 bt433.2.2 bt439.1 bt439.2.1 bt439.2.2 bt445.1 bt445.2.1 bt445.2.2 bt451.1 (bt445.2.2 != false) bt429.1 bt429.2.1)))))))) else (laws_FnTrainsPass.j0 k l1 bt429.2.2 bt433.1 bt433.2.1 bt433.2.2 bt439.1 bt439.2.1 bt439.2.2 bt445.1 bt445.2.1 bt445.2.2 bt451.1 true bt429.1 bt429.2.1))) else (laws_FnTrainsPass.j0 k l1 bt429.2.2 bt433.1 bt433.2.1 bt433.2.2 bt439.1 bt439.2.1 bt439.2.2 bt445.1 bt445.2.1 bt445.2.2 bt451.1 true bt429.1 bt429.2.1)) else (laws_FnTrainsPass.j0 k l1 bt429.2.2 bt433.1 bt433.2.1 bt433.2.2 bt439.1 bt439.2.1 bt439.2.2 bt445.1 bt445.2.1 bt445.2.2 bt451.1 true bt429.1 bt429.2.1))) else (laws_FnTrainsPass.j0 k l1 bt429.2.2 bt433.1 bt433.2.1 bt433.2.2 bt439.1 bt439.2.1 bt439.2.2 bt445.1 bt445.2.1 bt445.2.2 bt451.1 true bt429.1 bt429.2.1)) else (laws_FnTrainsPass.j0 k l1 bt429.2.2 bt433.1 bt433.2.1 bt433.2.2 bt439.1 bt439.2.1 bt439.2.2 bt445.1 bt445.2.1 bt445.2.2 bt451.1 true bt429.1 bt429.2.1))) else (laws_FnTrainsPass.j0 k l1 bt429.2.2 bt433.1 bt433.2.1 bt433.2.2 bt439.1 bt439.2.1 bt439.2.2 bt445.1 bt445.2.1 bt445.2.2 bt451.1 true bt429.1 bt429.2.1)) else (laws_FnTrainsPass.j0 k l1 bt429.2.2 bt433.1 bt433.2.1 bt433.2.2 bt439.1 bt439.2.1 bt439.2.2 bt445.1 bt445.2.1 bt445.2.2 bt451.1 true bt429.1 bt429.2.1)))))))))))) = some r := by rw [if_neg (show ¬ (false = true) by decide)] at H; exact H
  clear H
  have H := H1
  clear H1
  replace H := Option.bind_eq_some_iff.mp H
  obtain ⟨⟨t429, t430, t431⟩, A50, H⟩ := H
  (try dsimp only at H)
  have A5 := Aside0.mk A50
  clear A50
  replace H := Option.bind_eq_some_iff.mp H
  obtain ⟨⟨t433, t434, t435⟩, A60, H⟩ := H
  (try dsimp only at H)
  have A6 := Aside0.mk A60
  clear A60
  replace H := Option.bind_eq_some_iff.mp H
  obtain ⟨⟨t436, t437, t438⟩, A70, H⟩ := H
  (try dsimp only at H)
  have A7 := Aside0.mk A70
  clear A70
  replace H := Option.bind_eq_some_iff.mp H
  obtain ⟨⟨t439, t440, t441⟩, A80, H⟩ := H
  (try dsimp only at H)
  have A8 := Aside0.mk A80
  clear A80
  replace H := Option.bind_eq_some_iff.mp H
  obtain ⟨⟨t442, t443, t444⟩, A90, H⟩ := H
  (try dsimp only at H)
  have A9 := Aside0.mk A90
  clear A90
  replace H := Option.bind_eq_some_iff.mp H
  obtain ⟨⟨t445, t446, t447⟩, A100, H⟩ := H
  (try dsimp only at H)
  have A10 := Aside0.mk A100
  clear A100
  replace H := Option.bind_eq_some_iff.mp H
  obtain ⟨⟨t448, t449, t450⟩, A110, H⟩ := H
  (try dsimp only at H)
  have A11 := Aside0.mk A110
  clear A110
  replace H := Option.bind_eq_some_iff.mp H
  obtain ⟨⟨t451, t452⟩, A120, H⟩ := H
  (try dsimp only at H)
  have A12 := Aside0.mk A120
  clear A120
  replace H := Option.bind_eq_some_iff.mp H
  obtain ⟨⟨t453, t454⟩, A130, H⟩ := H
  (try dsimp only at H)
  have A13 := Aside0.mk A130
  clear A130
  have HC14 := Aside0.mk H
  clear H
  go_enter Tryz.func3, Tryz.ntmps3
  go_upto_region 12 with (first | ((with_reducible refine gate_callee (f := 4) rfl ?_); refine goesL_ (some 92) rfl rfl Tryz.func4 (by kernel_rfl) rfl #[.slice A0 l0.length c0, .slice A1 l1.length c1] rfl am_ ?_; (with_reducible refine (laws_big.calls _ _ l0 _ _ l1 false _ ?side1 ?side2 ?side3 ?side4 A3.out).mono ?_); (case side1 => repeat (first | exact HR0.out | (with_reducible refine Kd.C_alloc ?_ _) | (with_reducible refine Kd.C_drewN ?_ _) | (with_reducible refine Kd.C_drew ?_))); (case side2 => exact HC0.out); (case side3 => repeat (first | exact HR1.out | (with_reducible refine Kd.C_alloc ?_ _) | (with_reducible refine Kd.C_drewN ?_ _) | (with_reducible refine Kd.C_drew ?_))); (case side4 => exact HC1.out); rintro e w' ⟨rfl, ⟨nd, rfl⟩⟩; refine ⟨_, rfl, ?_⟩) | ((with_reducible refine gate_callee (f := 5) rfl ?_); refine goesL_ (some 95) rfl rfl Tryz.func5 (by kernel_rfl) rfl #[.slice A0 l0.length c0] rfl am_ ?_; (with_reducible refine (spec_DrawBridgePassing.calls _ _ l0 t429 t430 t431 _ ?side1 ?side2 A5.out).mono ?_); (case side1 => repeat (first | exact HR0.out | (with_reducible refine Kd.C_alloc ?_ _) | (with_reducible refine Kd.C_drewN ?_ _) | (with_reducible refine Kd.C_drew ?_))); (case side2 => exact HC0.out); rintro e w15 ⟨rfl, hb⟩; refine ⟨_, rfl, ?_⟩; replace HB := Aside0.mk (below_step (below_to HB) hb); (try clear hb)) | ((with_reducible refine gate_dst (N := 5) rfl ?_); refine box_event ?hg (N := 5) ?hd (cs := #[.int .i64 0, .int .i64 0]) (t := 25) ?hr ?_; (case hd => rfl); (case hg => rfl); (case hr => first | (go_simp; done) | (go_simp; rfl)); intro gb432 hg w16 hbox hb; have n0_ := Aside0.mk (below_step (below_to HB) hb); have n1_ := Aside0.mk (hbox); have n2_ := Aside0.mk ((by rw [hg]; exact (below_size (below_to HB)) : w.heap.size ≤ gb432)); have n3_ := Aside0.mk ((by rw [hg]; exact (below_size (below_to HB)) : w.heap.size ≤ gb432)); clear HB; have HB := n0_; have BK432 := n1_; have GW432 := n2_; have GE432 := n3_; clear n0_ n1_ n2_ n3_; clear hb hbox hg; have hcz17_0 : w16.cell? ⟨gb432, 0, none⟩ = some (.int .i64 0) := (blk_cell BK432.out 0).trans rfl; have hcz17_1 : w16.cell? ⟨gb432, 1, none⟩ = some (.int .i64 0) := (blk_cell BK432.out 1).trans rfl; have hfz17_0 := blk_frozen BK432.out 0; have hfz17_1 := blk_frozen BK432.out 1) | ((with_reducible refine gate_callee (f := 6) rfl ?_); refine goesL_ (some 101) rfl rfl Tryz.func6 (by kernel_rfl) rfl #[.agg #[.int .i64 t429, .int .i64 t430], .int .i64 t431] rfl am_ ?_; (with_reducible refine (impl_BridgePassing.calls k t429 t430 t431 t433 t434 t435 _ A6.out).mono ?_); rintro e w18 ⟨rfl, hb⟩; refine ⟨_, rfl, ?_⟩; replace BK432 := Aside0.mk (blk_below (g := gb432) (o := .cells #[.int .i64 t429, .int .i64 t430] 25 (0, 0)) (by (with_reducible repeat (first | refine blk_drewN ?_ _ | refine blk_drew ?_ | refine blk_alloc ?_ _)); refine blk_put (cs := #[.int .i64 t429, .int .i64 0]) ?_ 1 _ rfl; (with_reducible repeat (first | refine blk_drewN ?_ _ | refine blk_drew ?_ | refine blk_alloc ?_ _)); refine blk_put (cs := #[.int .i64 0, .int .i64 0]) ?_ 0 _ rfl; (with_reducible repeat (first | refine blk_drewN ?_ _ | refine blk_drew ?_ | refine blk_alloc ?_ _)); exact BK432.out) hb); replace HB := Aside0.mk (below_step (below_to1 HB GE432.out) hb); (try clear hb); have hcz19_0 : w18.cell? ⟨gb432, 0, none⟩ = some (.int .i64 t429) := (blk_cell BK432.out 0).trans rfl; have hcz19_1 : w18.cell? ⟨gb432, 1, none⟩ = some (.int .i64 t430) := (blk_cell BK432.out 1).trans rfl; have hfz19_0 := blk_frozen BK432.out 0; have hfz19_1 := blk_frozen BK432.out 1) | ((with_reducible refine gate_callee (f := 7) rfl ?_); refine goesL_ (some 108) rfl rfl Tryz.func7 (by kernel_rfl) rfl #[.agg #[.int .i64 t429, .int .i64 t430], .int .i64 t431] rfl am_ ?_; (with_reducible refine (spec_BridgePassing.calls k t429 t430 t431 t436 t437 t438 _ A7.out).mono ?_); rintro e w20 ⟨rfl, hb⟩; refine ⟨_, rfl, ?_⟩; replace BK432 := Aside0.mk (blk_below (blk_to BK432) hb); replace HB := Aside0.mk (below_step (below_to1 HB GE432.out) hb); (try clear hb); have hcz21_0 : w20.cell? ⟨gb432, 0, none⟩ = some (.int .i64 t429) := (blk_cell BK432.out 0).trans rfl; have hcz21_1 : w20.cell? ⟨gb432, 1, none⟩ = some (.int .i64 t430) := (blk_cell BK432.out 1).trans rfl; have hfz21_0 := blk_frozen BK432.out 0; have hfz21_1 := blk_frozen BK432.out 1) | ((with_reducible refine gate_callee (f := 8) rfl ?_); refine goesL_ (some 114) rfl rfl Tryz.func8 (by kernel_rfl) rfl #[.agg #[.int .i64 t429, .int .i64 t430]] rfl am_ ?_; (with_reducible refine (impl_PolePassing.calls k t429 t430 t439 t440 t441 _ A8.out).mono ?_); rintro e w22 ⟨rfl, hb⟩; refine ⟨_, rfl, ?_⟩; replace BK432 := Aside0.mk (blk_below (blk_to BK432) hb); replace HB := Aside0.mk (below_step (below_to1 HB GE432.out) hb); (try clear hb); have hcz23_0 : w22.cell? ⟨gb432, 0, none⟩ = some (.int .i64 t429) := (blk_cell BK432.out 0).trans rfl; have hcz23_1 : w22.cell? ⟨gb432, 1, none⟩ = some (.int .i64 t430) := (blk_cell BK432.out 1).trans rfl; have hfz23_0 := blk_frozen BK432.out 0; have hfz23_1 := blk_frozen BK432.out 1) | ((with_reducible refine gate_callee (f := 9) rfl ?_); refine goesL_ (some 120) rfl rfl Tryz.func9 (by kernel_rfl) rfl #[.agg #[.int .i64 t429, .int .i64 t430]] rfl am_ ?_; (with_reducible refine (spec_PolePassing.calls k t429 t430 t442 t443 t444 _ A9.out).mono ?_); rintro e w24 ⟨rfl, hb⟩; refine ⟨_, rfl, ?_⟩; replace BK432 := Aside0.mk (blk_below (blk_to BK432) hb); replace HB := Aside0.mk (below_step (below_to1 HB GE432.out) hb); (try clear hb); have hcz25_0 : w24.cell? ⟨gb432, 0, none⟩ = some (.int .i64 t429) := (blk_cell BK432.out 0).trans rfl; have hcz25_1 : w24.cell? ⟨gb432, 1, none⟩ = some (.int .i64 t430) := (blk_cell BK432.out 1).trans rfl; have hfz25_0 := blk_frozen BK432.out 0; have hfz25_1 := blk_frozen BK432.out 1) | ((with_reducible refine gate_callee (f := 10) rfl ?_); refine goesL_ (some 127) rfl rfl Tryz.func10 (by kernel_rfl) rfl #[.agg #[.int .i64 t429, .int .i64 t430], .int .i64 t431] rfl am_ ?_; (with_reducible refine (impl_InsideTunnel.calls k t429 t430 t431 t445 t446 t447 _ A10.out).mono ?_); rintro e w26 ⟨rfl, hb⟩; refine ⟨_, rfl, ?_⟩; replace BK432 := Aside0.mk (blk_below (blk_to BK432) hb); replace HB := Aside0.mk (below_step (below_to1 HB GE432.out) hb); (try clear hb); have hcz27_0 : w26.cell? ⟨gb432, 0, none⟩ = some (.int .i64 t429) := (blk_cell BK432.out 0).trans rfl; have hcz27_1 : w26.cell? ⟨gb432, 1, none⟩ = some (.int .i64 t430) := (blk_cell BK432.out 1).trans rfl; have hfz27_0 := blk_frozen BK432.out 0; have hfz27_1 := blk_frozen BK432.out 1) | ((with_reducible refine gate_callee (f := 11) rfl ?_); refine goesL_ (some 134) rfl rfl Tryz.func11 (by kernel_rfl) rfl #[.agg #[.int .i64 t429, .int .i64 t430], .int .i64 t431] rfl am_ ?_; (with_reducible refine (spec_InsideTunnel.calls k t429 t430 t431 t448 t449 t450 _ A11.out).mono ?_); rintro e w28 ⟨rfl, hb⟩; refine ⟨_, rfl, ?_⟩; replace BK432 := Aside0.mk (blk_below (blk_to BK432) hb); replace HB := Aside0.mk (below_step (below_to1 HB GE432.out) hb); (try clear hb); have hcz29_0 : w28.cell? ⟨gb432, 0, none⟩ = some (.int .i64 t429) := (blk_cell BK432.out 0).trans rfl; have hcz29_1 : w28.cell? ⟨gb432, 1, none⟩ = some (.int .i64 t430) := (blk_cell BK432.out 1).trans rfl; have hfz29_0 := blk_frozen BK432.out 0; have hfz29_1 := blk_frozen BK432.out 1) | ((with_reducible refine gate_callee (f := 12) rfl ?_); refine goesL_ (some 140) rfl rfl Tryz.func12 (by kernel_rfl) rfl #[.agg #[.int .i64 t429, .int .i64 t430]] rfl am_ ?_; (with_reducible refine (impl_TrainText.calls k t429 t430 t451 t452 _ A12.out ?sidet).mono ?_); (case sidet => refine Go.Proofs.YtnbmplhcbliclaaGreatDoor.XText.T1.on (w := w) (Go.Proofs.YtnbmplhcbliclaaGreatDoor.XText.T2.to1 HTab_.out) ?_; repeat (first | (with_reducible first | exact HB.out | exact Below.refl _ _ | apply below_alloc | apply pw_below_drewN | apply below_drew1 | refine below_set ?_ GE432.out | refine below_set ?_ GE461.out | refine below_set ?_ GE475.out | refine below_set ?_ GE476.out | refine below_set ?_ GE494.out | refine below_set ?_ GE495.out | refine below_set ?_ GE506.out | refine below_set ?_ GE530.out | refine below_set ?_ GE534.out) | exact HB.out | exact Below.refl _ _)); rintro e w30 ⟨rfl, hb⟩; refine ⟨_, rfl, ?_⟩; replace BK432 := Aside0.mk (blk_below (blk_to BK432) hb); replace HB := Aside0.mk (below_step (below_to1 HB GE432.out) hb); (try clear hb); have hcz31_0 : w30.cell? ⟨gb432, 0, none⟩ = some (.int .i64 t429) := (blk_cell BK432.out 0).trans rfl; have hcz31_1 : w30.cell? ⟨gb432, 1, none⟩ = some (.int .i64 t430) := (blk_cell BK432.out 1).trans rfl; have hfz31_0 := blk_frozen BK432.out 0; have hfz31_1 := blk_frozen BK432.out 1) | ((with_reducible refine gate_callee (f := 13) rfl ?_); refine goesL_ (some 145) rfl rfl Tryz.func13 (by kernel_rfl) rfl #[.agg #[.int .i64 t429, .int .i64 t430]] rfl am_ ?_; (with_reducible refine (spec_TrainText.calls k t429 t430 t453 t454 _ A13.out).mono ?_); rintro e w32 ⟨rfl, hb⟩; refine ⟨_, rfl, ?_⟩; replace BK432 := Aside0.mk (blk_below (blk_to BK432) hb); replace HB := Aside0.mk (below_step (below_to1 HB GE432.out) hb); (try clear hb)))
  (try simp only [Act.put, List.setIfInBounds_toArray, List.set_cons_zero, List.set_cons_succ])
  go_cut [236] from 100000 (fun v236 wc => ∃ (kq : Nat) (x236_13 : Bool), v236 = .bool x236_13 ∧ Aside0 (laws_FnTrainsPass.j0 kq l1 t431 t433 t434 t435 t439 t440 t441 t445 t446 t447 t451 x236_13 t429 t430 = some r) ∧ Aside0 (kq ≤ k) ∧ Aside0 (wc.heap[gb432]? = some (.cells #[.int .i64 t429, .int .i64 t430] 25 (0, 0))) ∧ Aside0 (Below w.heap.size w wc))
  case first =>
   (try conv => arg 2; dsimp only [List.append_eq, List.cons_append, List.nil_append])
   have H := HC14.out
   clear HC14
   by_cases c33 : (t435 != t438) = true
   ·rw [if_pos c33] at H
    have c33b0 : (t435 != t438) = true := c33
    (try (have c33b1 : decide (t435 = t438) = false := by simpa using c33))
    (try (have c33b2 : (t435 == t438) = false := by simpa using c33))
    (try (have c33b3 : ¬ (t435 = t438) := by simpa using c33))
    clear c33
    (first | rw [c33b0] | (simp only [i64_w, i32_w]; rw [c33b0]) | skip)
    exact absurd H (by rw [HR_.out]; cases k <;> simp [laws_FnTrainsPass.j0])
   ·rw [if_neg c33] at H
    have c33b0 : (t435 != t438) = false := by simpa using c33
    (try (have c33b1 : decide (t435 = t438) = true := by simpa using c33))
    (try (have c33b2 : (t435 == t438) = true := by simpa using c33))
    clear c33
    (first | rw [c33b0] | (simp only [i64_w, i32_w]; rw [c33b0]) | skip)
    by_cases c34 : t433 = t436
    ·rw [if_pos c34] at H
     have c34b0 : (t433 == t436) = true := beq_iff_eq.mpr c34
     have c34b1 : (t433 != t436) = false := bne_eq_false_iff_eq.mpr c34
     clear c34
     by_cases c35 : t434 = t437
     ·rw [if_pos c35] at H
      have c35b0 : (t434 == t437) = true := beq_iff_eq.mpr c35
      have c35b1 : (t434 != t437) = false := bne_eq_false_iff_eq.mpr c35
      clear c35
      by_cases c36 : (t441 != t444) = true
      ·rw [if_pos c36] at H
       have c36b0 : (t441 != t444) = true := c36
       (try (have c36b1 : decide (t441 = t444) = false := by simpa using c36))
       (try (have c36b2 : (t441 == t444) = false := by simpa using c36))
       (try (have c36b3 : ¬ (t441 = t444) := by simpa using c36))
       clear c36
       exact absurd H (by rw [HR_.out]; cases k <;> simp [laws_FnTrainsPass.j0])
      ·rw [if_neg c36] at H
       have c36b0 : (t441 != t444) = false := by simpa using c36
       (try (have c36b1 : decide (t441 = t444) = true := by simpa using c36))
       (try (have c36b2 : (t441 == t444) = true := by simpa using c36))
       clear c36
       by_cases c37 : t439 = t442
       ·rw [if_pos c37] at H
        have c37b0 : (t439 == t442) = true := beq_iff_eq.mpr c37
        have c37b1 : (t439 != t442) = false := bne_eq_false_iff_eq.mpr c37
        clear c37
        by_cases c38 : t440 = t443
        ·rw [if_pos c38] at H
         have c38b0 : (t440 == t443) = true := beq_iff_eq.mpr c38
         have c38b1 : (t440 != t443) = false := bne_eq_false_iff_eq.mpr c38
         clear c38
         by_cases c39 : (t447 != t450) = true
         ·rw [if_pos c39] at H
          have c39b0 : (t447 != t450) = true := c39
          (try (have c39b1 : decide (t447 = t450) = false := by simpa using c39))
          (try (have c39b2 : (t447 == t450) = false := by simpa using c39))
          (try (have c39b3 : ¬ (t447 = t450) := by simpa using c39))
          clear c39
          exact absurd H (by rw [HR_.out]; cases k <;> simp [laws_FnTrainsPass.j0])
         ·rw [if_neg c39] at H
          have c39b0 : (t447 != t450) = false := by simpa using c39
          (try (have c39b1 : decide (t447 = t450) = true := by simpa using c39))
          (try (have c39b2 : (t447 == t450) = true := by simpa using c39))
          clear c39
          by_cases c40 : t445 = t448
          ·rw [if_pos c40] at H
           have c40b0 : (t445 == t448) = true := beq_iff_eq.mpr c40
           have c40b1 : (t445 != t448) = false := bne_eq_false_iff_eq.mpr c40
           clear c40
           by_cases c41 : t446 = t449
           ·rw [if_pos c41] at H
            have c41b0 : (t446 == t449) = true := beq_iff_eq.mpr c41
            have c41b1 : (t446 != t449) = false := bne_eq_false_iff_eq.mpr c41
            clear c41
            by_cases c42 : (t452 != t454) = true
            ·rw [if_pos c42] at H
             have c42b0 : (t452 != t454) = true := c42
             (try (have c42b1 : decide (t452 = t454) = false := by simpa using c42))
             (try (have c42b2 : (t452 == t454) = false := by simpa using c42))
             (try (have c42b3 : ¬ (t452 = t454) := by simpa using c42))
             clear c42
             exact absurd H (by rw [HR_.out]; cases k <;> simp [laws_FnTrainsPass.j0])
            ·rw [if_neg c42] at H
             have c42b0 : (t452 != t454) = false := by simpa using c42
             (try (have c42b1 : decide (t452 = t454) = true := by simpa using c42))
             (try (have c42b2 : (t452 == t454) = true := by simpa using c42))
             clear c42
             by_cases c43 : t451.toList = t453.toList
             ·rw [if_pos c43] at H
              have c43b0 : (t451.toList == t453.toList) = true := beq_iff_eq.mpr c43
              have c43b1 : (t451.toList != t453.toList) = false := bne_eq_false_iff_eq.mpr c43
              clear c43
              replace H := Option.bind_eq_some_iff.mp H
              obtain ⟨t455, A440, H⟩ := H
              (try dsimp only at H)
              have A44 := Aside0.mk A440
              clear A440
              by_cases c45 : (t441 != t455) = true
              ·rw [if_pos c45] at H
               have c45b0 : (t441 != t455) = true := c45
               (try (have c45b1 : decide (t441 = t455) = false := by simpa using c45))
               (try (have c45b2 : (t441 == t455) = false := by simpa using c45))
               (try (have c45b3 : ¬ (t441 = t455) := by simpa using c45))
               clear c45
               exact absurd H (by rw [HR_.out]; cases k <;> simp [laws_FnTrainsPass.j0])
              ·rw [if_neg c45] at H
               have c45b0 : (t441 != t455) = false := by simpa using c45
               (try (have c45b1 : decide (t441 = t455) = true := by simpa using c45))
               (try (have c45b2 : (t441 == t455) = true := by simpa using c45))
               clear c45
               replace H := Option.bind_eq_some_iff.mp H
               obtain ⟨t456, A460, H⟩ := H
               (try dsimp only at H)
               have A46 := Aside0.mk A460
               clear A460
               replace H := Option.bind_eq_some_iff.mp H
               obtain ⟨t457, A470, H⟩ := H
               (try dsimp only at H)
               have A47 := Aside0.mk A470
               clear A470
               by_cases c48 : (t456 != t457) = true
               ·rw [if_pos c48] at H
                have c48b0 : (t456 != t457) = true := c48
                (try (have c48b1 : decide (t456 = t457) = false := by simpa using c48))
                (try (have c48b2 : (t456 == t457) = false := by simpa using c48))
                (try (have c48b3 : ¬ (t456 = t457) := by simpa using c48))
                clear c48
                exact absurd H (by rw [HR_.out]; cases k <;> simp [laws_FnTrainsPass.j0])
               ·rw [if_neg c48] at H
                have c48b0 : (t456 != t457) = false := by simpa using c48
                (try (have c48b1 : decide (t456 = t457) = true := by simpa using c48))
                (try (have c48b2 : (t456 == t457) = true := by simpa using c48))
                clear c48
                by_cases c49 : (t452 != t441) = true
                ·rw [if_pos c49] at H
                 have c49b0 : (t452 != t441) = true := c49
                 (try (have c49b1 : decide (t452 = t441) = false := by simpa using c49))
                 (try (have c49b2 : (t452 == t441) = false := by simpa using c49))
                 (try (have c49b3 : ¬ (t452 = t441) := by simpa using c49))
                 clear c49
                 exact absurd H (by rw [HR_.out]; cases k <;> simp [laws_FnTrainsPass.j0])
                ·rw [if_neg c49] at H
                 have c49b0 : (t452 != t441) = false := by simpa using c49
                 (try (have c49b1 : decide (t452 = t441) = true := by simpa using c49))
                 (try (have c49b2 : (t452 == t441) = true := by simpa using c49))
                 clear c49
                 by_cases c50 : t435 = true
                 ·subst c50
                  have H1 : (if t441 = true then (laws_FnTrainsPass.j0 k l1 t431 t433 t434 true t439 t440 t441 t445 t446 t447 t451 (t447 != (decide (t429 ≤ t431))) t429 t430) else (laws_FnTrainsPass.j0 k l1 t431 t433 t434 true t439 t440 t441 t445 t446 t447 t451 true t429 t430)) = some r := by rw [if_pos rfl] at H; exact H
                  clear H
                  have H := H1
                  clear H1
                  by_cases c51 : t441 = true
                  ·subst c51
                   have H1 : (laws_FnTrainsPass.j0 k l1 t431 t433 t434 true t439 t440 true t445 t446 t447 t451 (t447 != (decide (t429 ≤ t431))) t429 t430) = some r := by rw [if_pos rfl] at H; exact H
                   clear H
                   have H := H1
                   clear H1
                   have H' := Aside0.mk H
                   clear H
                   try go_wp2
                   have n0_ := Aside0.mk (blk_drew BK432.out)
                   have n1_ := Aside0.mk (below_drew1 HB.out)
                   clear BK432
                   clear HB
                   have BK432 := n0_
                   have HB := n1_
                   clear n0_ n1_
                   refine start_ (n := 89) (S := fun w' => w'.cell? ⟨gb432, 0, none⟩ = some (.int .i64 t429) ∧ w'.cell? ⟨gb432, 1, none⟩ = some (.int .i64 t430)) (ds := []) #[false, false, false, false, false, false, false, false, false, false, false, false, false, false, false, false, false, false, false, false, false, false, false, false, false, false, false, false, false, false, false, false, false, false, false, false, false, false, false, false, false, false, false, false, false, false, false, false, false, false, false, false, false, false, false, false, false, false, false, false, false, false, false, false, false, false, false, false, false, false, false, false, false, false, false, false, false, false, false, false, false, false, false, false, false, false, false, false, false] (by kernel_rfl) rfl rfl ⟨(blk_cell BK432.out 0).trans rfl, (blk_cell BK432.out 1).trans rfl⟩ (fun hHeld => ?_); refine with_tabW laws_FnTrainsPass.tab12 laws_FnTrainsPass.bits12 (fun HT_ HW_ => ?_)
                   generalize w32.drew = w52 at BK432 HB hHeld ⊢
                   refine purS_ (i := 0) (N := some 148) (fl_ 89 1) HT_.out ?_
                   refine purS_ (i := 1) (N := some 149) (fl_ 89 2) HT_.out ?_
                   refine purS_ (i := 2) (N := some 150) (fl_ 89 3) HT_.out ?_
                   refine purS_ (i := 3) (N := some 151) (fl_ 89 4) HT_.out ?_
                   refine purS_ (i := 4) (N := some 152) (fl_ 89 5) HT_.out ?_
                   refine purS_ (i := 5) (N := some 153) (fl_ 89 6) HT_.out ?_
                   refine purS_ (i := 6) (N := some 154) (fl_ 89 7) HT_.out ?_
                   refine purS_ (i := 7) (N := some 155) (fl_ 89 8) HT_.out ?_
                   refine purS_ (i := 8) (N := some 156) (fl_ 89 9) HT_.out ?_
                   refine purS_ (i := 9) (N := some 157) (fl_ 89 10) HT_.out ?_
                   refine purS_ (i := 10) (N := some 158) (fl_ 89 11) HT_.out ?_
                   refine purS_ (i := 11) (N := some 159) (fl_ 89 12) HT_.out ?_
                   refine purS_ (i := 12) (N := some 160) (fl_ 89 13) HT_.out ?_
                   refine purS_ (i := 13) (N := some 161) (fl_ 89 14) HT_.out ?_
                   refine purS_ (i := 14) (N := some 162) (fl_ 89 15) HT_.out ?_
                   refine purS_ (i := 15) (N := some 163) (fl_ 89 16) HT_.out ?_
                   refine purS_ (i := 16) (N := some 164) (fl_ 89 17) HT_.out ?_
                   refine purS_ (i := 17) (N := some 165) (fl_ 89 18) HT_.out ?_
                   refine purS_ (i := 18) (N := some 166) (fl_ 89 19) HT_.out ?_
                   refine purS_ (i := 19) (N := some 167) (fl_ 89 20) HT_.out ?_
                   refine purS_ (i := 20) (N := some 168) (fl_ 89 21) HT_.out ?_
                   refine purS_ (i := 21) (N := some 169) (fl_ 89 22) HT_.out ?_
                   refine purS_ (i := 22) (N := some 170) (fl_ 89 23) HT_.out ?_
                   refine purS_ (i := 23) (N := some 171) (fl_ 89 24) HT_.out ?_
                   refine purS_ (i := 24) (N := some 172) (fl_ 89 25) HT_.out ?_
                   refine purS_ (i := 25) (N := some 173) (fl_ 89 26) HT_.out ?_
                   refine purS_ (i := 26) (N := some 174) (fl_ 89 27) HT_.out ?_
                   refine purS_ (i := 27) (N := some 175) (fl_ 89 28) HT_.out ?_
                   refine purS_ (i := 28) (N := some 176) (fl_ 89 29) HT_.out ?_
                   refine purS_ (i := 29) (N := some 177) (fl_ 89 30) HT_.out ?_
                   refine purS_ (i := 30) (N := some 178) (fl_ 89 31) HT_.out ?_
                   refine purS_ (i := 31) (N := some 179) (fl_ 89 32) HT_.out ?_
                   refine purS_ (i := 32) (N := some 180) (fl_ 89 33) HT_.out ?_
                   refine purS_ (i := 33) (N := some 181) (fl_ 89 34) HT_.out ?_
                   refine purS_ (i := 34) (N := some 182) (fl_ 89 35) HT_.out ?_
                   refine purS_ (i := 35) (N := some 183) (fl_ 89 36) HT_.out ?_
                   refine purS_ (i := 36) (N := some 184) (fl_ 89 37) HT_.out ?_
                   refine purS_ (i := 37) (N := some 185) (fl_ 89 38) HT_.out ?_
                   refine purS_ (i := 38) (N := some 186) (fl_ 89 39) HT_.out ?_
                   refine purS_ (i := 39) (N := some 187) (fl_ 89 40) HT_.out ?_
                   refine purS_ (i := 40) (N := some 188) (fl_ 89 41) HT_.out ?_
                   refine purS_ (i := 41) (N := some 189) (fl_ 89 42) HT_.out ?_
                   refine purS_ (i := 42) (N := some 190) (fl_ 89 43) HT_.out ?_
                   refine purS_ (i := 43) (N := some 191) (fl_ 89 44) HT_.out ?_
                   refine purS_ (i := 44) (N := some 192) (fl_ 89 45) HT_.out ?_
                   refine purS_ (i := 45) (N := some 193) (fl_ 89 46) HT_.out ?_
                   refine purS_ (i := 46) (N := some 194) (fl_ 89 47) HT_.out ?_
                   refine purS_ (i := 47) (N := some 195) (fl_ 89 48) HT_.out ?_
                   refine purS_ (i := 48) (N := some 196) (fl_ 89 49) HT_.out ?_
                   refine purS_ (i := 49) (N := some 197) (fl_ 89 50) HT_.out ?_
                   refine purS_ (i := 50) (N := some 198) (fl_ 89 51) HT_.out ?_
                   refine purS_ (i := 51) (N := some 199) (fl_ 89 52) HT_.out ?_
                   refine purS_ (i := 52) (N := some 200) (fl_ 89 53) HT_.out ?_
                   refine purS_ (i := 53) (N := some 201) (fl_ 89 54) HT_.out ?_
                   refine purS_ (i := 54) (N := some 202) (fl_ 89 55) HT_.out ?_
                   refine take_ (i := 55) (N := some 203) (v := ?_) (a' := ?_) #[true, true, true, true, true, true, true, true, true, true, true, true, true, true, true, true, true, true, true, true, true, true, true, true, true, true, true, true, true, true, true, true, true, true, true, true, true, true, true, true, true, true, true, true, true, true, true, true, true, true, true, true, true, true, true, true, false, false, false, false, false, false, false, false, false, false, false, false, false, false, false, false, false, false, false, false, false, false, false, false, false, false, false, false, false, false, false, false, false] rfl rfl (take_ofW HT_.out HW_.out (by kernel_rfl)) (fun _ _ _ h => h) (Or.inl ⟨by rfl, ?_⟩) hHeld ?_ ?_
                   rotate_left
                   ·rintro w' ⟨s0, s1⟩
                    go_simp
                    with_reducible rfl
                   rotate_left
                   ·simp only [Act.put, List.setIfInBounds_toArray, List.set_cons_zero, List.set_cons_succ, i64_w, i32_w]
                    rfl
                   refine one_ (i := 56) (N := some 204) #[true, true, true, true, true, true, true, true, true, true, true, true, true, true, true, true, true, true, true, true, true, true, true, true, true, true, true, true, true, true, true, true, true, true, true, true, true, true, true, true, true, true, true, true, true, true, true, true, true, true, true, true, true, true, true, true, true, false, false, false, false, false, false, false, false, false, false, false, false, false, false, false, false, false, false, false, false, false, false, false, false, false, false, false, false, false, false, false, false] rfl rfl (one_of HT_.out (by kernel_rfl)) (by decide) (fun K hK => ?_)
                   refine goes_ Tryz.func14 (by kernel_rfl) rfl #[.agg #[.int .i64 t429, .int .i64 t430]] (by rfl) rfl rfl am_ ?_
                   with_reducible refine (impl_IsTrain.calls t429 t430 t455 _ A44.out).mono ?_
                   rintro e w53 ⟨rfl, hb⟩
                   refine ⟨_, rfl, ?_⟩
                   have n0_ := Aside0.mk (blk_below (blk_to BK432) hb)
                   have n1_ := Aside0.mk (below_step (below_to1 HB GE432.out) hb)
                   clear BK432
                   clear HB
                   have BK432 := n0_
                   have HB := n1_
                   clear n0_ n1_
                   (try clear hb)
                   refine hK.out _ _ ⟨(blk_cell BK432.out 0).trans rfl, (blk_cell BK432.out 1).trans rfl⟩ (fun hHeld => ?_)
                   clear hK K
                   refine norm_ (a' := ?_) ?_ ?_
                   rotate_left
                   ·show Act.put _ (some 204) _ = _
                    simp only [Act.put, List.setIfInBounds_toArray, List.set_cons_zero, List.set_cons_succ, i64_w, i32_w]
                    rfl
                   refine purS_ (i := 57) (N := some 205) (fl_ 89 58) HT_.out ?_
                   refine purS_ (i := 58) (N := some 206) (fl_ 89 59) HT_.out ?_
                   refine purS_ (i := 59) (N := some 207) (fl_ 89 60) HT_.out ?_
                   refine take_ (i := 60) (N := some 208) (v := ?_) (a' := ?_) #[true, true, true, true, true, true, true, true, true, true, true, true, true, true, true, true, true, true, true, true, true, true, true, true, true, true, true, true, true, true, true, true, true, true, true, true, true, true, true, true, true, true, true, true, true, true, true, true, true, true, true, true, true, true, true, true, true, true, true, true, true, false, false, false, false, false, false, false, false, false, false, false, false, false, false, false, false, false, false, false, false, false, false, false, false, false, false, false, false] rfl rfl (take_ofW HT_.out HW_.out (by kernel_rfl)) (fun _ _ _ h => h) (Or.inl ⟨by rfl, ?_⟩) hHeld ?_ ?_
                   rotate_left
                   ·rintro w' ⟨s0, s1⟩
                    go_simp
                    with_reducible rfl
                   rotate_left
                   ·simp only [Act.put, List.setIfInBounds_toArray, List.set_cons_zero, List.set_cons_succ, i64_w, i32_w]
                    rfl
                   refine take_ (i := 62) (N := some 210) (v := ?_) (a' := ?_) #[true, true, true, true, true, true, true, true, true, true, true, true, true, true, true, true, true, true, true, true, true, true, true, true, true, true, true, true, true, true, true, true, true, true, true, true, true, true, true, true, true, true, true, true, true, true, true, true, true, true, true, true, true, true, true, true, true, true, true, true, true, false, true, false, false, false, false, false, false, false, false, false, false, false, false, false, false, false, false, false, false, false, false, false, false, false, false, false, false] rfl rfl (take_ofW HT_.out HW_.out (by kernel_rfl)) (fun _ _ _ h => h) (Or.inl ⟨by rfl, ?_⟩) hHeld ?_ ?_
                   rotate_left
                   ·rintro w' ⟨s0, s1⟩
                    go_simp
                    with_reducible rfl
                   rotate_left
                   ·simp only [Act.put, List.setIfInBounds_toArray, List.set_cons_zero, List.set_cons_succ, i64_w, i32_w]
                    rfl
                   refine one_ (i := 61) (N := some 209) #[true, true, true, true, true, true, true, true, true, true, true, true, true, true, true, true, true, true, true, true, true, true, true, true, true, true, true, true, true, true, true, true, true, true, true, true, true, true, true, true, true, true, true, true, true, true, true, true, true, true, true, true, true, true, true, true, true, true, true, true, true, true, true, false, false, false, false, false, false, false, false, false, false, false, false, false, false, false, false, false, false, false, false, false, false, false, false, false, false] rfl rfl (one_of HT_.out (by kernel_rfl)) (by decide) (fun K hK => ?_)
                   refine goes_ Tryz.func14 (by kernel_rfl) rfl #[.agg #[.int .i64 t429, .int .i64 t430]] (by rfl) rfl rfl am_ ?_
                   with_reducible refine (impl_IsTrain.calls t429 t430 t456 _ A46.out).mono ?_
                   rintro e w54 ⟨rfl, hb⟩
                   refine ⟨_, rfl, ?_⟩
                   have n0_ := Aside0.mk (blk_below (blk_to BK432) hb)
                   have n1_ := Aside0.mk (below_step (below_to1 HB GE432.out) hb)
                   clear BK432
                   clear HB
                   have BK432 := n0_
                   have HB := n1_
                   clear n0_ n1_
                   (try clear hb)
                   refine hK.out _ _ ⟨(blk_cell BK432.out 0).trans rfl, (blk_cell BK432.out 1).trans rfl⟩ (fun hHeld => ?_)
                   clear hK K
                   refine norm_ (a' := ?_) ?_ ?_
                   rotate_left
                   ·show Act.put _ (some 209) _ = _
                    simp only [Act.put, List.setIfInBounds_toArray, List.set_cons_zero, List.set_cons_succ, i64_w, i32_w]
                    rfl
                   refine one_ (i := 63) (N := some 211) #[true, true, true, true, true, true, true, true, true, true, true, true, true, true, true, true, true, true, true, true, true, true, true, true, true, true, true, true, true, true, true, true, true, true, true, true, true, true, true, true, true, true, true, true, true, true, true, true, true, true, true, true, true, true, true, true, true, true, true, true, true, true, true, true, false, false, false, false, false, false, false, false, false, false, false, false, false, false, false, false, false, false, false, false, false, false, false, false, false] rfl rfl (one_of HT_.out (by kernel_rfl)) (by decide) (fun K hK => ?_)
                   refine goes_ Tryz.func15 (by kernel_rfl) rfl #[.agg #[.int .i64 t429, .int .i64 t430]] (by rfl) rfl rfl am_ ?_
                   with_reducible refine (spec_IsTrain.calls t429 t430 t457 _ A47.out).mono ?_
                   rintro e w55 ⟨rfl, hb⟩
                   refine ⟨_, rfl, ?_⟩
                   have n0_ := Aside0.mk (blk_below (blk_to BK432) hb)
                   have n1_ := Aside0.mk (below_step (below_to1 HB GE432.out) hb)
                   clear BK432
                   clear HB
                   have BK432 := n0_
                   have HB := n1_
                   clear n0_ n1_
                   (try clear hb)
                   refine hK.out _ _ ⟨(blk_cell BK432.out 0).trans rfl, (blk_cell BK432.out 1).trans rfl⟩ (fun hHeld => ?_)
                   clear hK K
                   refine norm_ (a' := ?_) ?_ ?_
                   rotate_left
                   ·show Act.put _ (some 211) _ = _
                    simp only [Act.put, List.setIfInBounds_toArray, List.set_cons_zero, List.set_cons_succ, i64_w, i32_w]
                    rfl
                   refine purS_ (i := 64) (N := some 212) (fl_ 89 65) HT_.out ?_
                   refine purS_ (i := 65) (N := some 213) (fl_ 89 66) HT_.out ?_
                   refine purS_ (i := 66) (N := some 214) (fl_ 89 67) HT_.out ?_
                   refine purS_ (i := 67) (N := some 215) (fl_ 89 68) HT_.out ?_
                   refine purS_ (i := 68) (N := some 216) (fl_ 89 69) HT_.out ?_
                   refine purS_ (i := 69) (N := some 217) (fl_ 89 70) HT_.out ?_
                   refine purS_ (i := 70) (N := some 218) (fl_ 89 71) HT_.out ?_
                   refine purS_ (i := 71) (N := some 219) (fl_ 89 72) HT_.out ?_
                   refine purS_ (i := 72) (N := some 220) (fl_ 89 73) HT_.out ?_
                   refine purS_ (i := 73) (N := some 221) (fl_ 89 74) HT_.out ?_
                   refine purS_ (i := 74) (N := some 222) (fl_ 89 75) HT_.out ?_
                   refine purS_ (i := 75) (N := some 223) (fl_ 89 76) HT_.out ?_
                   refine purS_ (i := 76) (N := some 224) (fl_ 89 77) HT_.out ?_
                   refine purS_ (i := 77) (N := some 225) (fl_ 89 78) HT_.out ?_
                   refine purS_ (i := 78) (N := some 226) (fl_ 89 79) HT_.out ?_
                   refine purS_ (i := 79) (N := some 227) (fl_ 89 80) HT_.out ?_
                   refine purS_ (i := 80) (N := some 228) (fl_ 89 81) HT_.out ?_
                   refine purS_ (i := 81) (N := some 229) (fl_ 89 82) HT_.out ?_
                   refine purS_ (i := 82) (N := some 230) (fl_ 89 83) HT_.out ?_
                   refine purS_ (i := 84) (N := some 232) #[true, true, true, true, true, true, true, true, true, true, true, true, true, true, true, true, true, true, true, true, true, true, true, true, true, true, true, true, true, true, true, true, true, true, true, true, true, true, true, true, true, true, true, true, true, true, true, true, true, true, true, true, true, true, true, true, true, true, true, true, true, true, true, true, true, true, true, true, true, true, true, true, true, true, true, true, true, true, true, true, true, true, true, false, true, false, false, false, false] HT_.out ?_
                   refine take_ (i := 83) (N := some 231) (v := ?_) (a' := ?_) #[true, true, true, true, true, true, true, true, true, true, true, true, true, true, true, true, true, true, true, true, true, true, true, true, true, true, true, true, true, true, true, true, true, true, true, true, true, true, true, true, true, true, true, true, true, true, true, true, true, true, true, true, true, true, true, true, true, true, true, true, true, true, true, true, true, true, true, true, true, true, true, true, true, true, true, true, true, true, true, true, true, true, true, true, true, false, false, false, false] rfl rfl (take_ofW HT_.out HW_.out (by kernel_rfl)) (fun _ _ _ h => h) (Or.inl ⟨by rfl, ?_⟩) hHeld ?_ ?_
                   rotate_left
                   ·rintro w' ⟨s0, s1⟩
                    go_simp
                    with_reducible rfl
                   rotate_left
                   ·simp only [Act.put, List.setIfInBounds_toArray, List.set_cons_zero, List.set_cons_succ, i64_w, i32_w]
                    rfl
                   refine purS_ (i := 85) (N := some 233) (fl_ 89 86) HT_.out ?_
                   refine purS_ (i := 86) (N := some 234) (fl_ 89 87) HT_.out ?_
                   refine purS_ (i := 87) (N := some 235) (fl_ 89 88) HT_.out ?_
                   refine purS_ (i := 88) (N := some 236) (fl_ 89 89) HT_.out ?_
                   refine done_ (done_of HT_.out (by kernel_rfl)) ?_
                   try go_wp2
                   go_meet
                   case rel => exact ⟨_, ((t447 != (decide (t429 ≤ t431)))), (by first | rfl | (simp; done) | (simp [*]; done)), H', ⟨by first | omega | exact Nat.le_refl _⟩, ⟨blk_to BK432⟩, ⟨below_to1 HB GE432.out⟩⟩
                  ·replace c51 := Bool.eq_false_iff.mpr c51
                   subst c51
                   have H1 : (laws_FnTrainsPass.j0 k l1 t431 t433 t434 true t439 t440 false t445 t446 t447 t451 true t429 t430) = some r := by rw [if_neg (show ¬ (false = true) by decide)] at H; exact H
                   clear H
                   have H := H1
                   clear H1
                   exact absurd H (by rw [HR_.out]; cases k <;> simp [laws_FnTrainsPass.j0])
                 ·replace c50 := Bool.eq_false_iff.mpr c50
                  subst c50
                  have H1 : (laws_FnTrainsPass.j0 k l1 t431 t433 t434 false t439 t440 t441 t445 t446 t447 t451 (t447 != false) t429 t430) = some r := by rw [if_neg (show ¬ (false = true) by decide)] at H; exact H
                  clear H
                  have H := H1
                  clear H1
                  have H' := Aside0.mk H
                  clear H
                  try go_wp2
                  have n0_ := Aside0.mk (blk_drew BK432.out)
                  have n1_ := Aside0.mk (below_drew1 HB.out)
                  clear BK432
                  clear HB
                  have BK432 := n0_
                  have HB := n1_
                  clear n0_ n1_
                  refine start_ (n := 89) (S := fun w' => w'.cell? ⟨gb432, 0, none⟩ = some (.int .i64 t429) ∧ w'.cell? ⟨gb432, 1, none⟩ = some (.int .i64 t430)) (ds := []) #[false, false, false, false, false, false, false, false, false, false, false, false, false, false, false, false, false, false, false, false, false, false, false, false, false, false, false, false, false, false, false, false, false, false, false, false, false, false, false, false, false, false, false, false, false, false, false, false, false, false, false, false, false, false, false, false, false, false, false, false, false, false, false, false, false, false, false, false, false, false, false, false, false, false, false, false, false, false, false, false, false, false, false, false, false, false, false, false, false] (by kernel_rfl) rfl rfl ⟨(blk_cell BK432.out 0).trans rfl, (blk_cell BK432.out 1).trans rfl⟩ (fun hHeld => ?_); refine with_tabW laws_FnTrainsPass.tab12 laws_FnTrainsPass.bits12 (fun HT_ HW_ => ?_)
                  generalize w32.drew = w56 at BK432 HB hHeld ⊢
                  refine purS_ (i := 0) (N := some 148) (fl_ 89 1) HT_.out ?_
                  refine purS_ (i := 1) (N := some 149) (fl_ 89 2) HT_.out ?_
                  refine purS_ (i := 2) (N := some 150) (fl_ 89 3) HT_.out ?_
                  refine purS_ (i := 3) (N := some 151) (fl_ 89 4) HT_.out ?_
                  refine purS_ (i := 4) (N := some 152) (fl_ 89 5) HT_.out ?_
                  refine purS_ (i := 5) (N := some 153) (fl_ 89 6) HT_.out ?_
                  refine purS_ (i := 6) (N := some 154) (fl_ 89 7) HT_.out ?_
                  refine purS_ (i := 7) (N := some 155) (fl_ 89 8) HT_.out ?_
                  refine purS_ (i := 8) (N := some 156) (fl_ 89 9) HT_.out ?_
                  refine purS_ (i := 9) (N := some 157) (fl_ 89 10) HT_.out ?_
                  refine purS_ (i := 10) (N := some 158) (fl_ 89 11) HT_.out ?_
                  refine purS_ (i := 11) (N := some 159) (fl_ 89 12) HT_.out ?_
                  refine purS_ (i := 12) (N := some 160) (fl_ 89 13) HT_.out ?_
                  refine purS_ (i := 13) (N := some 161) (fl_ 89 14) HT_.out ?_
                  refine purS_ (i := 14) (N := some 162) (fl_ 89 15) HT_.out ?_
                  refine purS_ (i := 15) (N := some 163) (fl_ 89 16) HT_.out ?_
                  refine purS_ (i := 16) (N := some 164) (fl_ 89 17) HT_.out ?_
                  refine purS_ (i := 17) (N := some 165) (fl_ 89 18) HT_.out ?_
                  refine purS_ (i := 18) (N := some 166) (fl_ 89 19) HT_.out ?_
                  refine purS_ (i := 19) (N := some 167) (fl_ 89 20) HT_.out ?_
                  refine purS_ (i := 20) (N := some 168) (fl_ 89 21) HT_.out ?_
                  refine purS_ (i := 21) (N := some 169) (fl_ 89 22) HT_.out ?_
                  refine purS_ (i := 22) (N := some 170) (fl_ 89 23) HT_.out ?_
                  refine purS_ (i := 23) (N := some 171) (fl_ 89 24) HT_.out ?_
                  refine purS_ (i := 24) (N := some 172) (fl_ 89 25) HT_.out ?_
                  refine purS_ (i := 25) (N := some 173) (fl_ 89 26) HT_.out ?_
                  refine purS_ (i := 26) (N := some 174) (fl_ 89 27) HT_.out ?_
                  refine purS_ (i := 27) (N := some 175) (fl_ 89 28) HT_.out ?_
                  refine purS_ (i := 28) (N := some 176) (fl_ 89 29) HT_.out ?_
                  refine purS_ (i := 29) (N := some 177) (fl_ 89 30) HT_.out ?_
                  refine purS_ (i := 30) (N := some 178) (fl_ 89 31) HT_.out ?_
                  refine purS_ (i := 31) (N := some 179) (fl_ 89 32) HT_.out ?_
                  refine purS_ (i := 32) (N := some 180) (fl_ 89 33) HT_.out ?_
                  refine purS_ (i := 33) (N := some 181) (fl_ 89 34) HT_.out ?_
                  refine purS_ (i := 34) (N := some 182) (fl_ 89 35) HT_.out ?_
                  refine purS_ (i := 35) (N := some 183) (fl_ 89 36) HT_.out ?_
                  refine purS_ (i := 36) (N := some 184) (fl_ 89 37) HT_.out ?_
                  refine purS_ (i := 37) (N := some 185) (fl_ 89 38) HT_.out ?_
                  refine purS_ (i := 38) (N := some 186) (fl_ 89 39) HT_.out ?_
                  refine purS_ (i := 39) (N := some 187) (fl_ 89 40) HT_.out ?_
                  refine purS_ (i := 40) (N := some 188) (fl_ 89 41) HT_.out ?_
                  refine purS_ (i := 41) (N := some 189) (fl_ 89 42) HT_.out ?_
                  refine purS_ (i := 42) (N := some 190) (fl_ 89 43) HT_.out ?_
                  refine purS_ (i := 43) (N := some 191) (fl_ 89 44) HT_.out ?_
                  refine purS_ (i := 44) (N := some 192) (fl_ 89 45) HT_.out ?_
                  refine purS_ (i := 45) (N := some 193) (fl_ 89 46) HT_.out ?_
                  refine purS_ (i := 46) (N := some 194) (fl_ 89 47) HT_.out ?_
                  refine purS_ (i := 47) (N := some 195) (fl_ 89 48) HT_.out ?_
                  refine purS_ (i := 48) (N := some 196) (fl_ 89 49) HT_.out ?_
                  refine purS_ (i := 49) (N := some 197) (fl_ 89 50) HT_.out ?_
                  refine purS_ (i := 50) (N := some 198) (fl_ 89 51) HT_.out ?_
                  refine purS_ (i := 51) (N := some 199) (fl_ 89 52) HT_.out ?_
                  refine purS_ (i := 52) (N := some 200) (fl_ 89 53) HT_.out ?_
                  refine purS_ (i := 53) (N := some 201) (fl_ 89 54) HT_.out ?_
                  refine purS_ (i := 54) (N := some 202) (fl_ 89 55) HT_.out ?_
                  refine take_ (i := 55) (N := some 203) (v := ?_) (a' := ?_) #[true, true, true, true, true, true, true, true, true, true, true, true, true, true, true, true, true, true, true, true, true, true, true, true, true, true, true, true, true, true, true, true, true, true, true, true, true, true, true, true, true, true, true, true, true, true, true, true, true, true, true, true, true, true, true, true, false, false, false, false, false, false, false, false, false, false, false, false, false, false, false, false, false, false, false, false, false, false, false, false, false, false, false, false, false, false, false, false, false] rfl rfl (take_ofW HT_.out HW_.out (by kernel_rfl)) (fun _ _ _ h => h) (Or.inl ⟨by rfl, ?_⟩) hHeld ?_ ?_
                  rotate_left
                  ·rintro w' ⟨s0, s1⟩
                   go_simp
                   with_reducible rfl
                  rotate_left
                  ·simp only [Act.put, List.setIfInBounds_toArray, List.set_cons_zero, List.set_cons_succ, i64_w, i32_w]
                   rfl
                  refine one_ (i := 56) (N := some 204) #[true, true, true, true, true, true, true, true, true, true, true, true, true, true, true, true, true, true, true, true, true, true, true, true, true, true, true, true, true, true, true, true, true, true, true, true, true, true, true, true, true, true, true, true, true, true, true, true, true, true, true, true, true, true, true, true, true, false, false, false, false, false, false, false, false, false, false, false, false, false, false, false, false, false, false, false, false, false, false, false, false, false, false, false, false, false, false, false, false] rfl rfl (one_of HT_.out (by kernel_rfl)) (by decide) (fun K hK => ?_)
                  refine goes_ Tryz.func14 (by kernel_rfl) rfl #[.agg #[.int .i64 t429, .int .i64 t430]] (by rfl) rfl rfl am_ ?_
                  with_reducible refine (impl_IsTrain.calls t429 t430 t455 _ A44.out).mono ?_
                  rintro e w57 ⟨rfl, hb⟩
                  refine ⟨_, rfl, ?_⟩
                  have n0_ := Aside0.mk (blk_below (blk_to BK432) hb)
                  have n1_ := Aside0.mk (below_step (below_to1 HB GE432.out) hb)
                  clear BK432
                  clear HB
                  have BK432 := n0_
                  have HB := n1_
                  clear n0_ n1_
                  (try clear hb)
                  refine hK.out _ _ ⟨(blk_cell BK432.out 0).trans rfl, (blk_cell BK432.out 1).trans rfl⟩ (fun hHeld => ?_)
                  clear hK K
                  refine norm_ (a' := ?_) ?_ ?_
                  rotate_left
                  ·show Act.put _ (some 204) _ = _
                   simp only [Act.put, List.setIfInBounds_toArray, List.set_cons_zero, List.set_cons_succ, i64_w, i32_w]
                   rfl
                  refine purS_ (i := 57) (N := some 205) (fl_ 89 58) HT_.out ?_
                  refine purS_ (i := 58) (N := some 206) (fl_ 89 59) HT_.out ?_
                  refine purS_ (i := 59) (N := some 207) (fl_ 89 60) HT_.out ?_
                  refine take_ (i := 60) (N := some 208) (v := ?_) (a' := ?_) #[true, true, true, true, true, true, true, true, true, true, true, true, true, true, true, true, true, true, true, true, true, true, true, true, true, true, true, true, true, true, true, true, true, true, true, true, true, true, true, true, true, true, true, true, true, true, true, true, true, true, true, true, true, true, true, true, true, true, true, true, true, false, false, false, false, false, false, false, false, false, false, false, false, false, false, false, false, false, false, false, false, false, false, false, false, false, false, false, false] rfl rfl (take_ofW HT_.out HW_.out (by kernel_rfl)) (fun _ _ _ h => h) (Or.inl ⟨by rfl, ?_⟩) hHeld ?_ ?_
                  rotate_left
                  ·rintro w' ⟨s0, s1⟩
                   go_simp
                   with_reducible rfl
                  rotate_left
                  ·simp only [Act.put, List.setIfInBounds_toArray, List.set_cons_zero, List.set_cons_succ, i64_w, i32_w]
                   rfl
                  refine take_ (i := 62) (N := some 210) (v := ?_) (a' := ?_) #[true, true, true, true, true, true, true, true, true, true, true, true, true, true, true, true, true, true, true, true, true, true, true, true, true, true, true, true, true, true, true, true, true, true, true, true, true, true, true, true, true, true, true, true, true, true, true, true, true, true, true, true, true, true, true, true, true, true, true, true, true, false, true, false, false, false, false, false, false, false, false, false, false, false, false, false, false, false, false, false, false, false, false, false, false, false, false, false, false] rfl rfl (take_ofW HT_.out HW_.out (by kernel_rfl)) (fun _ _ _ h => h) (Or.inl ⟨by rfl, ?_⟩) hHeld ?_ ?_
                  rotate_left
                  ·rintro w' ⟨s0, s1⟩
                   go_simp
                   with_reducible rfl
                  rotate_left
                  ·simp only [Act.put, List.setIfInBounds_toArray, List.set_cons_zero, List.set_cons_succ, i64_w, i32_w]
                   rfl
                  refine one_ (i := 61) (N := some 209) #[true, true, true, true, true, true, true, true, true, true, true, true, true, true, true, true, true, true, true, true, true, true, true, true, true, true, true, true, true, true, true, true, true, true, true, true, true, true, true, true, true, true, true, true, true, true, true, true, true, true, true, true, true, true, true, true, true, true, true, true, true, true, true, false, false, false, false, false, false, false, false, false, false, false, false, false, false, false, false, false, false, false, false, false, false, false, false, false, false] rfl rfl (one_of HT_.out (by kernel_rfl)) (by decide) (fun K hK => ?_)
                  refine goes_ Tryz.func14 (by kernel_rfl) rfl #[.agg #[.int .i64 t429, .int .i64 t430]] (by rfl) rfl rfl am_ ?_
                  with_reducible refine (impl_IsTrain.calls t429 t430 t456 _ A46.out).mono ?_
                  rintro e w58 ⟨rfl, hb⟩
                  refine ⟨_, rfl, ?_⟩
                  have n0_ := Aside0.mk (blk_below (blk_to BK432) hb)
                  have n1_ := Aside0.mk (below_step (below_to1 HB GE432.out) hb)
                  clear BK432
                  clear HB
                  have BK432 := n0_
                  have HB := n1_
                  clear n0_ n1_
                  (try clear hb)
                  refine hK.out _ _ ⟨(blk_cell BK432.out 0).trans rfl, (blk_cell BK432.out 1).trans rfl⟩ (fun hHeld => ?_)
                  clear hK K
                  refine norm_ (a' := ?_) ?_ ?_
                  rotate_left
                  ·show Act.put _ (some 209) _ = _
                   simp only [Act.put, List.setIfInBounds_toArray, List.set_cons_zero, List.set_cons_succ, i64_w, i32_w]
                   rfl
                  refine one_ (i := 63) (N := some 211) #[true, true, true, true, true, true, true, true, true, true, true, true, true, true, true, true, true, true, true, true, true, true, true, true, true, true, true, true, true, true, true, true, true, true, true, true, true, true, true, true, true, true, true, true, true, true, true, true, true, true, true, true, true, true, true, true, true, true, true, true, true, true, true, true, false, false, false, false, false, false, false, false, false, false, false, false, false, false, false, false, false, false, false, false, false, false, false, false, false] rfl rfl (one_of HT_.out (by kernel_rfl)) (by decide) (fun K hK => ?_)
                  refine goes_ Tryz.func15 (by kernel_rfl) rfl #[.agg #[.int .i64 t429, .int .i64 t430]] (by rfl) rfl rfl am_ ?_
                  with_reducible refine (spec_IsTrain.calls t429 t430 t457 _ A47.out).mono ?_
                  rintro e w59 ⟨rfl, hb⟩
                  refine ⟨_, rfl, ?_⟩
                  have n0_ := Aside0.mk (blk_below (blk_to BK432) hb)
                  have n1_ := Aside0.mk (below_step (below_to1 HB GE432.out) hb)
                  clear BK432
                  clear HB
                  have BK432 := n0_
                  have HB := n1_
                  clear n0_ n1_
                  (try clear hb)
                  refine hK.out _ _ ⟨(blk_cell BK432.out 0).trans rfl, (blk_cell BK432.out 1).trans rfl⟩ (fun hHeld => ?_)
                  clear hK K
                  refine norm_ (a' := ?_) ?_ ?_
                  rotate_left
                  ·show Act.put _ (some 211) _ = _
                   simp only [Act.put, List.setIfInBounds_toArray, List.set_cons_zero, List.set_cons_succ, i64_w, i32_w]
                   rfl
                  refine purS_ (i := 64) (N := some 212) (fl_ 89 65) HT_.out ?_
                  refine purS_ (i := 65) (N := some 213) (fl_ 89 66) HT_.out ?_
                  refine purS_ (i := 66) (N := some 214) (fl_ 89 67) HT_.out ?_
                  refine purS_ (i := 67) (N := some 215) (fl_ 89 68) HT_.out ?_
                  refine purS_ (i := 68) (N := some 216) (fl_ 89 69) HT_.out ?_
                  refine purS_ (i := 69) (N := some 217) (fl_ 89 70) HT_.out ?_
                  refine purS_ (i := 70) (N := some 218) (fl_ 89 71) HT_.out ?_
                  refine purS_ (i := 71) (N := some 219) (fl_ 89 72) HT_.out ?_
                  refine purS_ (i := 72) (N := some 220) (fl_ 89 73) HT_.out ?_
                  refine purS_ (i := 73) (N := some 221) (fl_ 89 74) HT_.out ?_
                  refine pure_ (i := 74) (N := some 222) (v := undef) (a' := ?_) (fl_ 89 75) rfl rfl (any_of HT_.out (by kernel_rfl)) (fun _ _ _ h => h) (Or.inr ⟨by rfl, rfl⟩) ?_ ?_
                  rotate_left
                  ·simp only [Act.put, List.setIfInBounds_toArray, List.set_cons_zero, List.set_cons_succ, i64_w, i32_w]
                   rfl
                  refine pure_ (i := 75) (N := some 223) (v := undef) (a' := ?_) (fl_ 89 76) rfl rfl (any_of HT_.out (by kernel_rfl)) (fun _ _ _ h => h) (Or.inr ⟨by rfl, rfl⟩) ?_ ?_
                  rotate_left
                  ·simp only [Act.put, List.setIfInBounds_toArray, List.set_cons_zero, List.set_cons_succ, i64_w, i32_w]
                   rfl
                  refine purS_ (i := 76) (N := some 224) (fl_ 89 77) HT_.out ?_
                  refine purS_ (i := 77) (N := some 225) (fl_ 89 78) HT_.out ?_
                  refine purS_ (i := 78) (N := some 226) (fl_ 89 79) HT_.out ?_
                  refine purS_ (i := 79) (N := some 227) (fl_ 89 80) HT_.out ?_
                  refine purS_ (i := 80) (N := some 228) (fl_ 89 81) HT_.out ?_
                  refine purS_ (i := 81) (N := some 229) (fl_ 89 82) HT_.out ?_
                  refine pure_ (i := 82) (N := some 230) (v := undef) (a' := ?_) (fl_ 89 83) rfl rfl (any_of HT_.out (by kernel_rfl)) (fun _ _ _ h => h) (Or.inr ⟨by rfl, rfl⟩) ?_ ?_
                  rotate_left
                  ·simp only [Act.put, List.setIfInBounds_toArray, List.set_cons_zero, List.set_cons_succ, i64_w, i32_w]
                   rfl
                  refine pure_ (i := 83) (N := some 231) (v := undef) (a' := ?_) (fl_ 89 84) rfl rfl (any_of HT_.out (by kernel_rfl)) (fun _ _ _ h => h) (Or.inr ⟨by rfl, rfl⟩) ?_ ?_
                  rotate_left
                  ·simp only [Act.put, List.setIfInBounds_toArray, List.set_cons_zero, List.set_cons_succ, i64_w, i32_w]
                   rfl
                  refine pure_ (i := 84) (N := some 232) (v := undef) (a' := ?_) (fl_ 89 85) rfl rfl (any_of HT_.out (by kernel_rfl)) (fun _ _ _ h => h) (Or.inr ⟨by rfl, rfl⟩) ?_ ?_
                  rotate_left
                  ·simp only [Act.put, List.setIfInBounds_toArray, List.set_cons_zero, List.set_cons_succ, i64_w, i32_w]
                   rfl
                  refine pure_ (i := 85) (N := some 233) (v := undef) (a' := ?_) (fl_ 89 86) rfl rfl (any_of HT_.out (by kernel_rfl)) (fun _ _ _ h => h) (Or.inr ⟨by rfl, rfl⟩) ?_ ?_
                  rotate_left
                  ·simp only [Act.put, List.setIfInBounds_toArray, List.set_cons_zero, List.set_cons_succ, i64_w, i32_w]
                   rfl
                  refine purS_ (i := 86) (N := some 234) (fl_ 89 87) HT_.out ?_
                  refine purS_ (i := 87) (N := some 235) (fl_ 89 88) HT_.out ?_
                  refine purS_ (i := 88) (N := some 236) (fl_ 89 89) HT_.out ?_
                  refine done_ (done_of HT_.out (by kernel_rfl)) ?_
                  try go_wp2
                  go_meet
                  case rel => exact ⟨_, ((t447 != false)), (by first | rfl | (simp; done) | (simp [*]; done)), H', ⟨by first | omega | exact Nat.le_refl _⟩, ⟨blk_to BK432⟩, ⟨below_to1 HB GE432.out⟩⟩
             ·rw [if_neg c43] at H
              have c43b0 : (t451.toList == t453.toList) = false := beq_eq_false_iff_ne.mpr c43
              have c43b1 : (t451.toList != t453.toList) = true := bne_iff_ne.mpr c43
              exact absurd H (by rw [HR_.out]; cases k <;> simp [laws_FnTrainsPass.j0])
           ·rw [if_neg c41] at H
            have c41b0 : (t446 == t449) = false := beq_eq_false_iff_ne.mpr c41
            have c41b1 : (t446 != t449) = true := bne_iff_ne.mpr c41
            exact absurd H (by rw [HR_.out]; cases k <;> simp [laws_FnTrainsPass.j0])
          ·rw [if_neg c40] at H
           have c40b0 : (t445 == t448) = false := beq_eq_false_iff_ne.mpr c40
           have c40b1 : (t445 != t448) = true := bne_iff_ne.mpr c40
           exact absurd H (by rw [HR_.out]; cases k <;> simp [laws_FnTrainsPass.j0])
        ·rw [if_neg c38] at H
         have c38b0 : (t440 == t443) = false := beq_eq_false_iff_ne.mpr c38
         have c38b1 : (t440 != t443) = true := bne_iff_ne.mpr c38
         exact absurd H (by rw [HR_.out]; cases k <;> simp [laws_FnTrainsPass.j0])
       ·rw [if_neg c37] at H
        have c37b0 : (t439 == t442) = false := beq_eq_false_iff_ne.mpr c37
        have c37b1 : (t439 != t442) = true := bne_iff_ne.mpr c37
        exact absurd H (by rw [HR_.out]; cases k <;> simp [laws_FnTrainsPass.j0])
     ·rw [if_neg c35] at H
      have c35b0 : (t434 == t437) = false := beq_eq_false_iff_ne.mpr c35
      have c35b1 : (t434 != t437) = true := bne_iff_ne.mpr c35
      exact absurd H (by rw [HR_.out]; cases k <;> simp [laws_FnTrainsPass.j0])
    ·rw [if_neg c34] at H
     have c34b0 : (t433 == t436) = false := beq_eq_false_iff_ne.mpr c34
     have c34b1 : (t433 != t436) = true := bne_iff_ne.mpr c34
     exact absurd H (by rw [HR_.out]; cases k <;> simp [laws_FnTrainsPass.j0])
  case rest =>
   clear HC14
   (try clear c1); (try clear c4); (try clear c34); (try clear c34b0); (try clear c34b1); (try clear c35); (try clear c35b0); (try clear c35b1); (try clear c37); (try clear c37b0); (try clear c37b1); (try clear c38); (try clear c38b0); (try clear c38b1); (try clear c40); (try clear c40b0); (try clear c40b1); (try clear c41); (try clear c41b0); (try clear c41b1); (try clear c43); (try clear c43b0); (try clear c43b1)
   obtain ⟨kq, x236_13, rfl, HA, HJ13, BK432, HB⟩ := hcut
   cases kq with
   | zero => exact absurd HA.out (by simp [laws_FnTrainsPass.j0])
   | succ kj13 =>
    have H := HA.out
    clear HA
    simp only [laws_FnTrainsPass.j0] at H
    by_cases c60 : x236_13 = true
    ·subst c60
     have H1 : (some false) = some r := by rw [if_pos rfl] at H; exact H
     clear H
     have H := H1
     clear H1
     exact absurd (Option.some.inj H).symm (by rw [HR_.out]; decide)
    ·replace c60 := Bool.eq_false_iff.mpr c60
     subst c60
     have H1 : (if t441 = true then ((impl_ParseTrain.f kj13 t451).bind fun bt458 => ((laws_qIs.f kj13 t439 t440 t429 t430).bind fun t462 => (if t462 = true then (if bt458.2.2 = true then (if (!(bt458.1 == t429) || (!(bt458.2.1 == t430))) = true then (some false) else (laws_FnTrainsPass.j1 kj13 l1 t431 t433 t434 t435 t439 t440 t445 t446 t447 t429 t430)) else (some false)) else (some false)))) else (laws_FnTrainsPass.j1 kj13 l1 t431 t433 t434 t435 t439 t440 t445 t446 t447 t429 t430)) = some r := by rw [if_neg (show ¬ (false = true) by decide)] at H; exact H
     clear H
     have H := H1
     clear H1
     have HC61 := Aside0.mk H
     clear H
     go_upto_if 237 with (fail)
     go_cut [] from 100000 (fun wc => ∃ (kq : Nat), Aside0 (laws_FnTrainsPass.j1 kq l1 t431 t433 t434 t435 t439 t440 t445 t446 t447 t429 t430 = some r) ∧ Aside0 (kq ≤ kj13) ∧ Aside0 (wc.heap[gb432]? = some (.cells #[.int .i64 t429, .int .i64 t430] 25 (0, 0))) ∧ Aside0 (Below w.heap.size w wc))
     case first =>
      (try conv => arg 2; dsimp only [List.append_eq, List.cons_append, List.nil_append])
      have H := HC61.out
      clear HC61
      by_cases c62 : t441 = true
      ·subst c62
       have H1 : ((impl_ParseTrain.f kj13 t451).bind fun bt458 => ((laws_qIs.f kj13 t439 t440 t429 t430).bind fun t462 => (if t462 = true then (if bt458.2.2 = true then (if (!(bt458.1 == t429) || (!(bt458.2.1 == t430))) = true then (some false) else (laws_FnTrainsPass.j1 kj13 l1 t431 t433 t434 t435 t439 t440 t445 t446 t447 t429 t430)) else (some false)) else (some false)))) = some r := by rw [if_pos rfl] at H; exact H
       clear H
       have H := H1
       clear H1
       replace H := Option.bind_eq_some_iff.mp H
       obtain ⟨⟨t458, t459, t460⟩, A630, H⟩ := H
       (try dsimp only at H)
       have A63 := Aside0.mk A630
       clear A630
       replace H := Option.bind_eq_some_iff.mp H
       obtain ⟨t462, A640, H⟩ := H
       replace H : (if t462 = true then (if t460 = true then (if (!(t458 == t429) || (!(t459 == t430))) = true then (some false) else (laws_FnTrainsPass.j1 kj13 l1 t431 t433 t434 t435 t439 t440 t445 t446 t447 t429 t430)) else (some false)) else (some false)) = some r := H
       have A64 := Aside0.mk A640
       clear A640
       by_cases c65 : t462 = true
       ·subst c65
        have H1 : (if t460 = true then (if (!(t458 == t429) || (!(t459 == t430))) = true then (some false) else (laws_FnTrainsPass.j1 kj13 l1 t431 t433 t434 t435 t439 t440 t445 t446 t447 t429 t430)) else (some false)) = some r := by rw [if_pos rfl] at H; exact H
        clear H
        have H := H1
        clear H1
        by_cases c66 : t460 = true
        ·subst c66
         have H1 : (if (!(t458 == t429) || (!(t459 == t430))) = true then (some false) else (laws_FnTrainsPass.j1 kj13 l1 t431 t433 t434 t435 t439 t440 t445 t446 t447 t429 t430)) = some r := by rw [if_pos rfl] at H; exact H
         clear H
         have H := H1
         clear H1
         by_cases c67 : (!(t458 == t429) || (!(t459 == t430))) = true
         ·rw [if_pos c67] at H
          have c67b0 : (!(t458 == t429) || (!(t459 == t430))) = true := c67
          clear c67
          (first | rw [c67b0] | (simp only [i64_w, i32_w]; rw [c67b0]) | skip)
          exact absurd (Option.some.inj H).symm (by rw [HR_.out]; decide)
         ·rw [if_neg c67] at H
          have c67b0 : (!(t458 == t429) || (!(t459 == t430))) = false := by simpa using c67
          clear c67
          (first | rw [c67b0] | (simp only [i64_w, i32_w]; rw [c67b0]) | skip)
          have H' := Aside0.mk H
          clear H
          go_wp2_with (first | ((with_reducible refine gate_callee (f := 16) rfl ?_); refine goesL_ (some 240) rfl rfl Tryz.func16 (by kernel_rfl) rfl #[.string t451] rfl am_ ?_; (with_reducible refine (impl_ParseTrain.calls kj13 t451 t458 t459 true _ A63.out ?sidet).mono ?_); (case sidet => refine Go.Proofs.YtnbmplhcbliclaaGreatDoor.XText.T2.on (w := w) HTab_.out ?_; repeat (first | (with_reducible first | exact HB.out | exact Below.refl _ _ | apply below_alloc | apply pw_below_drewN | apply below_drew1 | refine below_set ?_ GE432.out | refine below_set ?_ GE461.out | refine below_set ?_ GE475.out | refine below_set ?_ GE476.out | refine below_set ?_ GE494.out | refine below_set ?_ GE495.out | refine below_set ?_ GE506.out | refine below_set ?_ GE530.out | refine below_set ?_ GE534.out) | exact HB.out | exact Below.refl _ _)); rintro e w68 ⟨rfl, hb⟩; refine ⟨_, rfl, ?_⟩; replace BK432 := Aside0.mk (blk_below (blk_to BK432) hb); replace HB := Aside0.mk (below_step (below_to1 HB GE432.out) hb); (try clear hb)) | ((with_reducible refine gate_dst (N := 29) rfl ?_); refine box_event ?hg (N := 29) ?hd (cs := #[.int .i64 0, .int .i64 0]) (t := 25) ?hr ?_; (case hd => rfl); (case hg => rfl); (case hr => first | (go_simp; done) | (go_simp; rfl)); intro gb461 hg w69 hbox hb; have n0_ := Aside0.mk (blk_below (blk_to BK432) hb); have n1_ := Aside0.mk (below_step (below_to1 HB GE432.out) hb); have n2_ := Aside0.mk (hbox); have n3_ := Aside0.mk ((by rw [hg]; exact (below_size (below_to1 HB GE432.out)) : w.heap.size ≤ gb461)); have n4_ := Aside0.mk ((by rw [hg]; exact (below_size (below_to1 HB GE432.out)) : w.heap.size ≤ gb461)); have n5_ := Aside0.mk ((by rw [hg]; exact Nat.ne_of_lt (blk_lt (blk_to BK432)) : gb432 ≠ gb461)); have n6_ := Aside0.mk ((by rw [hg]; exact Nat.ne_of_gt (blk_lt (blk_to BK432)) : gb461 ≠ gb432)); clear BK432; clear HB; have BK432 := n0_; have HB := n1_; have BK461 := n2_; have GW461 := n3_; have GE461 := n4_; have NB432_461 := n5_; have NB461_432 := n6_; clear n0_ n1_ n2_ n3_ n4_ n5_ n6_; clear hb hbox hg; have hnb70 := NB461_432.out; have hnc70 := NB432_461.out; have hcz71_0 : w69.cell? ⟨gb461, 0, none⟩ = some (.int .i64 0) := (blk_cell BK461.out 0).trans rfl; have hcz71_1 : w69.cell? ⟨gb461, 1, none⟩ = some (.int .i64 0) := (blk_cell BK461.out 1).trans rfl; have hfz71_0 := blk_frozen BK461.out 0; have hfz71_1 := blk_frozen BK461.out 1; have hcz72_0 : w69.cell? ⟨gb432, 0, none⟩ = some (.int .i64 t429) := (blk_cell BK432.out 0).trans rfl; have hcz72_1 : w69.cell? ⟨gb432, 1, none⟩ = some (.int .i64 t430) := (blk_cell BK432.out 1).trans rfl; have hfz72_0 := blk_frozen BK432.out 0; have hfz72_1 := blk_frozen BK432.out 1) | ((with_reducible refine gate_callee (f := 17) rfl ?_); refine goesL_ (some 249) rfl rfl Tryz.func17 (by kernel_rfl) rfl #[.int .i64 t439, .int .i64 t440, .int .i64 t429, .int .i64 t430] rfl am_ ?_; (with_reducible refine (laws_qIs.calls kj13 t439 t440 t429 t430 true _ A64.out).mono ?_); rintro e w' ⟨rfl, ⟨nd, rfl⟩⟩; refine ⟨_, rfl, ?_⟩))
          go_meet
          case rel => exact ⟨_, H', ⟨by have := HJ13.out; first | omega | exact Nat.le_refl _⟩, ⟨blk_to2 BK432 NB432_461.out NB432_461.out⟩, ⟨below_to2 HB GE432.out GE461.out⟩⟩
        ·replace c66 := Bool.eq_false_iff.mpr c66
         subst c66
         have H1 : (some false) = some r := by rw [if_neg (show ¬ (false = true) by decide)] at H; exact H
         clear H
         have H := H1
         clear H1
         exact absurd (Option.some.inj H).symm (by rw [HR_.out]; decide)
       ·replace c65 := Bool.eq_false_iff.mpr c65
        subst c65
        have H1 : (some false) = some r := by rw [if_neg (show ¬ (false = true) by decide)] at H; exact H
        clear H
        have H := H1
        clear H1
        exact absurd (Option.some.inj H).symm (by rw [HR_.out]; decide)
      ·replace c62 := Bool.eq_false_iff.mpr c62
       subst c62
       have H1 : (laws_FnTrainsPass.j1 kj13 l1 t431 t433 t434 t435 t439 t440 t445 t446 t447 t429 t430) = some r := by rw [if_neg (show ¬ (false = true) by decide)] at H; exact H
       clear H
       have H := H1
       clear H1
       have H' := Aside0.mk H
       clear H
       go_wp2
       go_meet
       case rel => exact ⟨_, H', ⟨by have := HJ13.out; first | omega | exact Nat.le_refl _⟩, ⟨blk_to BK432⟩, ⟨below_to1 HB GE432.out⟩⟩
     case rest =>
      clear HC61
      (try clear c1); (try clear c4); (try clear c34); (try clear c34b0); (try clear c34b1); (try clear c35); (try clear c35b0); (try clear c35b1); (try clear c37); (try clear c37b0); (try clear c37b1); (try clear c38); (try clear c38b0); (try clear c38b1); (try clear c40); (try clear c40b0); (try clear c40b1); (try clear c41); (try clear c41b0); (try clear c41b1); (try clear c43); (try clear c43b0); (try clear c43b1); (try clear c60); (try clear c62); (try clear c65); (try clear c66); (try clear c67); (try clear c67b0); (try clear hcz71_0); (try clear hcz71_1); (try clear hcz72_0); (try clear hcz72_1); (try clear hfz71_0); (try clear hfz71_1); (try clear hfz72_0); (try clear hfz72_1)
      obtain ⟨kq, HA, HJ60, BK432, HB⟩ := hcut
      go_step
      exact laws_FnTrainsPass.seg1 k A1 c1 l1 r w HTab_ HR_ hu25 HR1 HC1 t429 t430 t431 t433 t434 t435 t439 t440 t445 t446 t447 nd gb432 w16 GW432 GE432 hcz17_0 hcz17_1 hfz17_0 hfz17_1 w18 hcz19_0 hcz19_1 hfz19_0 hfz19_1 w20 hcz21_0 hcz21_1 hfz21_0 hfz21_1 w22 hcz23_0 hcz23_1 hfz23_0 hfz23_1 w24 hcz25_0 hcz25_1 hfz25_0 hfz25_1 w26 hcz27_0 hcz27_1 hfz27_0 hfz27_1 w28 hcz29_0 hcz29_1 hfz29_0 hfz29_1 w30 hcz31_0 hcz31_1 hfz31_0 hfz31_1 kj13 HJ13 wc u4 kq HA HJ60 BK432 HB

end Go.Proofs.YtnbmplhcbliclaaGreatDoor.QT
