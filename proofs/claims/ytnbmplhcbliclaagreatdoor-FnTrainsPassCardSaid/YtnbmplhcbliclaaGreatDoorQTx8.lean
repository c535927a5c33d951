-- WRITTEN BY a program of this session (wip/xprint.py, over the kit's print): Lean checks it.
import Derived.Test.YtnbmplhcbliclaaGreatDoorQTx0
import Derived.Test.YtnbmplhcbliclaaGreatDoorQTx2
import Derived.Test.YtnbmplhcbliclaaGreatDoorQTx3
import Derived.Test.YtnbmplhcbliclaaGreatDoorQTx7
namespace Go.Proofs.YtnbmplhcbliclaaGreatDoor.QT
open Go.Proofs.YtnbmplhcbliclaaGreatDoor.X Go.RowKit Go.Proofs.YtnbmplhcbliclaaGreatDoorW.PrintWords Go.Proofs.YtnbmplhcbliclaaGreatDoorW.PrintLast Go.Proofs.YtnbmplhcbliclaaGreatDoorW.PrintMore
attribute [local go_sem] max2_int min2_int max_two min_two max_three min_three max_four min_four   -- for this text's walks alone
set_option linter.unusedVariables false
set_option linter.unusedSimpArgs false

/-! ### spec_PassWalker: function 29 -/
def spec_PassWalker.j0 : Nat → Int → Bool → Bool → Int → Int → Option (Int × Int × Bool)
 | 0, _, _, _, _, _ => none
 | k + 1, x1, x2, x28, x360000, x360001 => if x28 = true then (some (0, 0, false)) else ((spec_tiRate.f x360001 x1 x2).bind fun t362 => ((spec_tiLow.f k x360000 t362).bind fun bt363 => (some (bt363.1, bt363.2, true))))
def spec_PassWalker.f (k : Nat) (a0_0 : Int) (a0_1 : Int) (a1 : Int) (a2 : Bool) : Option (Int × Int × Bool) := (spec_tiGood.f a0_0 a0_1).bind fun t360 => (if t360 = true then ((spec_l1In.f a1 1 100).bind fun t361 => (if t361 = true then (if a2 = true then (spec_PassWalker.j0 k a1 a2 false a0_0 a0_1) else (spec_PassWalker.j0 k a1 a2 (decide (a1 ≥ a0_1)) a0_0 a0_1)) else (spec_PassWalker.j0 k a1 a2 true a0_0 a0_1))) else (spec_PassWalker.j0 k a1 a2 true a0_0 a0_1))
set_option maxHeartbeats 8000000 in
set_option maxRecDepth 100000 in
theorem spec_PassWalker.calls (k : Nat) (a0_0 : Int) (a0_1 : Int) (a1 : Int) (a2 : Bool) (r1 : Int) (r2 : Int) (r3 : Bool) (w : World) (h : spec_PassWalker.f k a0_0 a0_1 a1 a2 = some (r1, r2, r3)) :
  Calls Tryz.prog 29 #[.agg #[.int .i64 a0_0, .int .i64 a0_1], .int .i64 a1, .bool a2] w fun e w' => e = .returned (.tuple #[.int .i64 r1, .int .i64 r2, .bool r3]) ∧ Below w.heap.size w w' := by
 have hu25 := Tryz.underlying25
 have HB := Aside0.mk (Below.refl w.heap.size w)
 have H : ((spec_tiGood.f a0_0 a0_1).bind fun t360 => (if t360 = true then ((spec_l1In.f a1 1 100).bind fun t361 => (if t361 = true then (if a2 = true then (spec_PassWalker.j0 k a1 a2 false a0_0 a0_1) else (spec_PassWalker.j0 k a1 a2 (decide (a1 ≥ a0_1)) a0_0 a0_1)) else (spec_PassWalker.j0 k a1 a2 true a0_0 a0_1))) else (spec_PassWalker.j0 k a1 a2 true a0_0 a0_1))) = some (r1, r2, r3) := h
 clear h
 have HC4 := Aside0.mk H
 clear H
 go_enter Tryz.func29, Tryz.ntmps29
 go_upto_region 1 with (first | ((with_reducible refine gate_dst (N := 3) rfl ?_); refine box_event ?hg (N := 3) ?hd (cs := #[.int .i64 a0_0, .int .i64 a0_1]) (t := 25) ?hr ?_; (case hd => rfl); (case hg => rfl); (case hr => first | (go_simp; done) | (go_simp; rfl)); intro gb359 hg w5 hbox hb; have n0_ := Aside0.mk (below_step (below_to HB) hb); have n1_ := Aside0.mk (hbox); have n2_ := Aside0.mk ((by rw [hg]; exact (below_size (below_to HB)) : w.heap.size ≤ gb359)); have n3_ := Aside0.mk ((by rw [hg]; exact (below_size (below_to HB)) : w.heap.size ≤ gb359)); clear HB; have HB := n0_; have BK359 := n1_; have GW359 := n2_; have GE359 := n3_; clear n0_ n1_ n2_ n3_; clear hb hbox hg))
 repeat (go_quiet (first | ((with_reducible refine gate_dst (N := 3) rfl ?_); refine box_event ?hg (N := 3) ?hd (cs := #[.int .i64 a0_0, .int .i64 a0_1]) (t := 25) ?hr ?_; (case hd => rfl); (case hg => rfl); (case hr => first | (go_simp; done) | (go_simp; rfl)); intro gb359 hg w5 hbox hb; have n0_ := Aside0.mk (below_step (below_to HB) hb); have n1_ := Aside0.mk (hbox); have n2_ := Aside0.mk ((by rw [hg]; exact (below_size (below_to HB)) : w.heap.size ≤ gb359)); have n3_ := Aside0.mk ((by rw [hg]; exact (below_size (below_to HB)) : w.heap.size ≤ gb359)); clear HB; have HB := n0_; have BK359 := n1_; have GW359 := n2_; have GE359 := n3_; clear n0_ n1_ n2_ n3_; clear hb hbox hg)); go_upto_region 1 with (first | ((with_reducible refine gate_dst (N := 3) rfl ?_); refine box_event ?hg (N := 3) ?hd (cs := #[.int .i64 a0_0, .int .i64 a0_1]) (t := 25) ?hr ?_; (case hd => rfl); (case hg => rfl); (case hr => first | (go_simp; done) | (go_simp; rfl)); intro gb359 hg w5 hbox hb; have n0_ := Aside0.mk (below_step (below_to HB) hb); have n1_ := Aside0.mk (hbox); have n2_ := Aside0.mk ((by rw [hg]; exact (below_size (below_to HB)) : w.heap.size ≤ gb359)); have n3_ := Aside0.mk ((by rw [hg]; exact (below_size (below_to HB)) : w.heap.size ≤ gb359)); clear HB; have HB := n0_; have BK359 := n1_; have GW359 := n2_; have GE359 := n3_; clear n0_ n1_ n2_ n3_; clear hb hbox hg)))
 (try simp only [Act.put, List.setIfInBounds_toArray, List.set_cons_zero, List.set_cons_succ])
 go_cut [28] (fun v28 wc => ∃ (kq : Nat) (x28_3 : Bool), v28 = .bool x28_3 ∧ Aside0 (spec_PassWalker.j0 kq a1 a2 x28_3 a0_0 a0_1 = some (r1, r2, r3)) ∧ Aside0 (kq ≤ k) ∧ Aside0 (wc.heap[gb359]? = some (.cells #[.int .i64 a0_0, .int .i64 a0_1] 25 (0, 0))) ∧ Aside0 (Below w.heap.size w wc))
 case first =>
  have H := HC4.out
  clear HC4
  replace H := Option.bind_eq_some_iff.mp H
  obtain ⟨t360, A60, H⟩ := H
  replace H : (if t360 = true then ((spec_l1In.f a1 1 100).bind fun t361 => (if t361 = true then (if a2 = true then (spec_PassWalker.j0 k a1 a2 false a0_0 a0_1) else (spec_PassWalker.j0 k a1 a2 (decide (a1 ≥ a0_1)) a0_0 a0_1)) else (spec_PassWalker.j0 k a1 a2 true a0_0 a0_1))) else (spec_PassWalker.j0 k a1 a2 true a0_0 a0_1)) = some (r1, r2, r3) := H
  have A6 := Aside0.mk A60
  clear A60
  by_cases c7 : t360 = true
  ·subst c7
   have H1 : ((spec_l1In.f a1 1 100).bind fun t361 => (if t361 = true then (if a2 = true then (spec_PassWalker.j0 k a1 a2 false a0_0 a0_1) else (spec_PassWalker.j0 k a1 a2 (decide (a1 ≥ a0_1)) a0_0 a0_1)) else (spec_PassWalker.j0 k a1 a2 true a0_0 a0_1))) = some (r1, r2, r3) := by rw [if_pos rfl] at H; exact H
   clear H
   have H := H1
   clear H1
   replace H := Option.bind_eq_some_iff.mp H
   obtain ⟨t361, A80, H⟩ := H
   replace H : (if t361 = true then (if a2 = true then (spec_PassWalker.j0 k a1 a2 false a0_0 a0_1) else (spec_PassWalker.j0 k a1 a2 (decide (a1 ≥ a0_1)) a0_0 a0_1)) else (spec_PassWalker.j0 k a1 a2 true a0_0 a0_1)) = some (r1, r2, r3) := H
   have A8 := Aside0.mk A80
   clear A80
   by_cases c9 : t361 = true
   ·subst c9
    have H1 : (if a2 = true then (spec_PassWalker.j0 k a1 a2 false a0_0 a0_1) else (spec_PassWalker.j0 k a1 a2 (decide (a1 ≥ a0_1)) a0_0 a0_1)) = some (r1, r2, r3) := by rw [if_pos rfl] at H; exact H
    clear H
    have H := H1
    clear H1
    by_cases c10 : a2 = true
    ·subst c10
     have H1 : (spec_PassWalker.j0 k a1 true false a0_0 a0_1) = some (r1, r2, r3) := by rw [if_pos rfl] at H; exact H
     clear H
     have H := H1
     clear H1
     have H' := Aside0.mk H
     clear H
     have hcz11_0 : w5.cell? ⟨gb359, 0, none⟩ = some (.int .i64 a0_0) := (blk_cell BK359.out 0).trans rfl
     have hcz11_1 : w5.cell? ⟨gb359, 1, none⟩ = some (.int .i64 a0_1) := (blk_cell BK359.out 1).trans rfl
     have hfz11_0 := blk_frozen BK359.out 0
     have hfz11_1 := blk_frozen BK359.out 1
     go_wp2_with (first | (go_at_call 38; (with_reducible refine (spec_tiGood.calls a0_0 a0_1 true _ A6.out).mono ?_); rintro e w12 ⟨rfl, hb⟩; replace BK359 := Aside0.mk (blk_below (blk_to BK359) hb); replace HB := Aside0.mk (below_step (below_to1 HB GE359.out) hb); clear hb) | (go_at_call 54; (with_reducible refine (spec_l1In.calls a1 1 100 true _ A8.out).mono ?_); rintro e w' ⟨rfl, ⟨nd, rfl⟩⟩; (try first | exact ⟨rfl, _, World.drewN_drewN _ _ _⟩ | exact ⟨rfl, _, Eq.trans (World.drewN_drewN _ _ _) (congrArg (World.drewN _) (Nat.add_assoc _ _ _))⟩)))
     repeat (go_quiet (first | (go_at_call 38; (with_reducible refine (spec_tiGood.calls a0_0 a0_1 true _ A6.out).mono ?_); rintro e w12 ⟨rfl, hb⟩; replace BK359 := Aside0.mk (blk_below (blk_to BK359) hb); replace HB := Aside0.mk (below_step (below_to1 HB GE359.out) hb); clear hb) | (go_at_call 54; (with_reducible refine (spec_l1In.calls a1 1 100 true _ A8.out).mono ?_); rintro e w' ⟨rfl, ⟨nd, rfl⟩⟩; (try first | exact ⟨rfl, _, World.drewN_drewN _ _ _⟩ | exact ⟨rfl, _, Eq.trans (World.drewN_drewN _ _ _) (congrArg (World.drewN _) (Nat.add_assoc _ _ _))⟩))); try go_wp2_with (first | (go_at_call 38; (with_reducible refine (spec_tiGood.calls a0_0 a0_1 true _ A6.out).mono ?_); rintro e w12 ⟨rfl, hb⟩; replace BK359 := Aside0.mk (blk_below (blk_to BK359) hb); replace HB := Aside0.mk (below_step (below_to1 HB GE359.out) hb); clear hb) | (go_at_call 54; (with_reducible refine (spec_l1In.calls a1 1 100 true _ A8.out).mono ?_); rintro e w' ⟨rfl, ⟨nd, rfl⟩⟩; (try first | exact ⟨rfl, _, World.drewN_drewN _ _ _⟩ | exact ⟨rfl, _, Eq.trans (World.drewN_drewN _ _ _) (congrArg (World.drewN _) (Nat.add_assoc _ _ _))⟩))))
     go_meet
     case rel => exact ⟨_, (false), (by first | rfl | (simp; done) | (simp [*]; done)), H', ⟨by first | omega | exact Nat.le_refl _⟩, ⟨blk_to BK359⟩, ⟨below_to1 HB GE359.out⟩⟩
    ·replace c10 := Bool.eq_false_iff.mpr c10
     subst c10
     have H1 : (spec_PassWalker.j0 k a1 false (decide (a1 ≥ a0_1)) a0_0 a0_1) = some (r1, r2, r3) := by rw [if_neg (show ¬ (false = true) by decide)] at H; exact H
     clear H
     have H := H1
     clear H1
     have H' := Aside0.mk H
     clear H
     have hcz13_0 : w5.cell? ⟨gb359, 0, none⟩ = some (.int .i64 a0_0) := (blk_cell BK359.out 0).trans rfl
     have hcz13_1 : w5.cell? ⟨gb359, 1, none⟩ = some (.int .i64 a0_1) := (blk_cell BK359.out 1).trans rfl
     have hfz13_0 := blk_frozen BK359.out 0
     have hfz13_1 := blk_frozen BK359.out 1
     go_wp2_with (first | (go_at_call 38; (with_reducible refine (spec_tiGood.calls a0_0 a0_1 true _ A6.out).mono ?_); rintro e w14 ⟨rfl, hb⟩; replace BK359 := Aside0.mk (blk_below (blk_to BK359) hb); replace HB := Aside0.mk (below_step (below_to1 HB GE359.out) hb); clear hb) | (go_at_call 54; (with_reducible refine (spec_l1In.calls a1 1 100 true _ A8.out).mono ?_); rintro e w' ⟨rfl, ⟨nd, rfl⟩⟩; (try first | exact ⟨rfl, _, World.drewN_drewN _ _ _⟩ | exact ⟨rfl, _, Eq.trans (World.drewN_drewN _ _ _) (congrArg (World.drewN _) (Nat.add_assoc _ _ _))⟩); have hcz15_0 : w14.cell? ⟨gb359, 0, none⟩ = some (.int .i64 a0_0) := (blk_cell BK359.out 0).trans rfl; have hcz15_1 : w14.cell? ⟨gb359, 1, none⟩ = some (.int .i64 a0_1) := (blk_cell BK359.out 1).trans rfl; have hfz15_0 := blk_frozen BK359.out 0; have hfz15_1 := blk_frozen BK359.out 1))
     repeat (go_quiet (first | (go_at_call 38; (with_reducible refine (spec_tiGood.calls a0_0 a0_1 true _ A6.out).mono ?_); rintro e w14 ⟨rfl, hb⟩; replace BK359 := Aside0.mk (blk_below (blk_to BK359) hb); replace HB := Aside0.mk (below_step (below_to1 HB GE359.out) hb); clear hb) | (go_at_call 54; (with_reducible refine (spec_l1In.calls a1 1 100 true _ A8.out).mono ?_); rintro e w' ⟨rfl, ⟨nd, rfl⟩⟩; (try first | exact ⟨rfl, _, World.drewN_drewN _ _ _⟩ | exact ⟨rfl, _, Eq.trans (World.drewN_drewN _ _ _) (congrArg (World.drewN _) (Nat.add_assoc _ _ _))⟩); have hcz15_0 : w14.cell? ⟨gb359, 0, none⟩ = some (.int .i64 a0_0) := (blk_cell BK359.out 0).trans rfl; have hcz15_1 : w14.cell? ⟨gb359, 1, none⟩ = some (.int .i64 a0_1) := (blk_cell BK359.out 1).trans rfl; have hfz15_0 := blk_frozen BK359.out 0; have hfz15_1 := blk_frozen BK359.out 1)); try go_wp2_with (first | (go_at_call 38; (with_reducible refine (spec_tiGood.calls a0_0 a0_1 true _ A6.out).mono ?_); rintro e w14 ⟨rfl, hb⟩; replace BK359 := Aside0.mk (blk_below (blk_to BK359) hb); replace HB := Aside0.mk (below_step (below_to1 HB GE359.out) hb); clear hb) | (go_at_call 54; (with_reducible refine (spec_l1In.calls a1 1 100 true _ A8.out).mono ?_); rintro e w' ⟨rfl, ⟨nd, rfl⟩⟩; (try first | exact ⟨rfl, _, World.drewN_drewN _ _ _⟩ | exact ⟨rfl, _, Eq.trans (World.drewN_drewN _ _ _) (congrArg (World.drewN _) (Nat.add_assoc _ _ _))⟩); have hcz15_0 : w14.cell? ⟨gb359, 0, none⟩ = some (.int .i64 a0_0) := (blk_cell BK359.out 0).trans rfl; have hcz15_1 : w14.cell? ⟨gb359, 1, none⟩ = some (.int .i64 a0_1) := (blk_cell BK359.out 1).trans rfl; have hfz15_0 := blk_frozen BK359.out 0; have hfz15_1 := blk_frozen BK359.out 1)))
     go_meet
     case rel => exact ⟨_, (decide (a1 ≥ a0_1)), (by first | rfl | (simp; done) | (simp [*]; done)), H', ⟨by first | omega | exact Nat.le_refl _⟩, ⟨blk_to BK359⟩, ⟨below_to1 HB GE359.out⟩⟩
   ·replace c9 := Bool.eq_false_iff.mpr c9
    subst c9
    have H1 : (spec_PassWalker.j0 k a1 a2 true a0_0 a0_1) = some (r1, r2, r3) := by rw [if_neg (show ¬ (false = true) by decide)] at H; exact H
    clear H
    have H := H1
    clear H1
    have H' := Aside0.mk H
    clear H
    have hcz16_0 : w5.cell? ⟨gb359, 0, none⟩ = some (.int .i64 a0_0) := (blk_cell BK359.out 0).trans rfl
    have hcz16_1 : w5.cell? ⟨gb359, 1, none⟩ = some (.int .i64 a0_1) := (blk_cell BK359.out 1).trans rfl
    have hfz16_0 := blk_frozen BK359.out 0
    have hfz16_1 := blk_frozen BK359.out 1
    go_wp2_with (first | (go_at_call 38; (with_reducible refine (spec_tiGood.calls a0_0 a0_1 true _ A6.out).mono ?_); rintro e w17 ⟨rfl, hb⟩; replace BK359 := Aside0.mk (blk_below (blk_to BK359) hb); replace HB := Aside0.mk (below_step (below_to1 HB GE359.out) hb); clear hb) | (go_at_call 54; (with_reducible refine (spec_l1In.calls a1 1 100 false _ A8.out).mono ?_); rintro e w' ⟨rfl, ⟨nd, rfl⟩⟩; (try first | exact ⟨rfl, _, World.drewN_drewN _ _ _⟩ | exact ⟨rfl, _, Eq.trans (World.drewN_drewN _ _ _) (congrArg (World.drewN _) (Nat.add_assoc _ _ _))⟩)))
    repeat (go_quiet (first | (go_at_call 38; (with_reducible refine (spec_tiGood.calls a0_0 a0_1 true _ A6.out).mono ?_); rintro e w17 ⟨rfl, hb⟩; replace BK359 := Aside0.mk (blk_below (blk_to BK359) hb); replace HB := Aside0.mk (below_step (below_to1 HB GE359.out) hb); clear hb) | (go_at_call 54; (with_reducible refine (spec_l1In.calls a1 1 100 false _ A8.out).mono ?_); rintro e w' ⟨rfl, ⟨nd, rfl⟩⟩; (try first | exact ⟨rfl, _, World.drewN_drewN _ _ _⟩ | exact ⟨rfl, _, Eq.trans (World.drewN_drewN _ _ _) (congrArg (World.drewN _) (Nat.add_assoc _ _ _))⟩))); try go_wp2_with (first | (go_at_call 38; (with_reducible refine (spec_tiGood.calls a0_0 a0_1 true _ A6.out).mono ?_); rintro e w17 ⟨rfl, hb⟩; replace BK359 := Aside0.mk (blk_below (blk_to BK359) hb); replace HB := Aside0.mk (below_step (below_to1 HB GE359.out) hb); clear hb) | (go_at_call 54; (with_reducible refine (spec_l1In.calls a1 1 100 false _ A8.out).mono ?_); rintro e w' ⟨rfl, ⟨nd, rfl⟩⟩; (try first | exact ⟨rfl, _, World.drewN_drewN _ _ _⟩ | exact ⟨rfl, _, Eq.trans (World.drewN_drewN _ _ _) (congrArg (World.drewN _) (Nat.add_assoc _ _ _))⟩))))
    go_meet
    case rel => exact ⟨_, (true), (by first | rfl | (simp; done) | (simp [*]; done)), H', ⟨by first | omega | exact Nat.le_refl _⟩, ⟨blk_to BK359⟩, ⟨below_to1 HB GE359.out⟩⟩
  ·replace c7 := Bool.eq_false_iff.mpr c7
   subst c7
   have H1 : (spec_PassWalker.j0 k a1 a2 true a0_0 a0_1) = some (r1, r2, r3) := by rw [if_neg (show ¬ (false = true) by decide)] at H; exact H
   clear H
   have H := H1
   clear H1
   have H' := Aside0.mk H
   clear H
   have hcz18_0 : w5.cell? ⟨gb359, 0, none⟩ = some (.int .i64 a0_0) := (blk_cell BK359.out 0).trans rfl
   have hcz18_1 : w5.cell? ⟨gb359, 1, none⟩ = some (.int .i64 a0_1) := (blk_cell BK359.out 1).trans rfl
   have hfz18_0 := blk_frozen BK359.out 0
   have hfz18_1 := blk_frozen BK359.out 1
   go_wp2_with (first | (go_at_call 38; (with_reducible refine (spec_tiGood.calls a0_0 a0_1 false _ A6.out).mono ?_); rintro e w19 ⟨rfl, hb⟩; replace BK359 := Aside0.mk (blk_below (blk_to BK359) hb); replace HB := Aside0.mk (below_step (below_to1 HB GE359.out) hb); clear hb))
   repeat (go_quiet (first | (go_at_call 38; (with_reducible refine (spec_tiGood.calls a0_0 a0_1 false _ A6.out).mono ?_); rintro e w19 ⟨rfl, hb⟩; replace BK359 := Aside0.mk (blk_below (blk_to BK359) hb); replace HB := Aside0.mk (below_step (below_to1 HB GE359.out) hb); clear hb)); try go_wp2_with (first | (go_at_call 38; (with_reducible refine (spec_tiGood.calls a0_0 a0_1 false _ A6.out).mono ?_); rintro e w19 ⟨rfl, hb⟩; replace BK359 := Aside0.mk (blk_below (blk_to BK359) hb); replace HB := Aside0.mk (below_step (below_to1 HB GE359.out) hb); clear hb)))
   go_meet
   case rel => exact ⟨_, (true), (by first | rfl | (simp; done) | (simp [*]; done)), H', ⟨by first | omega | exact Nat.le_refl _⟩, ⟨blk_to BK359⟩, ⟨below_to1 HB GE359.out⟩⟩
 case rest =>
  clear HC4
  try clear c1
  try clear c2
  try clear p2
  try clear c7
  try clear c9
  try clear c10
  try clear hcz11_0
  try clear hcz11_1
  try clear hcz13_0
  try clear hcz13_1
  try clear hcz15_0
  try clear hcz15_1
  try clear hcz16_0
  try clear hcz16_1
  try clear hcz18_0
  try clear hcz18_1
  try clear hfz11_0
  try clear hfz11_1
  try clear hfz13_0
  try clear hfz13_1
  try clear hfz15_0
  try clear hfz15_1
  try clear hfz16_0
  try clear hfz16_1
  try clear hfz18_0
  try clear hfz18_1
  obtain ⟨kq, x28_3, rfl, HA, HJ3, BK359, HB⟩ := hcut
  cases kq with
  | zero => exact absurd HA.out (by simp [spec_PassWalker.j0])
  | succ kj3 =>
   have H := HA.out
   clear HA
   simp only [spec_PassWalker.j0] at H
   by_cases c20 : x28_3 = true
   ·subst c20
    have H1 : (some (0, 0, false)) = some (r1, r2, r3) := by rw [if_pos rfl] at H; exact H
    clear H
    have H := H1
    clear H1
    simp only [Option.some.injEq, Prod.mk.injEq] at H
    obtain ⟨rfl, rfl, rfl⟩ := H
    go_wp2
    repeat (go_quiet (fail); try go_wp2)
    go_ret3
    exact ⟨by first | rfl | (simp [errW_none, errW_some] <;> rfl) | (simp [*, errW_none, errW_some] <;> rfl), below_to1 HB GE359.out⟩
   ·replace c20 := Bool.eq_false_iff.mpr c20
    subst c20
    have H1 : ((spec_tiRate.f a0_1 a1 a2).bind fun t362 => ((spec_tiLow.f kj3 a0_0 t362).bind fun bt363 => (some (bt363.1, bt363.2, true)))) = some (r1, r2, r3) := by rw [if_neg (show ¬ (false = true) by decide)] at H; exact H
    clear H
    have H := H1
    clear H1
    replace H := Option.bind_eq_some_iff.mp H
    obtain ⟨t362, A210, H⟩ := H
    replace H : ((spec_tiLow.f kj3 a0_0 t362).bind fun bt363 => (some (bt363.1, bt363.2, true))) = some (r1, r2, r3) := H
    have A21 := Aside0.mk A210
    clear A210
    replace H := Option.bind_eq_some_iff.mp H
    obtain ⟨⟨t363, t364⟩, A220, H⟩ := H
    replace H : (some (t363, t364, true)) = some (r1, r2, r3) := H
    have A22 := Aside0.mk A220
    clear A220
    simp only [Option.some.injEq, Prod.mk.injEq] at H
    obtain ⟨rfl, rfl, rfl⟩ := H
    have hcz23_0 : wc.cell? ⟨gb359, 0, none⟩ = some (.int .i64 a0_0) := (blk_cell BK359.out 0).trans rfl
    have hcz23_1 : wc.cell? ⟨gb359, 1, none⟩ = some (.int .i64 a0_1) := (blk_cell BK359.out 1).trans rfl
    have hfz23_0 := blk_frozen BK359.out 0
    have hfz23_1 := blk_frozen BK359.out 1
    go_wp2_with (first | (go_at_call 52; (with_reducible refine (spec_tiRate.calls a0_1 a1 a2 t362 _ A21.out).mono ?_); rintro e w' ⟨rfl, ⟨nd, rfl⟩⟩; (try first | exact ⟨rfl, _, World.drewN_drewN _ _ _⟩ | exact ⟨rfl, _, Eq.trans (World.drewN_drewN _ _ _) (congrArg (World.drewN _) (Nat.add_assoc _ _ _))⟩)) | (go_at_call 40; (with_reducible refine (spec_tiLow.calls kj3 a0_0 t362 t363 t364 _ A22.out).mono ?_); rintro e w' ⟨rfl, ⟨nd, rfl⟩⟩; (try first | exact ⟨rfl, _, World.drewN_drewN _ _ _⟩ | exact ⟨rfl, _, Eq.trans (World.drewN_drewN _ _ _) (congrArg (World.drewN _) (Nat.add_assoc _ _ _))⟩)))
    repeat (go_quiet (first | (go_at_call 52; (with_reducible refine (spec_tiRate.calls a0_1 a1 a2 t362 _ A21.out).mono ?_); rintro e w' ⟨rfl, ⟨nd, rfl⟩⟩; (try first | exact ⟨rfl, _, World.drewN_drewN _ _ _⟩ | exact ⟨rfl, _, Eq.trans (World.drewN_drewN _ _ _) (congrArg (World.drewN _) (Nat.add_assoc _ _ _))⟩)) | (go_at_call 40; (with_reducible refine (spec_tiLow.calls kj3 a0_0 t362 t363 t364 _ A22.out).mono ?_); rintro e w' ⟨rfl, ⟨nd, rfl⟩⟩; (try first | exact ⟨rfl, _, World.drewN_drewN _ _ _⟩ | exact ⟨rfl, _, Eq.trans (World.drewN_drewN _ _ _) (congrArg (World.drewN _) (Nat.add_assoc _ _ _))⟩))); try go_wp2_with (first | (go_at_call 52; (with_reducible refine (spec_tiRate.calls a0_1 a1 a2 t362 _ A21.out).mono ?_); rintro e w' ⟨rfl, ⟨nd, rfl⟩⟩; (try first | exact ⟨rfl, _, World.drewN_drewN _ _ _⟩ | exact ⟨rfl, _, Eq.trans (World.drewN_drewN _ _ _) (congrArg (World.drewN _) (Nat.add_assoc _ _ _))⟩)) | (go_at_call 40; (with_reducible refine (spec_tiLow.calls kj3 a0_0 t362 t363 t364 _ A22.out).mono ?_); rintro e w' ⟨rfl, ⟨nd, rfl⟩⟩; (try first | exact ⟨rfl, _, World.drewN_drewN _ _ _⟩ | exact ⟨rfl, _, Eq.trans (World.drewN_drewN _ _ _) (congrArg (World.drewN _) (Nat.add_assoc _ _ _))⟩))))
    go_ret3
    exact ⟨by first | rfl | (simp [errW_none, errW_some] <;> rfl) | (simp [*, errW_none, errW_some] <;> rfl), below_to1 HB GE359.out⟩

/-! ### spec_DrawTrainFromTimes: function 30 -/
def spec_DrawTrainFromTimes.i.f (l0 : List Int) (s1_0 : List Int) (s1_1 : Int) (s1_2 : Int) : Option (Int × Int × Int × Int × Int) := (spec_l1Cur_among.f s1_0 s1_1 s1_2 (([1, 2, 4, 9, 100, 10000, 10001, 0] : List Int))).bind fun bt368 => ((spec_l1Cur_way.f s1_0 bt368.2.1 bt368.2.2).bind fun bt371 => ((spec_l1Cur_pick.f s1_0 bt371.2.1 bt371.2.2 12).bind fun bt374 => (some (bt371.1, bt368.1, wrap64 ((wrap64 (bt368.1 + bt374.1)) - 2), bt374.2.1, bt374.2.2))))
def spec_DrawTrainFromTimes.f (l0 : List Int) : Option (Int × Int × Int) := (spec_DrawTrainFromTimes.i.f l0 l0 0 0).bind fun b => some (b.1, b.2.1, b.2.2.1)
set_option maxHeartbeats 8000000 in
set_option maxRecDepth 100000 in
theorem spec_DrawTrainFromTimes.calls (A0 : Option Addr) (c0 : Nat) (l0 : List Int) (r1 : Int) (r2 : Int) (r3 : Int) (wz_ : World) (hr0 : Kd.C (Kd.int .u8) wz_ A0 l0.length l0) (hc0 : l0.length ≤ c0) (h : spec_DrawTrainFromTimes.f l0 = some (r1, r2, r3)) :
  Calls Tryz.prog 30 #[.slice A0 l0.length c0] wz_ fun e w' => e = .returned (.tuple #[.int .i64 r1, .int .i64 r2, .int .i64 r3]) ∧ Below wz_.heap.size wz_ w' := by
 obtain ⟨b_, hb0_, h⟩ := Option.bind_eq_some_iff.mp h
 obtain ⟨r1z_, r2z_, r3z_, r4, r5⟩ := b_
 simp only [Option.some.injEq, Prod.mk.injEq] at h
 obtain ⟨hq0_, hq1_, hq2_⟩ := h
 obtain rfl := hq0_.symm
 obtain rfl := hq1_.symm
 obtain rfl := hq2_.symm
 suffices hh_ : ∀ (w0 w : World) (g : Nat), w0 = wz_ → g = wz_.heap.size → w = wz_.alloc (.cells #[.slice A0 l0.length c0, .int .i64 0, .int .u64 0] 54 (0, 0)) → Calls Tryz.prog 30 #[.slice A0 l0.length c0] wz_ fun e w' => e = .returned (.tuple #[.int .i64 r1, .int .i64 r2, .int .i64 r3]) ∧ IsS54 w0 w' g l0 r4 r5 ∧ Below w0.heap.size w0 w' ∧ KeepBut w w' g none by
  refine (hh_ wz_ _ _ rfl rfl rfl).mono ?_
  rintro e w' ⟨he_, _, hb_, _⟩
  exact ⟨he_, hb_⟩
 intro w0 w g HW0_ HG_ HW_
 have hI : IsS54 w0 w g l0 0 0 := by rw [HG_, HW_, HW0_]; exact IsS54.new _ _ _ c0 _ _ _ (Below.refl _ _) hr0
 have hB : Below w0.heap.size w0 w := by rw [HW0_, HW_]; exact below_alloc (Below.refl _ _) _
 have hf0 : ∀ ad, A0 = some ad → 0 < l0.length → ad.block ≠ g := by
  intro ad hA_ hn_ he_
  obtain ⟨ad2_, e2_, hx_⟩ := Kd.at_int hr0 0 (by omega) (by omega)
  rw [hA_] at e2_
  injection e2_ with e2_
  subst e2_
  have hlt_ := World.block_lt_of_cell? wz_ _ hx_
  rw [add_block, he_, HG_] at hlt_
  omega
 have hr0' : Kd.C (Kd.int .u8) w A0 l0.length l0 := by rw [HW_]; exact Kd.C_alloc hr0 _
 clear hr0
 have hr0 := hr0'
 clear hr0'
 have HWZ := Aside0.mk HW_
 have HGZ := Aside0.mk HG_
 clear HW_ HG_ HW0_
 have h := hb0_
 clear hb0_
 have HR0 := Aside0.mk hr0
 have HC0 := Aside0.mk hc0
 clear hr0 hc0
 have HI1 := Aside0.mk hI
 have HK := Aside0.mk (KeepBut.refl w g none)
 have HL := Aside0.mk hB.size
 clear hI
 have HW0 := Aside0.mk hB.size
 have HB := Aside0.mk hB
 clear hB
 have H : ((spec_l1Cur_among.f l0 0 0 (([1, 2, 4, 9, 100, 10000, 10001, 0] : List Int))).bind fun bt368 => ((spec_l1Cur_way.f l0 bt368.2.1 bt368.2.2).bind fun bt371 => ((spec_l1Cur_pick.f l0 bt371.2.1 bt371.2.2 12).bind fun bt374 => (some (bt371.1, bt368.1, wrap64 ((wrap64 (bt368.1 + bt374.1)) - 2), bt374.2.1, bt374.2.2))))) = some (r1, r2, r3, r4, r5) := h
 clear h
 obtain ⟨y365, hy365⟩ : ∃ y_ : List Int, y_ = (([1, 2, 4, 9, 100, 10000, 10001, 0] : List Int)) := ⟨_, rfl⟩
 replace H : ((spec_l1Cur_among.f l0 0 0 y365).bind fun bt368 => ((spec_l1Cur_way.f l0 bt368.2.1 bt368.2.2).bind fun bt371 => ((spec_l1Cur_pick.f l0 bt371.2.1 bt371.2.2 12).bind fun bt374 => (some (bt371.1, bt368.1, wrap64 ((wrap64 (bt368.1 + bt374.1)) - 2), bt374.2.1, bt374.2.2))))) = some (r1, r2, r3, r4, r5) := by first | (rw [hy365]; with_reducible exact H) | (have H2_ := (Option.bind_some _ _).symm.trans H; rw [hy365]; with_reducible exact H2_) | (have H2_ := (Option.bind_some _ _).symm.trans H; with_reducible exact H2_) | with_reducible exact H | (rw [hy365]; exact H) | exact H
 have Ny365 := Aside0.mk hy365
 clear hy365
 replace H := Option.bind_eq_some_iff.mp H
 obtain ⟨⟨t368, t369, t370⟩, A30, H⟩ := H
 replace H : ((spec_l1Cur_way.f l0 t369 t370).bind fun bt371 => ((spec_l1Cur_pick.f l0 bt371.2.1 bt371.2.2 12).bind fun bt374 => (some (bt371.1, t368, wrap64 ((wrap64 (t368 + bt374.1)) - 2), bt374.2.1, bt374.2.2)))) = some (r1, r2, r3, r4, r5) := H
 have A3 := Aside0.mk A30
 clear A30
 replace H := Option.bind_eq_some_iff.mp H
 obtain ⟨⟨t371, t372, t373⟩, A40, H⟩ := H
 replace H : ((spec_l1Cur_pick.f l0 t372 t373 12).bind fun bt374 => (some (t371, t368, wrap64 ((wrap64 (t368 + bt374.1)) - 2), bt374.2.1, bt374.2.2))) = some (r1, r2, r3, r4, r5) := H
 have A4 := Aside0.mk A40
 clear A40
 replace H := Option.bind_eq_some_iff.mp H
 obtain ⟨⟨t374, t375, t376⟩, A50, H⟩ := H
 replace H : (some (t371, t368, wrap64 ((wrap64 (t368 + t374)) - 2), t375, t376)) = some (r1, r2, r3, r4, r5) := H
 have A5 := Aside0.mk A50
 clear A50
 simp only [Option.some.injEq, Prod.mk.injEq] at H
 obtain ⟨rfl, rfl, rfl, rfl, rfl⟩ := H
 go_enter Tryz.func30, Tryz.ntmps30
 go_upto_region 2 with (fail)
 rw [← HWZ.out, ← HGZ.out]
 go_wp2_with (first | ((with_reducible refine gate_dst (N := 11) rfl ?_); refine Kd.R_lit (Kd.int .i64) _ 3 ?hg (N := 11) ?hd (xs := ([1, 2, 4, 9, 100, 10000, 10001, 0] : List Int)) (inner := [.int .i64 1, .int .i64 2, .int .i64 4, .int .i64 9, .int .i64 100, .int .i64 10000, .int .i64 10001, .int .i64 0]) (ok := fun _ => True) (okp := fun _ => True) ?hr ?hp (fun _ hk => hk) trivial (Below.refl _ _) (Nat.le_refl _) (by simp) ?_; (case hd => rfl); (case hg => rfl); (case hr => first | (go_simp; done) | (go_simp; rfl)); (case hp => exact (Reps.one (show Kd.M (Kd.int .i64) _ _ _ 1 [.int .i64 1] from rfl) (Reps.one (show Kd.M (Kd.int .i64) _ _ _ 2 [.int .i64 2] from rfl) (Reps.one (show Kd.M (Kd.int .i64) _ _ _ 4 [.int .i64 4] from rfl) (Reps.one (show Kd.M (Kd.int .i64) _ _ _ 9 [.int .i64 9] from rfl) (Reps.one (show Kd.M (Kd.int .i64) _ _ _ 100 [.int .i64 100] from rfl) (Reps.one (show Kd.M (Kd.int .i64) _ _ _ 10000 [.int .i64 10000] from rfl) (Reps.one (show Kd.M (Kd.int .i64) _ _ _ 10001 [.int .i64 10001] from rfl) (Reps.one (show Kd.M (Kd.int .i64) _ _ _ 0 [.int .i64 0] from rfl) (Reps.none _ _)))))))))); intro v366 w6 ho7 hb hg_ hnew_; clear hg_ hnew_; (first | rw [← Ny365.out] at ho7 | (simp only [Int.reduceToNat] at ho7; rw [← Ny365.out] at ho7)); have n0_ := Aside0.mk (Kd.R_lower ho7 (keep_size (w := w) (g := g) (row := none) (keep_to HK))); have n1_ := Aside0.mk (IsS54.below (IsS54.to HI1) hb); have n2_ := Aside0.mk (KeepBut.trans (keep_to HK) (KeepBut.of_below hb g none) (.inl rfl)); have n3_ := Aside0.mk (below_step (below_to1 HB (IsS54.ge HI1.out)) hb); clear HI1; clear HK; clear HB; have HO367 := n0_; have HI1 := n1_; have HK := n2_; have HB := n3_; clear n0_ n1_ n2_ n3_; clear hb ho7; obtain ⟨Ao8, co8, eo8⟩ := Kd.R_slice HO367.out; subst eo8) | ((with_reducible refine gate_callee (f := 53) rfl ?_); refine goesL_ (some 12) rfl rfl Tryz.func53 (by kernel_rfl) rfl #[.pointer (some ⟨g, 0, none⟩), .slice Ao8 y365.length co8] rfl am_ ?_; (with_reducible refine (spec_l1Cur_among.calls g l0 0 0 _ _ y365 t368 t369 t370 w0 _ ?side1 ?side2 ?side3 ?side4 ?side5 A3.out).mono ?_); (case side1 => exact IsS54.to HI1); (case side2 => exact below_to1 HB (IsS54.ge HI1.out)); (case side3 => repeat (first | exact (Kd.R_reads' HO367.out).2.2 | (with_reducible refine Kd.C_alloc ?_ _) | (with_reducible refine Kd.C_drewN ?_ _) | (with_reducible refine Kd.C_drew ?_))); (case side4 => exact (Kd.R_reads' HO367.out).2.1); (case side5 => exact far_slice (IsS54.own_ne HI1.out HO367.out (by decide))); rintro e w9 ⟨rfl, hi, hb, hk⟩; refine ⟨_, rfl, ?_⟩; replace HO367 := Aside0.mk (Kd.R_mono (Kd.R_keep (IsS54.apart (IsS54.to HI1) (kd_to HO367) (by decide)) hk (fun _ h => h.2)) (fun _ h => h.1)); replace HK := Aside0.mk (KeepBut.trans (keep_to HK) hk (.inl rfl)); replace HB := Aside0.mk (hb); replace HI1 := Aside0.mk (hi); clear hb hk hi) | ((with_reducible refine gate_callee (f := 35) rfl ?_); refine goesL_ (some 14) rfl rfl Tryz.func35 (by kernel_rfl) rfl #[.pointer (some ⟨g, 0, none⟩)] rfl am_ ?_; (with_reducible refine (spec_l1Cur_way.calls g l0 t369 t370 t371 t372 t373 w0 _ ?side1 ?side2 A4.out).mono ?_); (case side1 => exact IsS54.to HI1); (case side2 => exact below_to1 HB (IsS54.ge HI1.out)); rintro e w10 ⟨rfl, hi, hb, hk⟩; refine ⟨_, rfl, ?_⟩; replace HO367 := Aside0.mk (Kd.R_mono (Kd.R_keep (IsS54.apart (IsS54.to HI1) (kd_to HO367) (by decide)) hk (fun _ h => h.2)) (fun _ h => h.1)); replace HK := Aside0.mk (KeepBut.trans (keep_to HK) hk (.inl rfl)); replace HB := Aside0.mk (hb); replace HI1 := Aside0.mk (hi); clear hb hk hi) | ((with_reducible refine gate_callee (f := 55) rfl ?_); refine goesL_ (some 18) rfl rfl Tryz.func55 (by kernel_rfl) rfl #[.pointer (some ⟨g, 0, none⟩), .int .i64 12] rfl am_ ?_; (with_reducible refine (spec_l1Cur_pick.calls g l0 t372 t373 12 t374 t375 t376 w0 _ ?side1 ?side2 A5.out).mono ?_); (case side1 => exact IsS54.to HI1); (case side2 => exact below_to1 HB (IsS54.ge HI1.out)); rintro e w11 ⟨rfl, hi, hb, hk⟩; refine ⟨_, rfl, ?_⟩; replace HO367 := Aside0.mk (Kd.R_mono (Kd.R_keep (IsS54.apart (IsS54.to HI1) (kd_to HO367) (by decide)) hk (fun _ h => h.2)) (fun _ h => h.1)); replace HK := Aside0.mk (KeepBut.trans (keep_to HK) hk (.inl rfl)); replace HB := Aside0.mk (hb); replace HI1 := Aside0.mk (hi); clear hb hk hi))
 go_ret3
 exact ⟨by first | rfl | (simp [errW_none, errW_some] <;> rfl) | (simp [*, errW_none, errW_some] <;> rfl), by repeat (first | (with_reducible first | exact HI1.out | apply IsS54.alloc | apply IsS54.drewN | apply IsS54.drew | apply IsS54.set_1 | apply IsS54.set_2) | exact HI1.out), by repeat (first | (with_reducible first | exact HB.out | apply below_alloc | apply pw_below_drewN | apply below_drew1 | refine below_set ?_ (IsS54.ge HI1.out)) | exact HB.out), by repeat (first | (with_reducible first | exact HK.out | apply KeepBut.set_ | apply keep_drewN | apply keep_drew | apply keep_alloc) | exact HK.out)⟩

/-! ### spec_TrainFromTimes: function 31 -/
def spec_TrainFromTimes.j0 : Nat → Int → Int → Int → Bool → Option (Int × Int × Int × Int × Bool)
 | 0, _, _, _, _ => none
 | k + 1, x0, x1, x2, x32 => if x32 = true then (some (0, 0, 0, 0, false)) else ((spec_tiLow.f k (wrap64 (x0 * x1)) (wrap64 (x2 - x1))).bind fun bt380 => ((spec_tiLow.f k x0 (wrap64 (x2 - x1))).bind fun bt382 => (some (bt380.1, bt380.2, bt382.1, bt382.2, true))))
def spec_TrainFromTimes.f (k : Nat) (a0 : Int) (a1 : Int) (a2 : Int) : Option (Int × Int × Int × Int × Bool) := (spec_l1In.f a0 1 100000).bind fun t377 => (if t377 = true then ((spec_l1In.f a1 1 10000).bind fun t378 => (if t378 = true then ((spec_l1In.f a2 1 10000).bind fun t379 => (if t379 = true then (spec_TrainFromTimes.j0 k a0 a1 a2 (decide (a2 ≤ a1))) else (spec_TrainFromTimes.j0 k a0 a1 a2 true))) else (spec_TrainFromTimes.j0 k a0 a1 a2 true))) else (spec_TrainFromTimes.j0 k a0 a1 a2 true))
set_option maxHeartbeats 8000000 in
set_option maxRecDepth 100000 in
theorem spec_TrainFromTimes.calls (k : Nat) (a0 : Int) (a1 : Int) (a2 : Int) (r1 : Int) (r2 : Int) (r3 : Int) (r4 : Int) (r5 : Bool) (w : World) (h : spec_TrainFromTimes.f k a0 a1 a2 = some (r1, r2, r3, r4, r5)) :
  Calls Tryz.prog 31 #[.int .i64 a0, .int .i64 a1, .int .i64 a2] w fun e w' => e = .returned (.tuple #[.int .i64 r1, .int .i64 r2, .int .i64 r3, .int .i64 r4, .bool r5]) ∧ Drawn0 w w' := by
 have H : ((spec_l1In.f a0 1 100000).bind fun t377 => (if t377 = true then ((spec_l1In.f a1 1 10000).bind fun t378 => (if t378 = true then ((spec_l1In.f a2 1 10000).bind fun t379 => (if t379 = true then (spec_TrainFromTimes.j0 k a0 a1 a2 (decide (a2 ≤ a1))) else (spec_TrainFromTimes.j0 k a0 a1 a2 true))) else (spec_TrainFromTimes.j0 k a0 a1 a2 true))) else (spec_TrainFromTimes.j0 k a0 a1 a2 true))) = some (r1, r2, r3, r4, r5) := h
 clear h
 have HC4 := Aside0.mk H
 clear H
 go_enter Tryz.func31, Tryz.ntmps31
 go_upto_region 1 with (fail)
 go_cut [32] (fun v32 wc => ∃ (kq : Nat) (x32_3 : Bool), v32 = .bool x32_3 ∧ Aside0 (spec_TrainFromTimes.j0 kq a0 a1 a2 x32_3 = some (r1, r2, r3, r4, r5)) ∧ Aside0 (kq ≤ k) ∧ Drawn0 w wc)
 case first =>
  have H := HC4.out
  clear HC4
  replace H := Option.bind_eq_some_iff.mp H
  obtain ⟨t377, A50, H⟩ := H
  replace H : (if t377 = true then ((spec_l1In.f a1 1 10000).bind fun t378 => (if t378 = true then ((spec_l1In.f a2 1 10000).bind fun t379 => (if t379 = true then (spec_TrainFromTimes.j0 k a0 a1 a2 (decide (a2 ≤ a1))) else (spec_TrainFromTimes.j0 k a0 a1 a2 true))) else (spec_TrainFromTimes.j0 k a0 a1 a2 true))) else (spec_TrainFromTimes.j0 k a0 a1 a2 true)) = some (r1, r2, r3, r4, r5) := H
  have A5 := Aside0.mk A50
  clear A50
  by_cases c6 : t377 = true
  ·subst c6
   have H1 : ((spec_l1In.f a1 1 10000).bind fun t378 => (if t378 = true then ((spec_l1In.f a2 1 10000).bind fun t379 => (if t379 = true then (spec_TrainFromTimes.j0 k a0 a1 a2 (decide (a2 ≤ a1))) else (spec_TrainFromTimes.j0 k a0 a1 a2 true))) else (spec_TrainFromTimes.j0 k a0 a1 a2 true))) = some (r1, r2, r3, r4, r5) := by rw [if_pos rfl] at H; exact H
   clear H
   have H := H1
   clear H1
   replace H := Option.bind_eq_some_iff.mp H
   obtain ⟨t378, A70, H⟩ := H
   replace H : (if t378 = true then ((spec_l1In.f a2 1 10000).bind fun t379 => (if t379 = true then (spec_TrainFromTimes.j0 k a0 a1 a2 (decide (a2 ≤ a1))) else (spec_TrainFromTimes.j0 k a0 a1 a2 true))) else (spec_TrainFromTimes.j0 k a0 a1 a2 true)) = some (r1, r2, r3, r4, r5) := H
   have A7 := Aside0.mk A70
   clear A70
   by_cases c8 : t378 = true
   ·subst c8
    have H1 : ((spec_l1In.f a2 1 10000).bind fun t379 => (if t379 = true then (spec_TrainFromTimes.j0 k a0 a1 a2 (decide (a2 ≤ a1))) else (spec_TrainFromTimes.j0 k a0 a1 a2 true))) = some (r1, r2, r3, r4, r5) := by rw [if_pos rfl] at H; exact H
    clear H
    have H := H1
    clear H1
    replace H := Option.bind_eq_some_iff.mp H
    obtain ⟨t379, A90, H⟩ := H
    replace H : (if t379 = true then (spec_TrainFromTimes.j0 k a0 a1 a2 (decide (a2 ≤ a1))) else (spec_TrainFromTimes.j0 k a0 a1 a2 true)) = some (r1, r2, r3, r4, r5) := H
    have A9 := Aside0.mk A90
    clear A90
    by_cases c10 : t379 = true
    ·subst c10
     have H1 : (spec_TrainFromTimes.j0 k a0 a1 a2 (decide (a2 ≤ a1))) = some (r1, r2, r3, r4, r5) := by rw [if_pos rfl] at H; exact H
     clear H
     have H := H1
     clear H1
     have H' := Aside0.mk H
     clear H
     go_wp2_with (first | ((with_reducible refine gate_callee (f := 54) rfl ?_); refine goesL_ (some 16) rfl rfl Tryz.func54 (by kernel_rfl) rfl #[.int .i64 a0, .int .i64 1, .int .i64 100000] rfl am_ ?_; (with_reducible refine (spec_l1In.calls a0 1 100000 true _ A5.out).mono ?_); rintro e w' ⟨rfl, ⟨nd, rfl⟩⟩; refine ⟨_, rfl, ?_⟩) | (go_at_call 54; (with_reducible refine (spec_l1In.calls a1 1 10000 true _ A7.out).mono ?_); rintro e w' ⟨rfl, ⟨nd, rfl⟩⟩) | (go_at_call 54; (with_reducible refine (spec_l1In.calls a2 1 10000 true _ A9.out).mono ?_); rintro e w' ⟨rfl, ⟨nd, rfl⟩⟩))
     go_meet
     case rel => exact ⟨_, (decide (a2 ≤ a1)), (by first | rfl | (simp; done) | (simp [*]; done)), H', ⟨by first | omega | exact Nat.le_refl _⟩, by repeat (first | exact Drawn0.refl _ | apply Drawn0.step)⟩
    ·replace c10 := Bool.eq_false_iff.mpr c10
     subst c10
     have H1 : (spec_TrainFromTimes.j0 k a0 a1 a2 true) = some (r1, r2, r3, r4, r5) := by rw [if_neg (show ¬ (false = true) by decide)] at H; exact H
     clear H
     have H := H1
     clear H1
     have H' := Aside0.mk H
     clear H
     go_wp2_with (first | ((with_reducible refine gate_callee (f := 54) rfl ?_); refine goesL_ (some 16) rfl rfl Tryz.func54 (by kernel_rfl) rfl #[.int .i64 a0, .int .i64 1, .int .i64 100000] rfl am_ ?_; (with_reducible refine (spec_l1In.calls a0 1 100000 true _ A5.out).mono ?_); rintro e w' ⟨rfl, ⟨nd, rfl⟩⟩; refine ⟨_, rfl, ?_⟩) | (go_at_call 54; (with_reducible refine (spec_l1In.calls a1 1 10000 true _ A7.out).mono ?_); rintro e w' ⟨rfl, ⟨nd, rfl⟩⟩) | (go_at_call 54; (with_reducible refine (spec_l1In.calls a2 1 10000 false _ A9.out).mono ?_); rintro e w' ⟨rfl, ⟨nd, rfl⟩⟩))
     go_meet
     case rel => exact ⟨_, (true), (by first | rfl | (simp; done) | (simp [*]; done)), H', ⟨by first | omega | exact Nat.le_refl _⟩, by repeat (first | exact Drawn0.refl _ | apply Drawn0.step)⟩
   ·replace c8 := Bool.eq_false_iff.mpr c8
    subst c8
    have H1 : (spec_TrainFromTimes.j0 k a0 a1 a2 true) = some (r1, r2, r3, r4, r5) := by rw [if_neg (show ¬ (false = true) by decide)] at H; exact H
    clear H
    have H := H1
    clear H1
    have H' := Aside0.mk H
    clear H
    go_wp2_with (first | ((with_reducible refine gate_callee (f := 54) rfl ?_); refine goesL_ (some 16) rfl rfl Tryz.func54 (by kernel_rfl) rfl #[.int .i64 a0, .int .i64 1, .int .i64 100000] rfl am_ ?_; (with_reducible refine (spec_l1In.calls a0 1 100000 true _ A5.out).mono ?_); rintro e w' ⟨rfl, ⟨nd, rfl⟩⟩; refine ⟨_, rfl, ?_⟩) | (go_at_call 54; (with_reducible refine (spec_l1In.calls a1 1 10000 false _ A7.out).mono ?_); rintro e w' ⟨rfl, ⟨nd, rfl⟩⟩))
    go_meet
    case rel => exact ⟨_, (true), (by first | rfl | (simp; done) | (simp [*]; done)), H', ⟨by first | omega | exact Nat.le_refl _⟩, by repeat (first | exact Drawn0.refl _ | apply Drawn0.step)⟩
  ·replace c6 := Bool.eq_false_iff.mpr c6
   subst c6
   have H1 : (spec_TrainFromTimes.j0 k a0 a1 a2 true) = some (r1, r2, r3, r4, r5) := by rw [if_neg (show ¬ (false = true) by decide)] at H; exact H
   clear H
   have H := H1
   clear H1
   have H' := Aside0.mk H
   clear H
   go_wp2_with (first | ((with_reducible refine gate_callee (f := 54) rfl ?_); refine goesL_ (some 16) rfl rfl Tryz.func54 (by kernel_rfl) rfl #[.int .i64 a0, .int .i64 1, .int .i64 100000] rfl am_ ?_; (with_reducible refine (spec_l1In.calls a0 1 100000 false _ A5.out).mono ?_); rintro e w' ⟨rfl, ⟨nd, rfl⟩⟩; refine ⟨_, rfl, ?_⟩))
   go_meet
   case rel => exact ⟨_, (true), (by first | rfl | (simp; done) | (simp [*]; done)), H', ⟨by first | omega | exact Nat.le_refl _⟩, by repeat (first | exact Drawn0.refl _ | apply Drawn0.step)⟩
 case rest =>
  clear HC4
  try clear c1
  try clear p2
  try clear c3
  try clear c5
  try clear c6
  try clear c8
  try clear c10
  obtain ⟨kq, x32_3, rfl, HA, HJ3, ⟨mc3, rfl⟩⟩ := hcut
  cases kq with
  | zero => exact absurd HA.out (by simp [spec_TrainFromTimes.j0])
  | succ kj3 =>
   have H := HA.out
   clear HA
   simp only [spec_TrainFromTimes.j0] at H
   by_cases c11 : x32_3 = true
   ·subst c11
    have H1 : (some (0, 0, 0, 0, false)) = some (r1, r2, r3, r4, r5) := by rw [if_pos rfl] at H; exact H
    clear H
    have H := H1
    clear H1
    simp only [Option.some.injEq, Prod.mk.injEq] at H
    obtain ⟨rfl, rfl, rfl, rfl, rfl⟩ := H
    go_wp2
    refine bodyPost_ret (results_list (rs := [.tmp 6, .tmp 7, .tmp 8, .tmp 9, .tmp 10]) rfl (by simp) (.tmp (.tmp (.tmp (.tmp (.tmp .nil)))))) rfl ?_
    exact ⟨by first | rfl | (simp; done) | (simp [*]; done), by repeat (first | exact Drawn0.refl _ | apply Drawn0.step)⟩
   ·replace c11 := Bool.eq_false_iff.mpr c11
    subst c11
    have H1 : ((spec_tiLow.f kj3 (wrap64 (a0 * a1)) (wrap64 (a2 - a1))).bind fun bt380 => ((spec_tiLow.f kj3 a0 (wrap64 (a2 - a1))).bind fun bt382 => (some (bt380.1, bt380.2, bt382.1, bt382.2, true)))) = some (r1, r2, r3, r4, r5) := by rw [if_neg (show ¬ (false = true) by decide)] at H; exact H
    clear H
    have H := H1
    clear H1
    replace H := Option.bind_eq_some_iff.mp H
    obtain ⟨⟨t380, t381⟩, A120, H⟩ := H
    replace H : ((spec_tiLow.f kj3 a0 (wrap64 (a2 - a1))).bind fun bt382 => (some (t380, t381, bt382.1, bt382.2, true))) = some (r1, r2, r3, r4, r5) := H
    have A12 := Aside0.mk A120
    clear A120
    replace H := Option.bind_eq_some_iff.mp H
    obtain ⟨⟨t382, t383⟩, A130, H⟩ := H
    replace H : (some (t380, t381, t382, t383, true)) = some (r1, r2, r3, r4, r5) := H
    have A13 := Aside0.mk A130
    clear A130
    simp only [Option.some.injEq, Prod.mk.injEq] at H
    obtain ⟨rfl, rfl, rfl, rfl, rfl⟩ := H
    go_wp2_with (first | ((with_reducible refine gate_callee (f := 40) rfl ?_); refine goesL_ (some 40) rfl rfl Tryz.func40 (by kernel_rfl) rfl #[.int .i64 (wrap64 (a0 * a1)), .int .i64 (wrap64 (a2 - a1))] rfl am_ ?_; (with_reducible refine (spec_tiLow.calls kj3 (wrap64 (a0 * a1)) (wrap64 (a2 - a1)) t380 t381 _ A12.out).mono ?_); rintro e w' ⟨rfl, ⟨nd, rfl⟩⟩; refine ⟨_, rfl, ?_⟩) | ((with_reducible refine gate_callee (f := 40) rfl ?_); refine goesL_ (some 48) rfl rfl Tryz.func40 (by kernel_rfl) rfl #[.int .i64 a0, .int .i64 (wrap64 (a2 - a1))] rfl am_ ?_; (with_reducible refine (spec_tiLow.calls kj3 a0 (wrap64 (a2 - a1)) t382 t383 _ A13.out).mono ?_); rintro e w' ⟨rfl, ⟨nd, rfl⟩⟩; refine ⟨_, rfl, ?_⟩))
    refine bodyPost_ret (results_list (rs := [.tmp 6, .tmp 7, .tmp 8, .tmp 9, .tmp 10]) rfl (by simp) (.tmp (.tmp (.tmp (.tmp (.tmp .nil)))))) rfl ?_
    exact ⟨by first | rfl | (simp; done) | (simp [*]; done), by repeat (first | exact Drawn0.refl _ | apply Drawn0.step)⟩

/-! ### spec_l1Cur_spoilt: function 57 -/
mutual
def spec_l1Cur_spoilt.l0 : Nat → ByteArray → ByteArray → Int → List Int → Int → Int → Option (ByteArray × Int × Int)
 | 0, _, _, _, _, _, _ => none
 | k + 1, x1, x2, x7, x1000, x1001, x1002 => if x7 > 0 then (spec_l1Cur_spoilt.j1 k x1 x2 x7 (decide ((x1.size : Int) > 0)) x1000 x1001 x1002) else (spec_l1Cur_spoilt.j1 k x1 x2 x7 false x1000 x1001 x1002)
def spec_l1Cur_spoilt.j1 : Nat → ByteArray → ByteArray → Int → Bool → List Int → Int → Int → Option (ByteArray × Int × Int)
 | 0, _, _, _, _, _, _, _ => none
 | k + 1, x1, x2, x7, x19, x1000, x1001, x1002 => if x19 = true then ((spec_l1Cur_pick.f x1000 x1001 x1002 (x1.size : Int)).bind fun bt387 => ((spec_l1Cur_pick.f x1000 bt387.2.1 bt387.2.2 (x2.size : Int)).bind fun bt390 => (if 0 ≤ bt390.1 then (if bt390.1 < (x2.size : Int) then ((some (([bt x2 bt390.1] : List Int) : List Int)).bind fun y393 => ((spec_l1Cur_pick.f x1000 bt390.2.1 bt390.2.2 3).bind fun bt396 => (if bt396.1 = 0 then (if 0 ≤ bt387.1 then (if bt387.1 ≤ (x1.size : Int) then (if (x1.extract 0 (bt387.1 : Int).toNat).size + (strOfNums y393).size ≤ 9223372036854775807 then (if ((x1.extract 0 (bt387.1 : Int).toNat) ++ (strOfNums y393)).size + (x1.extract (bt387.1 : Int).toNat x1.size).size ≤ 9223372036854775807 then (spec_l1Cur_spoilt.l0 k (((x1.extract 0 (bt387.1 : Int).toNat) ++ (strOfNums y393)) ++ (x1.extract (bt387.1 : Int).toNat x1.size)) x2 (wrap64 (x7 - 1)) x1000 bt396.2.1 bt396.2.2) else (none)) else (none)) else (none)) else (none)) else (if bt396.1 = 1 then (if 0 ≤ bt387.1 then (if bt387.1 ≤ (x1.size : Int) then (if (x1.extract 0 (bt387.1 : Int).toNat).size + (strOfNums y393).size ≤ 9223372036854775807 then (if 0 ≤ (wrap64 (bt387.1 + 1)) then (if (wrap64 (bt387.1 + 1)) ≤ (x1.size : Int) then (if ((x1.extract 0 (bt387.1 : Int).toNat) ++ (strOfNums y393)).size + (x1.extract ((wrap64 (bt387.1 + 1)) : Int).toNat x1.size).size ≤ 9223372036854775807 then (spec_l1Cur_spoilt.l0 k (((x1.extract 0 (bt387.1 : Int).toNat) ++ (strOfNums y393)) ++ (x1.extract ((wrap64 (bt387.1 + 1)) : Int).toNat x1.size)) x2 (wrap64 (x7 - 1)) x1000 bt396.2.1 bt396.2.2) else (none)) else (none)) else (none)) else (none)) else (none)) else (none)) else (if 0 ≤ bt387.1 then (if bt387.1 ≤ (x1.size : Int) then (if 0 ≤ (wrap64 (bt387.1 + 1)) then (if (wrap64 (bt387.1 + 1)) ≤ (x1.size : Int) then (if (x1.extract 0 (bt387.1 : Int).toNat).size + (x1.extract ((wrap64 (bt387.1 + 1)) : Int).toNat x1.size).size ≤ 9223372036854775807 then (spec_l1Cur_spoilt.l0 k ((x1.extract 0 (bt387.1 : Int).toNat) ++ (x1.extract ((wrap64 (bt387.1 + 1)) : Int).toNat x1.size)) x2 (wrap64 (x7 - 1)) x1000 bt396.2.1 bt396.2.2) else (none)) else (none)) else (none)) else (none)) else (none)))))) else (none)) else (none)))) else (some (x1, x1001, x1002))
end
def spec_l1Cur_spoilt.f (k : Nat) (s0_0 : List Int) (s0_1 : Int) (s0_2 : Int) (a1 : ByteArray) (a2 : ByteArray) : Option (ByteArray × Int × Int) := (spec_l1Cur_pick.f s0_0 s0_1 s0_2 2).bind fun bt384 => (spec_l1Cur_spoilt.l0 k a1 a2 (wrap64 (1 + bt384.1)) s0_0 bt384.2.1 bt384.2.2)
set_option maxHeartbeats 8000000 in
set_option maxRecDepth 100000 in
theorem spec_l1Cur_spoilt.calls (k : Nat) (g : Nat) (s0_0 : List Int) (s0_1 : Int) (s0_2 : Int) (a1 : ByteArray) (a2 : ByteArray) (r1 : ByteArray) (r2 : Int) (r3 : Int) (w0 w : World) (hI : IsS54 w0 w g s0_0 s0_1 s0_2) (hB : Below w0.heap.size w0 w) (h : spec_l1Cur_spoilt.f k s0_0 s0_1 s0_2 a1 a2 = some (r1, r2, r3)) :
  Calls Tryz.prog 57 #[.pointer (some ⟨g, 0, none⟩), .string a1, .string a2] w fun e w' => e = .returned (.string r1) ∧ IsS54 w0 w' g s0_0 r2 r3 ∧ Below w0.heap.size w0 w' ∧ KeepBut w w' g none := by
 have HI0 := Aside0.mk hI
 have HK := Aside0.mk (KeepBut.refl w g none)
 have HL := Aside0.mk hB.size
 clear hI
 have HW0 := Aside0.mk hB.size
 have HB := Aside0.mk hB
 clear hB
 have H : ((spec_l1Cur_pick.f s0_0 s0_1 s0_2 2).bind fun bt384 => (spec_l1Cur_spoilt.l0 k a1 a2 (wrap64 (1 + bt384.1)) s0_0 bt384.2.1 bt384.2.2)) = some (r1, r2, r3) := h
 clear h
 replace H := Option.bind_eq_some_iff.mp H
 obtain ⟨⟨t384, t385, t386⟩, A40, H⟩ := H
 replace H : (spec_l1Cur_spoilt.l0 k a1 a2 (wrap64 (1 + t384)) s0_0 t385 t386) = some (r1, r2, r3) := H
 have A4 := Aside0.mk A40
 clear A40
 have H' := Aside0.mk H
 clear H
 go_enter Tryz.func57, Tryz.ntmps57
 go_wp2_with (first | (go_at_call 55; (with_reducible refine (spec_l1Cur_pick.calls g s0_0 s0_1 s0_2 2 t384 t385 t386 w0 _ ?side1 ?side2 A4.out).mono ?_); (case side1 => exact IsS54.to HI0); (case side2 => exact below_to1 HB (IsS54.ge HI0.out)); rintro e w5 ⟨rfl, hi, hb, hk⟩; replace HK := Aside0.mk (KeepBut.trans (keep_to HK) hk (.inl rfl)); replace HB := Aside0.mk (hb); replace HI0 := Aside0.mk (hi); clear hb hk hi))
 repeat (go_quiet (first | (go_at_call 55; (with_reducible refine (spec_l1Cur_pick.calls g s0_0 s0_1 s0_2 2 t384 t385 t386 w0 _ ?side1 ?side2 A4.out).mono ?_); (case side1 => exact IsS54.to HI0); (case side2 => exact below_to1 HB (IsS54.ge HI0.out)); rintro e w5 ⟨rfl, hi, hb, hk⟩; replace HK := Aside0.mk (KeepBut.trans (keep_to HK) hk (.inl rfl)); replace HB := Aside0.mk (hb); replace HI0 := Aside0.mk (hi); clear hb hk hi)); try go_wp2_with (first | (go_at_call 55; (with_reducible refine (spec_l1Cur_pick.calls g s0_0 s0_1 s0_2 2 t384 t385 t386 w0 _ ?side1 ?side2 A4.out).mono ?_); (case side1 => exact IsS54.to HI0); (case side2 => exact below_to1 HB (IsS54.ge HI0.out)); rintro e w5 ⟨rfl, hi, hb, hk⟩; replace HK := Aside0.mk (KeepBut.trans (keep_to HK) hk (.inl rfl)); replace HB := Aside0.mk (hb); replace HI0 := Aside0.mk (hi); clear hb hk hi)))
 go_loopg [1, 7] k (fun kq v1 v7 w' => ∃ (x1_1 : ByteArray) (x7_1 : Int) (x1001_1 : Int) (x1002_1 : Int), v1 = .string x1_1 ∧ v7 = .int .i64 x7_1 ∧ Aside0 (spec_l1Cur_spoilt.l0 kq x1_1 a2 x7_1 s0_0 x1001_1 x1002_1 = some (r1, r2, r3)) ∧ Aside0 (kq ≤ k) ∧ Aside0 (IsS54 w0 w' g s0_0 x1001_1 x1002_1) ∧ Aside0 (KeepBut w w' g none) ∧ Aside0 (Below w0.heap.size w0 w'))
 case atStart => exact ⟨(a1), (wrap64 (1 + t384)), (t385), (t386), (by first | rfl | (simp; done) | (simp [*]; done)), (by first | rfl | (simp; done) | (simp [*]; done)), H', ⟨Nat.le_refl _⟩, ⟨by repeat (first | (with_reducible first | exact HI0.out | apply IsS54.alloc | apply IsS54.drewN | apply IsS54.drew | apply IsS54.set_1 | apply IsS54.set_2) | exact HI0.out)⟩, ⟨keep_to HK⟩, ⟨below_to1 HB (IsS54.ge HI0.out)⟩⟩
 case round =>
  clear H'
  try clear p2
  try clear c5
  obtain ⟨x1_1, x7_1, x1001_1, x1002_1, rfl, rfl, HA, HK1, HI0, HK, HB⟩ := hrel
  cases gk with
  | zero => exact absurd HA.out (by simp [spec_l1Cur_spoilt.l0])
  | succ k1 =>
   have H := HA.out
   clear HA
   simp only [spec_l1Cur_spoilt.l0] at H
   have HC6 := Aside0.mk H
   clear H
   go_upto_region 2 with (fail)
   repeat (go_quiet (fail); go_upto_region 2 with (fail))
   go_cut [19] (fun v19 wc => ∃ (kq : Nat) (x19_5 : Bool), v19 = .bool x19_5 ∧ Aside0 (spec_l1Cur_spoilt.j1 kq x1_1 a2 x7_1 x19_5 s0_0 x1001_1 x1002_1 = some (r1, r2, r3)) ∧ Aside0 (kq ≤ k1) ∧ Aside0 (IsS54 w0 wc g s0_0 x1001_1 x1002_1) ∧ Aside0 (KeepBut w wc g none) ∧ Aside0 (Below w0.heap.size w0 wc))
   case first =>
    have H := HC6.out
    clear HC6
    by_cases c7 : x7_1 > 0
    ·rw [if_pos c7] at H
     have c7b0 : decide (0 < x7_1) = true := decide_eq_true c7
     clear c7
     (first | rw [c7b0] | (simp only [i64_w, i32_w]; rw [c7b0]) | skip)
     have H' := Aside0.mk H
     clear H
     go_wp2
     repeat (go_quiet (fail); try go_wp2)
     go_meet
     case rel => exact ⟨_, (decide ((x1_1.size : Int) > 0)), (by first | rfl | (simp; done) | (simp [*]; done)), H', ⟨by have := HK1.out; first | omega | exact Nat.le_refl _⟩, ⟨by repeat (first | (with_reducible first | exact HI0.out | apply IsS54.alloc | apply IsS54.drewN | apply IsS54.drew | apply IsS54.set_1 | apply IsS54.set_2) | exact HI0.out)⟩, ⟨keep_to HK⟩, ⟨below_to1 HB (IsS54.ge HI0.out)⟩⟩
    ·rw [if_neg c7] at H
     have c7b0 : decide (0 < x7_1) = false := decide_eq_false c7
     clear c7
     (first | rw [c7b0] | (simp only [i64_w, i32_w]; rw [c7b0]) | skip)
     have H' := Aside0.mk H
     clear H
     go_wp2
     repeat (go_quiet (fail); try go_wp2)
     go_meet
     case rel => exact ⟨_, (false), (by first | rfl | (simp; done) | (simp [*]; done)), H', ⟨by have := HK1.out; first | omega | exact Nat.le_refl _⟩, ⟨by repeat (first | (with_reducible first | exact HI0.out | apply IsS54.alloc | apply IsS54.drewN | apply IsS54.drew | apply IsS54.set_1 | apply IsS54.set_2) | exact HI0.out)⟩, ⟨keep_to HK⟩, ⟨below_to1 HB (IsS54.ge HI0.out)⟩⟩
   case rest =>
    clear HC6
    try clear p2
    try clear c5
    try clear p6
    try clear c7
    try clear c7b0
    try clear p2
    obtain ⟨kq, x19_5, rfl, HA, HJ5, HI0, HK, HB⟩ := hcut
    cases kq with
    | zero => exact absurd HA.out (by simp [spec_l1Cur_spoilt.j1])
    | succ kj5 =>
     have H := HA.out
     clear HA
     simp only [spec_l1Cur_spoilt.j1] at H
     by_cases c8 : x19_5 = true
     ·subst c8
      have H1 : ((spec_l1Cur_pick.f s0_0 x1001_1 x1002_1 (x1_1.size : Int)).bind fun bt387 => ((spec_l1Cur_pick.f s0_0 bt387.2.1 bt387.2.2 (a2.size : Int)).bind fun bt390 => (if 0 ≤ bt390.1 then (if bt390.1 < (a2.size : Int) then ((some (([bt a2 bt390.1] : List Int) : List Int)).bind fun y393 => ((spec_l1Cur_pick.f s0_0 bt390.2.1 bt390.2.2 3).bind fun bt396 => (if bt396.1 = 0 then (if 0 ≤ bt387.1 then (if bt387.1 ≤ (x1_1.size : Int) then (if (x1_1.extract 0 (bt387.1 : Int).toNat).size + (strOfNums y393).size ≤ 9223372036854775807 then (if ((x1_1.extract 0 (bt387.1 : Int).toNat) ++ (strOfNums y393)).size + (x1_1.extract (bt387.1 : Int).toNat x1_1.size).size ≤ 9223372036854775807 then (spec_l1Cur_spoilt.l0 kj5 (((x1_1.extract 0 (bt387.1 : Int).toNat) ++ (strOfNums y393)) ++ (x1_1.extract (bt387.1 : Int).toNat x1_1.size)) a2 (wrap64 (x7_1 - 1)) s0_0 bt396.2.1 bt396.2.2) else (none)) else (none)) else (none)) else (none)) else (if bt396.1 = 1 then (if 0 ≤ bt387.1 then (if bt387.1 ≤ (x1_1.size : Int) then (if (x1_1.extract 0 (bt387.1 : Int).toNat).size + (strOfNums y393).size ≤ 9223372036854775807 then (if 0 ≤ (wrap64 (bt387.1 + 1)) then (if (wrap64 (bt387.1 + 1)) ≤ (x1_1.size : Int) then (if ((x1_1.extract 0 (bt387.1 : Int).toNat) ++ (strOfNums y393)).size + (x1_1.extract ((wrap64 (bt387.1 + 1)) : Int).toNat x1_1.size).size ≤ 9223372036854775807 then (spec_l1Cur_spoilt.l0 kj5 (((x1_1.extract 0 (bt387.1 : Int).toNat) ++ (strOfNums y393)) ++ (x1_1.extract ((wrap64 (bt387.1 + 1)) : Int).toNat x1_1.size)) a2 (wrap64 (x7_1 - 1)) s0_0 bt396.2.1 bt396.2.2) else (none)) else (none)) else (none)) else (none)) else (none)) else (none)) else (if 0 ≤ bt387.1 then (if bt387.1 ≤ (x1_1.size : Int) then (if 0 ≤ (wrap64 (bt387.1 + 1)) then (if (wrap64 (bt387.1 + 1)) ≤ (x1_1.size : Int) then (if (x1_1.extract 0 (bt387.1 : Int).toNat).size + (x1_1.extract ((wrap64 (bt387.1 + 1)) : Int).toNat x1_1.size).size ≤ 9223372036854775807 then (spec_l1Cur_spoilt.l0 kj5 ((x1_1.extract 0 (bt387.1 : Int).toNat) ++ (x1_1.extract ((wrap64 (bt387.1 + 1)) : Int).toNat x1_1.size)) a2 (wrap64 (x7_1 - 1)) s0_0 bt396.2.1 bt396.2.2) else (none)) else (none)) else (none)) else (none)) else (none)))))) else (none)) else (none)))) = some (r1, r2, r3) := by rw [if_pos rfl] at H; exact H
      clear H
      have H := H1
      clear H1
      replace H := Option.bind_eq_some_iff.mp H
      obtain ⟨⟨t387, t388, t389⟩, A90, H⟩ := H
      replace H : ((spec_l1Cur_pick.f s0_0 t388 t389 (a2.size : Int)).bind fun bt390 => (if 0 ≤ bt390.1 then (if bt390.1 < (a2.size : Int) then ((some (([bt a2 bt390.1] : List Int) : List Int)).bind fun y393 => ((spec_l1Cur_pick.f s0_0 bt390.2.1 bt390.2.2 3).bind fun bt396 => (if bt396.1 = 0 then (if 0 ≤ t387 then (if t387 ≤ (x1_1.size : Int) then (if (x1_1.extract 0 (t387 : Int).toNat).size + (strOfNums y393).size ≤ 9223372036854775807 then (if ((x1_1.extract 0 (t387 : Int).toNat) ++ (strOfNums y393)).size + (x1_1.extract (t387 : Int).toNat x1_1.size).size ≤ 9223372036854775807 then (spec_l1Cur_spoilt.l0 kj5 (((x1_1.extract 0 (t387 : Int).toNat) ++ (strOfNums y393)) ++ (x1_1.extract (t387 : Int).toNat x1_1.size)) a2 (wrap64 (x7_1 - 1)) s0_0 bt396.2.1 bt396.2.2) else (none)) else (none)) else (none)) else (none)) else (if bt396.1 = 1 then (if 0 ≤ t387 then (if t387 ≤ (x1_1.size : Int) then (if (x1_1.extract 0 (t387 : Int).toNat).size + (strOfNums y393).size ≤ 9223372036854775807 then (if 0 ≤ (wrap64 (t387 + 1)) then (if (wrap64 (t387 + 1)) ≤ (x1_1.size : Int) then (if ((x1_1.extract 0 (t387 : Int).toNat) ++ (strOfNums y393)).size + (x1_1.extract ((wrap64 (t387 + 1)) : Int).toNat x1_1.size).size ≤ 9223372036854775807 then (spec_l1Cur_spoilt.l0 kj5 (((x1_1.extract 0 (t387 : Int).toNat) ++ (strOfNums y393)) ++ (x1_1.extract ((wrap64 (t387 + 1)) : Int).toNat x1_1.size)) a2 (wrap64 (x7_1 - 1)) s0_0 bt396.2.1 bt396.2.2) else (none)) else (none)) else (none)) else (none)) else (none)) else (none)) else (if 0 ≤ t387 then (if t387 ≤ (x1_1.size : Int) then (if 0 ≤ (wrap64 (t387 + 1)) then (if (wrap64 (t387 + 1)) ≤ (x1_1.size : Int) then (if (x1_1.extract 0 (t387 : Int).toNat).size + (x1_1.extract ((wrap64 (t387 + 1)) : Int).toNat x1_1.size).size ≤ 9223372036854775807 then (spec_l1Cur_spoilt.l0 kj5 ((x1_1.extract 0 (t387 : Int).toNat) ++ (x1_1.extract ((wrap64 (t387 + 1)) : Int).toNat x1_1.size)) a2 (wrap64 (x7_1 - 1)) s0_0 bt396.2.1 bt396.2.2) else (none)) else (none)) else (none)) else (none)) else (none)))))) else (none)) else (none))) = some (r1, r2, r3) := H
      have A9 := Aside0.mk A90
      clear A90
      replace H := Option.bind_eq_some_iff.mp H
      obtain ⟨⟨t390, t391, t392⟩, A100, H⟩ := H
      replace H : (if 0 ≤ t390 then (if t390 < (a2.size : Int) then ((some (([bt a2 t390] : List Int) : List Int)).bind fun y393 => ((spec_l1Cur_pick.f s0_0 t391 t392 3).bind fun bt396 => (if bt396.1 = 0 then (if 0 ≤ t387 then (if t387 ≤ (x1_1.size : Int) then (if (x1_1.extract 0 (t387 : Int).toNat).size + (strOfNums y393).size ≤ 9223372036854775807 then (if ((x1_1.extract 0 (t387 : Int).toNat) ++ (strOfNums y393)).size + (x1_1.extract (t387 : Int).toNat x1_1.size).size ≤ 9223372036854775807 then (spec_l1Cur_spoilt.l0 kj5 (((x1_1.extract 0 (t387 : Int).toNat) ++ (strOfNums y393)) ++ (x1_1.extract (t387 : Int).toNat x1_1.size)) a2 (wrap64 (x7_1 - 1)) s0_0 bt396.2.1 bt396.2.2) else (none)) else (none)) else (none)) else (none)) else (if bt396.1 = 1 then (if 0 ≤ t387 then (if t387 ≤ (x1_1.size : Int) then (if (x1_1.extract 0 (t387 : Int).toNat).size + (strOfNums y393).size ≤ 9223372036854775807 then (if 0 ≤ (wrap64 (t387 + 1)) then (if (wrap64 (t387 + 1)) ≤ (x1_1.size : Int) then (if ((x1_1.extract 0 (t387 : Int).toNat) ++ (strOfNums y393)).size + (x1_1.extract ((wrap64 (t387 + 1)) : Int).toNat x1_1.size).size ≤ 9223372036854775807 then (spec_l1Cur_spoilt.l0 kj5 (((x1_1.extract 0 (t387 : Int).toNat) ++ (strOfNums y393)) ++ (x1_1.extract ((wrap64 (t387 + 1)) : Int).toNat x1_1.size)) a2 (wrap64 (x7_1 - 1)) s0_0 bt396.2.1 bt396.2.2) else (none)) else (none)) else (none)) else (none)) else (none)) else (none)) else (if 0 ≤ t387 then (if t387 ≤ (x1_1.size : Int) then (if 0 ≤ (wrap64 (t387 + 1)) then (if (wrap64 (t387 + 1)) ≤ (x1_1.size : Int) then (if (x1_1.extract 0 (t387 : Int).toNat).size + (x1_1.extract ((wrap64 (t387 + 1)) : Int).toNat x1_1.size).size ≤ 9223372036854775807 then (spec_l1Cur_spoilt.l0 kj5 ((x1_1.extract 0 (t387 : Int).toNat) ++ (x1_1.extract ((wrap64 (t387 + 1)) : Int).toNat x1_1.size)) a2 (wrap64 (x7_1 - 1)) s0_0 bt396.2.1 bt396.2.2) else (none)) else (none)) else (none)) else (none)) else (none)))))) else (none)) else (none)) = some (r1, r2, r3) := H
      have A10 := Aside0.mk A100
      clear A100
      by_cases c11 : 0 ≤ t390
      ·rw [if_pos c11] at H
       have c11b0 : decide (0 ≤ t390) = true := decide_eq_true c11
       clear c11
       by_cases c12 : t390 < (a2.size : Int)
       ·rw [if_pos c12] at H
        have c12b0 : decide (t390 < (a2.size : Int)) = true := decide_eq_true c12
        clear c12
        obtain ⟨y393, hy393⟩ : ∃ y_ : List Int, y_ = (([bt a2 t390] : List Int)) := ⟨_, rfl⟩
        replace H : ((spec_l1Cur_pick.f s0_0 t391 t392 3).bind fun bt396 => (if bt396.1 = 0 then (if 0 ≤ t387 then (if t387 ≤ (x1_1.size : Int) then (if (x1_1.extract 0 (t387 : Int).toNat).size + (strOfNums y393).size ≤ 9223372036854775807 then (if ((x1_1.extract 0 (t387 : Int).toNat) ++ (strOfNums y393)).size + (x1_1.extract (t387 : Int).toNat x1_1.size).size ≤ 9223372036854775807 then (spec_l1Cur_spoilt.l0 kj5 (((x1_1.extract 0 (t387 : Int).toNat) ++ (strOfNums y393)) ++ (x1_1.extract (t387 : Int).toNat x1_1.size)) a2 (wrap64 (x7_1 - 1)) s0_0 bt396.2.1 bt396.2.2) else (none)) else (none)) else (none)) else (none)) else (if bt396.1 = 1 then (if 0 ≤ t387 then (if t387 ≤ (x1_1.size : Int) then (if (x1_1.extract 0 (t387 : Int).toNat).size + (strOfNums y393).size ≤ 9223372036854775807 then (if 0 ≤ (wrap64 (t387 + 1)) then (if (wrap64 (t387 + 1)) ≤ (x1_1.size : Int) then (if ((x1_1.extract 0 (t387 : Int).toNat) ++ (strOfNums y393)).size + (x1_1.extract ((wrap64 (t387 + 1)) : Int).toNat x1_1.size).size ≤ 9223372036854775807 then (spec_l1Cur_spoilt.l0 kj5 (((x1_1.extract 0 (t387 : Int).toNat) ++ (strOfNums y393)) ++ (x1_1.extract ((wrap64 (t387 + 1)) : Int).toNat x1_1.size)) a2 (wrap64 (x7_1 - 1)) s0_0 bt396.2.1 bt396.2.2) else (none)) else (none)) else (none)) else (none)) else (none)) else (none)) else (if 0 ≤ t387 then (if t387 ≤ (x1_1.size : Int) then (if 0 ≤ (wrap64 (t387 + 1)) then (if (wrap64 (t387 + 1)) ≤ (x1_1.size : Int) then (if (x1_1.extract 0 (t387 : Int).toNat).size + (x1_1.extract ((wrap64 (t387 + 1)) : Int).toNat x1_1.size).size ≤ 9223372036854775807 then (spec_l1Cur_spoilt.l0 kj5 ((x1_1.extract 0 (t387 : Int).toNat) ++ (x1_1.extract ((wrap64 (t387 + 1)) : Int).toNat x1_1.size)) a2 (wrap64 (x7_1 - 1)) s0_0 bt396.2.1 bt396.2.2) else (none)) else (none)) else (none)) else (none)) else (none))))) = some (r1, r2, r3) := by first | (rw [hy393]; with_reducible exact H) | (have H2_ := (Option.bind_some _ _).symm.trans H; rw [hy393]; with_reducible exact H2_) | (have H2_ := (Option.bind_some _ _).symm.trans H; with_reducible exact H2_) | with_reducible exact H | (rw [hy393]; exact H) | exact H
        have Ny393 := Aside0.mk hy393
        clear hy393
        replace H := Option.bind_eq_some_iff.mp H
        obtain ⟨⟨t396, t397, t398⟩, A140, H⟩ := H
        replace H : (if t396 = 0 then (if 0 ≤ t387 then (if t387 ≤ (x1_1.size : Int) then (if (x1_1.extract 0 (t387 : Int).toNat).size + (strOfNums y393).size ≤ 9223372036854775807 then (if ((x1_1.extract 0 (t387 : Int).toNat) ++ (strOfNums y393)).size + (x1_1.extract (t387 : Int).toNat x1_1.size).size ≤ 9223372036854775807 then (spec_l1Cur_spoilt.l0 kj5 (((x1_1.extract 0 (t387 : Int).toNat) ++ (strOfNums y393)) ++ (x1_1.extract (t387 : Int).toNat x1_1.size)) a2 (wrap64 (x7_1 - 1)) s0_0 t397 t398) else (none)) else (none)) else (none)) else (none)) else (if t396 = 1 then (if 0 ≤ t387 then (if t387 ≤ (x1_1.size : Int) then (if (x1_1.extract 0 (t387 : Int).toNat).size + (strOfNums y393).size ≤ 9223372036854775807 then (if 0 ≤ (wrap64 (t387 + 1)) then (if (wrap64 (t387 + 1)) ≤ (x1_1.size : Int) then (if ((x1_1.extract 0 (t387 : Int).toNat) ++ (strOfNums y393)).size + (x1_1.extract ((wrap64 (t387 + 1)) : Int).toNat x1_1.size).size ≤ 9223372036854775807 then (spec_l1Cur_spoilt.l0 kj5 (((x1_1.extract 0 (t387 : Int).toNat) ++ (strOfNums y393)) ++ (x1_1.extract ((wrap64 (t387 + 1)) : Int).toNat x1_1.size)) a2 (wrap64 (x7_1 - 1)) s0_0 t397 t398) else (none)) else (none)) else (none)) else (none)) else (none)) else (none)) else (if 0 ≤ t387 then (if t387 ≤ (x1_1.size : Int) then (if 0 ≤ (wrap64 (t387 + 1)) then (if (wrap64 (t387 + 1)) ≤ (x1_1.size : Int) then (if (x1_1.extract 0 (t387 : Int).toNat).size + (x1_1.extract ((wrap64 (t387 + 1)) : Int).toNat x1_1.size).size ≤ 9223372036854775807 then (spec_l1Cur_spoilt.l0 kj5 ((x1_1.extract 0 (t387 : Int).toNat) ++ (x1_1.extract ((wrap64 (t387 + 1)) : Int).toNat x1_1.size)) a2 (wrap64 (x7_1 - 1)) s0_0 t397 t398) else (none)) else (none)) else (none)) else (none)) else (none)))) = some (r1, r2, r3) := H
        have A14 := Aside0.mk A140
        clear A140
        by_cases c15 : t396 = 0
        ·rw [if_pos c15] at H
         have c15b0 : (t396 == 0) = true := beq_iff_eq.mpr c15
         have c15b1 : (t396 != 0) = false := bne_eq_false_iff_eq.mpr c15
         clear c15
         by_cases c16 : 0 ≤ t387
         ·rw [if_pos c16] at H
          have c16b0 := eq_true c16
          have c16b1 : decide (0 ≤ t387) = true := decide_eq_true c16
          clear c16
          by_cases c17 : t387 ≤ (x1_1.size : Int)
          ·rw [if_pos c17] at H
           have c17b0 := eq_true c17
           have c17b1 : decide (t387 ≤ (x1_1.size : Int)) = true := decide_eq_true c17
           clear c17
           by_cases c18 : (x1_1.extract 0 (t387 : Int).toNat).size + (strOfNums y393).size ≤ 9223372036854775807
           ·rw [if_pos c18] at H
            have c18b0 := eq_true c18
            have c18b1 : decide ((x1_1.extract 0 (t387 : Int).toNat).size + (strOfNums y393).size ≤ 9223372036854775807) = true := decide_eq_true c18
            try have c18b2 : (9223372036854775807 < (x1_1.extract 0 (t387 : Int).toNat).size + (strOfNums y393).size) = False := eq_false (Nat.not_lt.2 c18)
            have c19b0 := eq_true (of_decide_eq_true (by first | (with_reducible assumption) | assumption) : 0 ≤ t387)
            have c20b0 := eq_true (of_decide_eq_true (by first | (with_reducible assumption) | assumption) : t387 ≤ (x1_1.size : Int))
            by_cases c21 : ((x1_1.extract 0 (t387 : Int).toNat) ++ (strOfNums y393)).size + (x1_1.extract (t387 : Int).toNat x1_1.size).size ≤ 9223372036854775807
            ·rw [if_pos c21] at H
             have c21b0 := eq_true c21
             have c21b1 : decide (((x1_1.extract 0 (t387 : Int).toNat) ++ (strOfNums y393)).size + (x1_1.extract (t387 : Int).toNat x1_1.size).size ≤ 9223372036854775807) = true := decide_eq_true c21
             try have c21b2 : (9223372036854775807 < ((x1_1.extract 0 (t387 : Int).toNat) ++ (strOfNums y393)).size + (x1_1.extract (t387 : Int).toNat x1_1.size).size) = False := eq_false (Nat.not_lt.2 c21)
             have c21b8 : (9223372036854775807 < (x1_1.extract 0 (t387 : Int).toNat).size + (strOfNums y393).size + (x1_1.extract (t387 : Int).toNat x1_1.size).size) = False := eq_false (by have h_ := c21; simp only [ByteArray.size_append] at h_; omega)
             have c21b9 : decide ((x1_1.extract 0 (t387 : Int).toNat).size + (strOfNums y393).size + (x1_1.extract (t387 : Int).toNat x1_1.size).size ≤ 9223372036854775807) = true := decide_eq_true (by have h_ := c21; simp only [ByteArray.size_append] at h_; omega)
             have H' := Aside0.mk H
             clear H
             go_wp2_with (first | (go_at_call 55; (with_reducible refine (spec_l1Cur_pick.calls g s0_0 x1001_1 x1002_1 (x1_1.size : Int) t387 t388 t389 w0 _ ?side1 ?side2 A9.out).mono ?_); (case side1 => exact IsS54.to HI0); (case side2 => exact below_to1 HB (IsS54.ge HI0.out)); rintro e w22 ⟨rfl, hi, hb, hk⟩; replace HK := Aside0.mk (KeepBut.trans (keep_to HK) hk (.inl rfl)); replace HB := Aside0.mk (hb); replace HI0 := Aside0.mk (hi); clear hb hk hi) | (go_at_call 55; (with_reducible refine (spec_l1Cur_pick.calls g s0_0 t388 t389 (a2.size : Int) t390 t391 t392 w0 _ ?side1 ?side2 A10.out).mono ?_); (case side1 => exact IsS54.to HI0); (case side2 => exact below_to1 HB (IsS54.ge HI0.out)); rintro e w23 ⟨rfl, hi, hb, hk⟩; replace HK := Aside0.mk (KeepBut.trans (keep_to HK) hk (.inl rfl)); replace HB := Aside0.mk (hb); replace HI0 := Aside0.mk (hi); clear hb hk hi; have p13 : 0 ≤ (t390 : Int) := of_decide_eq_true (by first | (with_reducible assumption) | assumption); have q13 : t390 < (a2.size : Int) := of_decide_eq_true (by first | (with_reducible assumption) | assumption); have hx13 := bt_at a2 t390; replace p13 := eq_true p13; replace q13 := eq_true q13) | ((with_reducible refine gate_dst (N := 32) rfl ?_); (try (refine gate_guard (by rfl) ?_; dsimp only)); refine Kd.R_lit (Kd.int .u8) _ 5 ?hg (N := 32) ?hd (xs := ([bt a2 t390] : List Int)) (inner := [.int .u8 (bt a2 t390)]) (ok := fun _ => True) (okp := fun _ => True) ?hr ?hp (fun _ hk => hk) trivial (Below.refl _ _) (Nat.le_refl _) (by simp) ?_; (case hd => rfl); (case hg => rfl); (case hr => first | (go_simp; done) | (go_simp; rfl)); (case hp => exact (Reps.one (show Kd.M (Kd.int .u8) _ _ _ (bt a2 t390) [.int .u8 (bt a2 t390)] from rfl) (Reps.none _ _))); intro v394 w24 ho25 hb hg_ hnew_; clear hg_ hnew_; (first | rw [← Ny393.out] at ho25 | (simp only [Int.reduceToNat] at ho25; rw [← Ny393.out] at ho25)); have n0_ := Aside0.mk (Kd.R_lower ho25 (keep_size (w := w) (g := g) (row := none) (keep_to HK))); have n1_ := Aside0.mk (IsS54.below (IsS54.to HI0) hb); have n2_ := Aside0.mk (KeepBut.trans (keep_to HK) (KeepBut.of_below hb g none) (.inl rfl)); have n3_ := Aside0.mk (below_step (below_to1 HB (IsS54.ge HI0.out)) hb); clear HI0; clear HK; clear HB; have HO395 := n0_; have HI0 := n1_; have HK := n2_; have HB := n3_; clear n0_ n1_ n2_ n3_; clear hb ho25; have hcv26 := own_string (P := Tryz.prog) Tryz.underlying22 Tryz.underlying5 Tryz.underlying9 (Kd.own_of_R HO395.out)) | (go_at_call 55; (with_reducible refine (spec_l1Cur_pick.calls g s0_0 t391 t392 3 t396 t397 t398 w0 _ ?side1 ?side2 A14.out).mono ?_); (case side1 => exact IsS54.to HI0); (case side2 => exact below_to1 HB (IsS54.ge HI0.out)); rintro e w27 ⟨rfl, hi, hb, hk⟩; replace HO395 := Aside0.mk (Kd.R_mono (Kd.R_keep (IsS54.apart (IsS54.to HI0) (kd_to HO395) (by decide)) hk (fun _ h => h.2)) (fun _ h => h.1)); replace HK := Aside0.mk (KeepBut.trans (keep_to HK) hk (.inl rfl)); replace HB := Aside0.mk (hb); replace HI0 := Aside0.mk (hi); clear hb hk hi))
             repeat (go_quiet (first | (go_at_call 55; (with_reducible refine (spec_l1Cur_pick.calls g s0_0 x1001_1 x1002_1 (x1_1.size : Int) t387 t388 t389 w0 _ ?side1 ?side2 A9.out).mono ?_); (case side1 => exact IsS54.to HI0); (case side2 => exact below_to1 HB (IsS54.ge HI0.out)); rintro e w22 ⟨rfl, hi, hb, hk⟩; replace HK := Aside0.mk (KeepBut.trans (keep_to HK) hk (.inl rfl)); replace HB := Aside0.mk (hb); replace HI0 := Aside0.mk (hi); clear hb hk hi) | (go_at_call 55; (with_reducible refine (spec_l1Cur_pick.calls g s0_0 t388 t389 (a2.size : Int) t390 t391 t392 w0 _ ?side1 ?side2 A10.out).mono ?_); (case side1 => exact IsS54.to HI0); (case side2 => exact below_to1 HB (IsS54.ge HI0.out)); rintro e w23 ⟨rfl, hi, hb, hk⟩; replace HK := Aside0.mk (KeepBut.trans (keep_to HK) hk (.inl rfl)); replace HB := Aside0.mk (hb); replace HI0 := Aside0.mk (hi); clear hb hk hi; have p13 : 0 ≤ (t390 : Int) := of_decide_eq_true (by first | (with_reducible assumption) | assumption); have q13 : t390 < (a2.size : Int) := of_decide_eq_true (by first | (with_reducible assumption) | assumption); have hx13 := bt_at a2 t390; replace p13 := eq_true p13; replace q13 := eq_true q13) | ((with_reducible refine gate_dst (N := 32) rfl ?_); (try (refine gate_guard (by rfl) ?_; dsimp only)); refine Kd.R_lit (Kd.int .u8) _ 5 ?hg (N := 32) ?hd (xs := ([bt a2 t390] : List Int)) (inner := [.int .u8 (bt a2 t390)]) (ok := fun _ => True) (okp := fun _ => True) ?hr ?hp (fun _ hk => hk) trivial (Below.refl _ _) (Nat.le_refl _) (by simp) ?_; (case hd => rfl); (case hg => rfl); (case hr => first | (go_simp; done) | (go_simp; rfl)); (case hp => exact (Reps.one (show Kd.M (Kd.int .u8) _ _ _ (bt a2 t390) [.int .u8 (bt a2 t390)] from rfl) (Reps.none _ _))); intro v394 w24 ho25 hb hg_ hnew_; clear hg_ hnew_; (first | rw [← Ny393.out] at ho25 | (simp only [Int.reduceToNat] at ho25; rw [← Ny393.out] at ho25)); have n0_ := Aside0.mk (Kd.R_lower ho25 (keep_size (w := w) (g := g) (row := none) (keep_to HK))); have n1_ := Aside0.mk (IsS54.below (IsS54.to HI0) hb); have n2_ := Aside0.mk (KeepBut.trans (keep_to HK) (KeepBut.of_below hb g none) (.inl rfl)); have n3_ := Aside0.mk (below_step (below_to1 HB (IsS54.ge HI0.out)) hb); clear HI0; clear HK; clear HB; have HO395 := n0_; have HI0 := n1_; have HK := n2_; have HB := n3_; clear n0_ n1_ n2_ n3_; clear hb ho25; have hcv26 := own_string (P := Tryz.prog) Tryz.underlying22 Tryz.underlying5 Tryz.underlying9 (Kd.own_of_R HO395.out)) | (go_at_call 55; (with_reducible refine (spec_l1Cur_pick.calls g s0_0 t391 t392 3 t396 t397 t398 w0 _ ?side1 ?side2 A14.out).mono ?_); (case side1 => exact IsS54.to HI0); (case side2 => exact below_to1 HB (IsS54.ge HI0.out)); rintro e w27 ⟨rfl, hi, hb, hk⟩; replace HO395 := Aside0.mk (Kd.R_mono (Kd.R_keep (IsS54.apart (IsS54.to HI0) (kd_to HO395) (by decide)) hk (fun _ h => h.2)) (fun _ h => h.1)); replace HK := Aside0.mk (KeepBut.trans (keep_to HK) hk (.inl rfl)); replace HB := Aside0.mk (hb); replace HI0 := Aside0.mk (hi); clear hb hk hi)); try go_wp2_with (first | (go_at_call 55; (with_reducible refine (spec_l1Cur_pick.calls g s0_0 x1001_1 x1002_1 (x1_1.size : Int) t387 t388 t389 w0 _ ?side1 ?side2 A9.out).mono ?_); (case side1 => exact IsS54.to HI0); (case side2 => exact below_to1 HB (IsS54.ge HI0.out)); rintro e w22 ⟨rfl, hi, hb, hk⟩; replace HK := Aside0.mk (KeepBut.trans (keep_to HK) hk (.inl rfl)); replace HB := Aside0.mk (hb); replace HI0 := Aside0.mk (hi); clear hb hk hi) | (go_at_call 55; (with_reducible refine (spec_l1Cur_pick.calls g s0_0 t388 t389 (a2.size : Int) t390 t391 t392 w0 _ ?side1 ?side2 A10.out).mono ?_); (case side1 => exact IsS54.to HI0); (case side2 => exact below_to1 HB (IsS54.ge HI0.out)); rintro e w23 ⟨rfl, hi, hb, hk⟩; replace HK := Aside0.mk (KeepBut.trans (keep_to HK) hk (.inl rfl)); replace HB := Aside0.mk (hb); replace HI0 := Aside0.mk (hi); clear hb hk hi; have p13 : 0 ≤ (t390 : Int) := of_decide_eq_true (by first | (with_reducible assumption) | assumption); have q13 : t390 < (a2.size : Int) := of_decide_eq_true (by first | (with_reducible assumption) | assumption); have hx13 := bt_at a2 t390; replace p13 := eq_true p13; replace q13 := eq_true q13) | ((with_reducible refine gate_dst (N := 32) rfl ?_); (try (refine gate_guard (by rfl) ?_; dsimp only)); refine Kd.R_lit (Kd.int .u8) _ 5 ?hg (N := 32) ?hd (xs := ([bt a2 t390] : List Int)) (inner := [.int .u8 (bt a2 t390)]) (ok := fun _ => True) (okp := fun _ => True) ?hr ?hp (fun _ hk => hk) trivial (Below.refl _ _) (Nat.le_refl _) (by simp) ?_; (case hd => rfl); (case hg => rfl); (case hr => first | (go_simp; done) | (go_simp; rfl)); (case hp => exact (Reps.one (show Kd.M (Kd.int .u8) _ _ _ (bt a2 t390) [.int .u8 (bt a2 t390)] from rfl) (Reps.none _ _))); intro v394 w24 ho25 hb hg_ hnew_; clear hg_ hnew_; (first | rw [← Ny393.out] at ho25 | (simp only [Int.reduceToNat] at ho25; rw [← Ny393.out] at ho25)); have n0_ := Aside0.mk (Kd.R_lower ho25 (keep_size (w := w) (g := g) (row := none) (keep_to HK))); have n1_ := Aside0.mk (IsS54.below (IsS54.to HI0) hb); have n2_ := Aside0.mk (KeepBut.trans (keep_to HK) (KeepBut.of_below hb g none) (.inl rfl)); have n3_ := Aside0.mk (below_step (below_to1 HB (IsS54.ge HI0.out)) hb); clear HI0; clear HK; clear HB; have HO395 := n0_; have HI0 := n1_; have HK := n2_; have HB := n3_; clear n0_ n1_ n2_ n3_; clear hb ho25; have hcv26 := own_string (P := Tryz.prog) Tryz.underlying22 Tryz.underlying5 Tryz.underlying9 (Kd.own_of_R HO395.out)) | (go_at_call 55; (with_reducible refine (spec_l1Cur_pick.calls g s0_0 t391 t392 3 t396 t397 t398 w0 _ ?side1 ?side2 A14.out).mono ?_); (case side1 => exact IsS54.to HI0); (case side2 => exact below_to1 HB (IsS54.ge HI0.out)); rintro e w27 ⟨rfl, hi, hb, hk⟩; replace HO395 := Aside0.mk (Kd.R_mono (Kd.R_keep (IsS54.apart (IsS54.to HI0) (kd_to HO395) (by decide)) hk (fun _ h => h.2)) (fun _ h => h.1)); replace HK := Aside0.mk (KeepBut.trans (keep_to HK) hk (.inl rfl)); replace HB := Aside0.mk (hb); replace HI0 := Aside0.mk (hi); clear hb hk hi)))
             go_roundg kj5
             case measure => have := HK1.out; have := HJ5.out; omega
             case rel => exact ⟨(((x1_1.extract 0 (t387 : Int).toNat) ++ (strOfNums y393)) ++ (x1_1.extract (t387 : Int).toNat x1_1.size)), (wrap64 (x7_1 - 1)), (t397), (t398), (by first | rfl | (simp; done) | (simp [*]; done)), (by first | rfl | (simp; done) | (simp [*]; done)), H', ⟨by have := HK1.out; have := HJ5.out; omega⟩, ⟨by repeat (first | (with_reducible first | exact HI0.out | apply IsS54.alloc | apply IsS54.drewN | apply IsS54.drew | apply IsS54.set_1 | apply IsS54.set_2) | exact HI0.out)⟩, ⟨keep_to HK⟩, ⟨below_to1 HB (IsS54.ge HI0.out)⟩⟩
            ·rw [if_neg c21] at H
             exact absurd H (by simp)
           ·rw [if_neg c18] at H
            exact absurd H (by simp)
          ·rw [if_neg c17] at H
           exact absurd H (by simp)
         ·rw [if_neg c16] at H
          exact absurd H (by simp)
        ·rw [if_neg c15] at H
         have c15b0 : (t396 == 0) = false := beq_eq_false_iff_ne.mpr c15
         have c15b1 : (t396 != 0) = true := bne_iff_ne.mpr c15
         by_cases c28 : t396 = 1
         ·rw [if_pos c28] at H
          have c28b0 : (t396 == 1) = true := beq_iff_eq.mpr c28
          have c28b1 : (t396 != 1) = false := bne_eq_false_iff_eq.mpr c28
          clear c28
          by_cases c29 : 0 ≤ t387
          ·rw [if_pos c29] at H
           have c29b0 := eq_true c29
           have c29b1 : decide (0 ≤ t387) = true := decide_eq_true c29
           clear c29
           by_cases c30 : t387 ≤ (x1_1.size : Int)
           ·rw [if_pos c30] at H
            have c30b0 := eq_true c30
            have c30b1 : decide (t387 ≤ (x1_1.size : Int)) = true := decide_eq_true c30
            clear c30
            by_cases c31 : (x1_1.extract 0 (t387 : Int).toNat).size + (strOfNums y393).size ≤ 9223372036854775807
            ·rw [if_pos c31] at H
             have c31b0 := eq_true c31
             have c31b1 : decide ((x1_1.extract 0 (t387 : Int).toNat).size + (strOfNums y393).size ≤ 9223372036854775807) = true := decide_eq_true c31
             try have c31b2 : (9223372036854775807 < (x1_1.extract 0 (t387 : Int).toNat).size + (strOfNums y393).size) = False := eq_false (Nat.not_lt.2 c31)
             obtain ⟨ji32, hji32⟩ : ∃ j_ : Int, (wrap64 (t387 + 1)) = j_ := ⟨_, rfl⟩
             replace H : (if 0 ≤ (ji32) then (if (ji32) ≤ (x1_1.size : Int) then (if ((x1_1.extract 0 (t387 : Int).toNat) ++ (strOfNums y393)).size + (x1_1.extract ((ji32) : Int).toNat x1_1.size).size ≤ 9223372036854775807 then (spec_l1Cur_spoilt.l0 kj5 (((x1_1.extract 0 (t387 : Int).toNat) ++ (strOfNums y393)) ++ (x1_1.extract ((ji32) : Int).toNat x1_1.size)) a2 (wrap64 (x7_1 - 1)) s0_0 t397 t398) else (none)) else (none)) else (none)) = some (r1, r2, r3) := by first | (rw [hji32] at H; exact H) | (simp only [hji32] at H ⊢; exact H)
             (try rw [hji32] at A9)
             (try rw [hji32] at A10)
             (try rw [hji32] at A14)
             have hji32w : (IntKind.i64.wrap (t387 + 1)) = ji32 := (i64_w _).trans hji32
             by_cases c33 : 0 ≤ (ji32)
             ·rw [if_pos c33] at H
              have c33b0 := eq_true c33
              have c33b1 : decide (0 ≤ (ji32)) = true := decide_eq_true c33
              clear c33
              by_cases c34 : (ji32) ≤ (x1_1.size : Int)
              ·rw [if_pos c34] at H
               have c34b0 := eq_true c34
               have c34b1 : decide ((ji32) ≤ (x1_1.size : Int)) = true := decide_eq_true c34
               clear c34
               by_cases c35 : ((x1_1.extract 0 (t387 : Int).toNat) ++ (strOfNums y393)).size + (x1_1.extract ((ji32) : Int).toNat x1_1.size).size ≤ 9223372036854775807
               ·rw [if_pos c35] at H
                have c35b0 := eq_true c35
                have c35b1 : decide (((x1_1.extract 0 (t387 : Int).toNat) ++ (strOfNums y393)).size + (x1_1.extract ((ji32) : Int).toNat x1_1.size).size ≤ 9223372036854775807) = true := decide_eq_true c35
                try have c35b2 : (9223372036854775807 < ((x1_1.extract 0 (t387 : Int).toNat) ++ (strOfNums y393)).size + (x1_1.extract ((ji32) : Int).toNat x1_1.size).size) = False := eq_false (Nat.not_lt.2 c35)
                have c35b8 : (9223372036854775807 < (x1_1.extract 0 (t387 : Int).toNat).size + (strOfNums y393).size + (x1_1.extract ((ji32) : Int).toNat x1_1.size).size) = False := eq_false (by have h_ := c35; simp only [ByteArray.size_append] at h_; omega)
                have c35b9 : decide ((x1_1.extract 0 (t387 : Int).toNat).size + (strOfNums y393).size + (x1_1.extract ((ji32) : Int).toNat x1_1.size).size ≤ 9223372036854775807) = true := decide_eq_true (by have h_ := c35; simp only [ByteArray.size_append] at h_; omega)
                have H' := Aside0.mk H
                clear H
                go_wp2_with (first | (go_at_call 55; (with_reducible refine (spec_l1Cur_pick.calls g s0_0 x1001_1 x1002_1 (x1_1.size : Int) t387 t388 t389 w0 _ ?side1 ?side2 A9.out).mono ?_); (case side1 => exact IsS54.to HI0); (case side2 => exact below_to1 HB (IsS54.ge HI0.out)); rintro e w36 ⟨rfl, hi, hb, hk⟩; replace HK := Aside0.mk (KeepBut.trans (keep_to HK) hk (.inl rfl)); replace HB := Aside0.mk (hb); replace HI0 := Aside0.mk (hi); clear hb hk hi) | (go_at_call 55; (with_reducible refine (spec_l1Cur_pick.calls g s0_0 t388 t389 (a2.size : Int) t390 t391 t392 w0 _ ?side1 ?side2 A10.out).mono ?_); (case side1 => exact IsS54.to HI0); (case side2 => exact below_to1 HB (IsS54.ge HI0.out)); rintro e w37 ⟨rfl, hi, hb, hk⟩; replace HK := Aside0.mk (KeepBut.trans (keep_to HK) hk (.inl rfl)); replace HB := Aside0.mk (hb); replace HI0 := Aside0.mk (hi); clear hb hk hi; have p13 : 0 ≤ (t390 : Int) := of_decide_eq_true (by first | (with_reducible assumption) | assumption); have q13 : t390 < (a2.size : Int) := of_decide_eq_true (by first | (with_reducible assumption) | assumption); have hx13 := bt_at a2 t390; replace p13 := eq_true p13; replace q13 := eq_true q13) | ((with_reducible refine gate_dst (N := 32) rfl ?_); (try (refine gate_guard (by rfl) ?_; dsimp only)); refine Kd.R_lit (Kd.int .u8) _ 5 ?hg (N := 32) ?hd (xs := ([bt a2 t390] : List Int)) (inner := [.int .u8 (bt a2 t390)]) (ok := fun _ => True) (okp := fun _ => True) ?hr ?hp (fun _ hk => hk) trivial (Below.refl _ _) (Nat.le_refl _) (by simp) ?_; (case hd => rfl); (case hg => rfl); (case hr => first | (go_simp; done) | (go_simp; rfl)); (case hp => exact (Reps.one (show Kd.M (Kd.int .u8) _ _ _ (bt a2 t390) [.int .u8 (bt a2 t390)] from rfl) (Reps.none _ _))); intro v394 w38 ho39 hb hg_ hnew_; clear hg_ hnew_; (first | rw [← Ny393.out] at ho39 | (simp only [Int.reduceToNat] at ho39; rw [← Ny393.out] at ho39)); have n0_ := Aside0.mk (Kd.R_lower ho39 (keep_size (w := w) (g := g) (row := none) (keep_to HK))); have n1_ := Aside0.mk (IsS54.below (IsS54.to HI0) hb); have n2_ := Aside0.mk (KeepBut.trans (keep_to HK) (KeepBut.of_below hb g none) (.inl rfl)); have n3_ := Aside0.mk (below_step (below_to1 HB (IsS54.ge HI0.out)) hb); clear HI0; clear HK; clear HB; have HO395 := n0_; have HI0 := n1_; have HK := n2_; have HB := n3_; clear n0_ n1_ n2_ n3_; clear hb ho39; have hcv40 := own_string (P := Tryz.prog) Tryz.underlying22 Tryz.underlying5 Tryz.underlying9 (Kd.own_of_R HO395.out)) | (go_at_call 55; (with_reducible refine (spec_l1Cur_pick.calls g s0_0 t391 t392 3 t396 t397 t398 w0 _ ?side1 ?side2 A14.out).mono ?_); (case side1 => exact IsS54.to HI0); (case side2 => exact below_to1 HB (IsS54.ge HI0.out)); rintro e w41 ⟨rfl, hi, hb, hk⟩; replace HO395 := Aside0.mk (Kd.R_mono (Kd.R_keep (IsS54.apart (IsS54.to HI0) (kd_to HO395) (by decide)) hk (fun _ h => h.2)) (fun _ h => h.1)); replace HK := Aside0.mk (KeepBut.trans (keep_to HK) hk (.inl rfl)); replace HB := Aside0.mk (hb); replace HI0 := Aside0.mk (hi); clear hb hk hi))
                repeat (go_quiet (first | (go_at_call 55; (with_reducible refine (spec_l1Cur_pick.calls g s0_0 x1001_1 x1002_1 (x1_1.size : Int) t387 t388 t389 w0 _ ?side1 ?side2 A9.out).mono ?_); (case side1 => exact IsS54.to HI0); (case side2 => exact below_to1 HB (IsS54.ge HI0.out)); rintro e w36 ⟨rfl, hi, hb, hk⟩; replace HK := Aside0.mk (KeepBut.trans (keep_to HK) hk (.inl rfl)); replace HB := Aside0.mk (hb); replace HI0 := Aside0.mk (hi); clear hb hk hi) | (go_at_call 55; (with_reducible refine (spec_l1Cur_pick.calls g s0_0 t388 t389 (a2.size : Int) t390 t391 t392 w0 _ ?side1 ?side2 A10.out).mono ?_); (case side1 => exact IsS54.to HI0); (case side2 => exact below_to1 HB (IsS54.ge HI0.out)); rintro e w37 ⟨rfl, hi, hb, hk⟩; replace HK := Aside0.mk (KeepBut.trans (keep_to HK) hk (.inl rfl)); replace HB := Aside0.mk (hb); replace HI0 := Aside0.mk (hi); clear hb hk hi; have p13 : 0 ≤ (t390 : Int) := of_decide_eq_true (by first | (with_reducible assumption) | assumption); have q13 : t390 < (a2.size : Int) := of_decide_eq_true (by first | (with_reducible assumption) | assumption); have hx13 := bt_at a2 t390; replace p13 := eq_true p13; replace q13 := eq_true q13) | ((with_reducible refine gate_dst (N := 32) rfl ?_); (try (refine gate_guard (by rfl) ?_; dsimp only)); refine Kd.R_lit (Kd.int .u8) _ 5 ?hg (N := 32) ?hd (xs := ([bt a2 t390] : List Int)) (inner := [.int .u8 (bt a2 t390)]) (ok := fun _ => True) (okp := fun _ => True) ?hr ?hp (fun _ hk => hk) trivial (Below.refl _ _) (Nat.le_refl _) (by simp) ?_; (case hd => rfl); (case hg => rfl); (case hr => first | (go_simp; done) | (go_simp; rfl)); (case hp => exact (Reps.one (show Kd.M (Kd.int .u8) _ _ _ (bt a2 t390) [.int .u8 (bt a2 t390)] from rfl) (Reps.none _ _))); intro v394 w38 ho39 hb hg_ hnew_; clear hg_ hnew_; (first | rw [← Ny393.out] at ho39 | (simp only [Int.reduceToNat] at ho39; rw [← Ny393.out] at ho39)); have n0_ := Aside0.mk (Kd.R_lower ho39 (keep_size (w := w) (g := g) (row := none) (keep_to HK))); have n1_ := Aside0.mk (IsS54.below (IsS54.to HI0) hb); have n2_ := Aside0.mk (KeepBut.trans (keep_to HK) (KeepBut.of_below hb g none) (.inl rfl)); have n3_ := Aside0.mk (below_step (below_to1 HB (IsS54.ge HI0.out)) hb); clear HI0; clear HK; clear HB; have HO395 := n0_; have HI0 := n1_; have HK := n2_; have HB := n3_; clear n0_ n1_ n2_ n3_; clear hb ho39; have hcv40 := own_string (P := Tryz.prog) Tryz.underlying22 Tryz.underlying5 Tryz.underlying9 (Kd.own_of_R HO395.out)) | (go_at_call 55; (with_reducible refine (spec_l1Cur_pick.calls g s0_0 t391 t392 3 t396 t397 t398 w0 _ ?side1 ?side2 A14.out).mono ?_); (case side1 => exact IsS54.to HI0); (case side2 => exact below_to1 HB (IsS54.ge HI0.out)); rintro e w41 ⟨rfl, hi, hb, hk⟩; replace HO395 := Aside0.mk (Kd.R_mono (Kd.R_keep (IsS54.apart (IsS54.to HI0) (kd_to HO395) (by decide)) hk (fun _ h => h.2)) (fun _ h => h.1)); replace HK := Aside0.mk (KeepBut.trans (keep_to HK) hk (.inl rfl)); replace HB := Aside0.mk (hb); replace HI0 := Aside0.mk (hi); clear hb hk hi)); try go_wp2_with (first | (go_at_call 55; (with_reducible refine (spec_l1Cur_pick.calls g s0_0 x1001_1 x1002_1 (x1_1.size : Int) t387 t388 t389 w0 _ ?side1 ?side2 A9.out).mono ?_); (case side1 => exact IsS54.to HI0); (case side2 => exact below_to1 HB (IsS54.ge HI0.out)); rintro e w36 ⟨rfl, hi, hb, hk⟩; replace HK := Aside0.mk (KeepBut.trans (keep_to HK) hk (.inl rfl)); replace HB := Aside0.mk (hb); replace HI0 := Aside0.mk (hi); clear hb hk hi) | (go_at_call 55; (with_reducible refine (spec_l1Cur_pick.calls g s0_0 t388 t389 (a2.size : Int) t390 t391 t392 w0 _ ?side1 ?side2 A10.out).mono ?_); (case side1 => exact IsS54.to HI0); (case side2 => exact below_to1 HB (IsS54.ge HI0.out)); rintro e w37 ⟨rfl, hi, hb, hk⟩; replace HK := Aside0.mk (KeepBut.trans (keep_to HK) hk (.inl rfl)); replace HB := Aside0.mk (hb); replace HI0 := Aside0.mk (hi); clear hb hk hi; have p13 : 0 ≤ (t390 : Int) := of_decide_eq_true (by first | (with_reducible assumption) | assumption); have q13 : t390 < (a2.size : Int) := of_decide_eq_true (by first | (with_reducible assumption) | assumption); have hx13 := bt_at a2 t390; replace p13 := eq_true p13; replace q13 := eq_true q13) | ((with_reducible refine gate_dst (N := 32) rfl ?_); (try (refine gate_guard (by rfl) ?_; dsimp only)); refine Kd.R_lit (Kd.int .u8) _ 5 ?hg (N := 32) ?hd (xs := ([bt a2 t390] : List Int)) (inner := [.int .u8 (bt a2 t390)]) (ok := fun _ => True) (okp := fun _ => True) ?hr ?hp (fun _ hk => hk) trivial (Below.refl _ _) (Nat.le_refl _) (by simp) ?_; (case hd => rfl); (case hg => rfl); (case hr => first | (go_simp; done) | (go_simp; rfl)); (case hp => exact (Reps.one (show Kd.M (Kd.int .u8) _ _ _ (bt a2 t390) [.int .u8 (bt a2 t390)] from rfl) (Reps.none _ _))); intro v394 w38 ho39 hb hg_ hnew_; clear hg_ hnew_; (first | rw [← Ny393.out] at ho39 | (simp only [Int.reduceToNat] at ho39; rw [← Ny393.out] at ho39)); have n0_ := Aside0.mk (Kd.R_lower ho39 (keep_size (w := w) (g := g) (row := none) (keep_to HK))); have n1_ := Aside0.mk (IsS54.below (IsS54.to HI0) hb); have n2_ := Aside0.mk (KeepBut.trans (keep_to HK) (KeepBut.of_below hb g none) (.inl rfl)); have n3_ := Aside0.mk (below_step (below_to1 HB (IsS54.ge HI0.out)) hb); clear HI0; clear HK; clear HB; have HO395 := n0_; have HI0 := n1_; have HK := n2_; have HB := n3_; clear n0_ n1_ n2_ n3_; clear hb ho39; have hcv40 := own_string (P := Tryz.prog) Tryz.underlying22 Tryz.underlying5 Tryz.underlying9 (Kd.own_of_R HO395.out)) | (go_at_call 55; (with_reducible refine (spec_l1Cur_pick.calls g s0_0 t391 t392 3 t396 t397 t398 w0 _ ?side1 ?side2 A14.out).mono ?_); (case side1 => exact IsS54.to HI0); (case side2 => exact below_to1 HB (IsS54.ge HI0.out)); rintro e w41 ⟨rfl, hi, hb, hk⟩; replace HO395 := Aside0.mk (Kd.R_mono (Kd.R_keep (IsS54.apart (IsS54.to HI0) (kd_to HO395) (by decide)) hk (fun _ h => h.2)) (fun _ h => h.1)); replace HK := Aside0.mk (KeepBut.trans (keep_to HK) hk (.inl rfl)); replace HB := Aside0.mk (hb); replace HI0 := Aside0.mk (hi); clear hb hk hi)))
                go_roundg kj5
                case measure => have := HK1.out; have := HJ5.out; omega
                case rel => exact ⟨(((x1_1.extract 0 (t387 : Int).toNat) ++ (strOfNums y393)) ++ (x1_1.extract ((ji32) : Int).toNat x1_1.size)), (wrap64 (x7_1 - 1)), (t397), (t398), (by first | rfl | (simp; done) | (simp only [← hji32] <;> (first | rfl | simp)) | (simp [*]; done)), (by first | rfl | (simp; done) | (simp [*]; done)), H', ⟨by have := HK1.out; have := HJ5.out; omega⟩, ⟨by repeat (first | (with_reducible first | exact HI0.out | apply IsS54.alloc | apply IsS54.drewN | apply IsS54.drew | apply IsS54.set_1 | apply IsS54.set_2) | exact HI0.out)⟩, ⟨keep_to HK⟩, ⟨below_to1 HB (IsS54.ge HI0.out)⟩⟩
               ·rw [if_neg c35] at H
                exact absurd H (by simp)
              ·rw [if_neg c34] at H
               exact absurd H (by simp)
             ·rw [if_neg c33] at H
              exact absurd H (by simp)
            ·rw [if_neg c31] at H
             exact absurd H (by simp)
           ·rw [if_neg c30] at H
            exact absurd H (by simp)
          ·rw [if_neg c29] at H
           exact absurd H (by simp)
         ·rw [if_neg c28] at H
          have c28b0 : (t396 == 1) = false := beq_eq_false_iff_ne.mpr c28
          have c28b1 : (t396 != 1) = true := bne_iff_ne.mpr c28
          by_cases c42 : 0 ≤ t387
          ·rw [if_pos c42] at H
           have c42b0 := eq_true c42
           have c42b1 : decide (0 ≤ t387) = true := decide_eq_true c42
           clear c42
           by_cases c43 : t387 ≤ (x1_1.size : Int)
           ·rw [if_pos c43] at H
            have c43b0 := eq_true c43
            have c43b1 : decide (t387 ≤ (x1_1.size : Int)) = true := decide_eq_true c43
            clear c43
            obtain ⟨ji44, hji44⟩ : ∃ j_ : Int, (wrap64 (t387 + 1)) = j_ := ⟨_, rfl⟩
            replace H : (if 0 ≤ (ji44) then (if (ji44) ≤ (x1_1.size : Int) then (if (x1_1.extract 0 (t387 : Int).toNat).size + (x1_1.extract ((ji44) : Int).toNat x1_1.size).size ≤ 9223372036854775807 then (spec_l1Cur_spoilt.l0 kj5 ((x1_1.extract 0 (t387 : Int).toNat) ++ (x1_1.extract ((ji44) : Int).toNat x1_1.size)) a2 (wrap64 (x7_1 - 1)) s0_0 t397 t398) else (none)) else (none)) else (none)) = some (r1, r2, r3) := by first | (rw [hji44] at H; exact H) | (simp only [hji44] at H ⊢; exact H)
            (try rw [hji44] at A9)
            (try rw [hji44] at A10)
            (try rw [hji44] at A14)
            have hji44w : (IntKind.i64.wrap (t387 + 1)) = ji44 := (i64_w _).trans hji44
            by_cases c45 : 0 ≤ (ji44)
            ·rw [if_pos c45] at H
             have c45b0 := eq_true c45
             have c45b1 : decide (0 ≤ (ji44)) = true := decide_eq_true c45
             clear c45
             by_cases c46 : (ji44) ≤ (x1_1.size : Int)
             ·rw [if_pos c46] at H
              have c46b0 := eq_true c46
              have c46b1 : decide ((ji44) ≤ (x1_1.size : Int)) = true := decide_eq_true c46
              clear c46
              by_cases c47 : (x1_1.extract 0 (t387 : Int).toNat).size + (x1_1.extract ((ji44) : Int).toNat x1_1.size).size ≤ 9223372036854775807
              ·rw [if_pos c47] at H
               have c47b0 := eq_true c47
               have c47b1 : decide ((x1_1.extract 0 (t387 : Int).toNat).size + (x1_1.extract ((ji44) : Int).toNat x1_1.size).size ≤ 9223372036854775807) = true := decide_eq_true c47
               try have c47b2 : (9223372036854775807 < (x1_1.extract 0 (t387 : Int).toNat).size + (x1_1.extract ((ji44) : Int).toNat x1_1.size).size) = False := eq_false (Nat.not_lt.2 c47)
               have H' := Aside0.mk H
               clear H
               go_wp2_with (first | (go_at_call 55; (with_reducible refine (spec_l1Cur_pick.calls g s0_0 x1001_1 x1002_1 (x1_1.size : Int) t387 t388 t389 w0 _ ?side1 ?side2 A9.out).mono ?_); (case side1 => exact IsS54.to HI0); (case side2 => exact below_to1 HB (IsS54.ge HI0.out)); rintro e w48 ⟨rfl, hi, hb, hk⟩; replace HK := Aside0.mk (KeepBut.trans (keep_to HK) hk (.inl rfl)); replace HB := Aside0.mk (hb); replace HI0 := Aside0.mk (hi); clear hb hk hi) | (go_at_call 55; (with_reducible refine (spec_l1Cur_pick.calls g s0_0 t388 t389 (a2.size : Int) t390 t391 t392 w0 _ ?side1 ?side2 A10.out).mono ?_); (case side1 => exact IsS54.to HI0); (case side2 => exact below_to1 HB (IsS54.ge HI0.out)); rintro e w49 ⟨rfl, hi, hb, hk⟩; replace HK := Aside0.mk (KeepBut.trans (keep_to HK) hk (.inl rfl)); replace HB := Aside0.mk (hb); replace HI0 := Aside0.mk (hi); clear hb hk hi; have p13 : 0 ≤ (t390 : Int) := of_decide_eq_true (by first | (with_reducible assumption) | assumption); have q13 : t390 < (a2.size : Int) := of_decide_eq_true (by first | (with_reducible assumption) | assumption); have hx13 := bt_at a2 t390; replace p13 := eq_true p13; replace q13 := eq_true q13) | ((with_reducible refine gate_dst (N := 32) rfl ?_); (try (refine gate_guard (by rfl) ?_; dsimp only)); refine Kd.R_lit (Kd.int .u8) _ 5 ?hg (N := 32) ?hd (xs := ([bt a2 t390] : List Int)) (inner := [.int .u8 (bt a2 t390)]) (ok := fun _ => True) (okp := fun _ => True) ?hr ?hp (fun _ hk => hk) trivial (Below.refl _ _) (Nat.le_refl _) (by simp) ?_; (case hd => rfl); (case hg => rfl); (case hr => first | (go_simp; done) | (go_simp; rfl)); (case hp => exact (Reps.one (show Kd.M (Kd.int .u8) _ _ _ (bt a2 t390) [.int .u8 (bt a2 t390)] from rfl) (Reps.none _ _))); intro v394 w50 ho51 hb hg_ hnew_; clear hg_ hnew_; (first | rw [← Ny393.out] at ho51 | (simp only [Int.reduceToNat] at ho51; rw [← Ny393.out] at ho51)); have n0_ := Aside0.mk (Kd.R_lower ho51 (keep_size (w := w) (g := g) (row := none) (keep_to HK))); have n1_ := Aside0.mk (IsS54.below (IsS54.to HI0) hb); have n2_ := Aside0.mk (KeepBut.trans (keep_to HK) (KeepBut.of_below hb g none) (.inl rfl)); have n3_ := Aside0.mk (below_step (below_to1 HB (IsS54.ge HI0.out)) hb); clear HI0; clear HK; clear HB; have HO395 := n0_; have HI0 := n1_; have HK := n2_; have HB := n3_; clear n0_ n1_ n2_ n3_; clear hb ho51; have hcv52 := own_string (P := Tryz.prog) Tryz.underlying22 Tryz.underlying5 Tryz.underlying9 (Kd.own_of_R HO395.out)) | (go_at_call 55; (with_reducible refine (spec_l1Cur_pick.calls g s0_0 t391 t392 3 t396 t397 t398 w0 _ ?side1 ?side2 A14.out).mono ?_); (case side1 => exact IsS54.to HI0); (case side2 => exact below_to1 HB (IsS54.ge HI0.out)); rintro e w53 ⟨rfl, hi, hb, hk⟩; replace HO395 := Aside0.mk (Kd.R_mono (Kd.R_keep (IsS54.apart (IsS54.to HI0) (kd_to HO395) (by decide)) hk (fun _ h => h.2)) (fun _ h => h.1)); replace HK := Aside0.mk (KeepBut.trans (keep_to HK) hk (.inl rfl)); replace HB := Aside0.mk (hb); replace HI0 := Aside0.mk (hi); clear hb hk hi))
               repeat (go_quiet (first | (go_at_call 55; (with_reducible refine (spec_l1Cur_pick.calls g s0_0 x1001_1 x1002_1 (x1_1.size : Int) t387 t388 t389 w0 _ ?side1 ?side2 A9.out).mono ?_); (case side1 => exact IsS54.to HI0); (case side2 => exact below_to1 HB (IsS54.ge HI0.out)); rintro e w48 ⟨rfl, hi, hb, hk⟩; replace HK := Aside0.mk (KeepBut.trans (keep_to HK) hk (.inl rfl)); replace HB := Aside0.mk (hb); replace HI0 := Aside0.mk (hi); clear hb hk hi) | (go_at_call 55; (with_reducible refine (spec_l1Cur_pick.calls g s0_0 t388 t389 (a2.size : Int) t390 t391 t392 w0 _ ?side1 ?side2 A10.out).mono ?_); (case side1 => exact IsS54.to HI0); (case side2 => exact below_to1 HB (IsS54.ge HI0.out)); rintro e w49 ⟨rfl, hi, hb, hk⟩; replace HK := Aside0.mk (KeepBut.trans (keep_to HK) hk (.inl rfl)); replace HB := Aside0.mk (hb); replace HI0 := Aside0.mk (hi); clear hb hk hi; have p13 : 0 ≤ (t390 : Int) := of_decide_eq_true (by first | (with_reducible assumption) | assumption); have q13 : t390 < (a2.size : Int) := of_decide_eq_true (by first | (with_reducible assumption) | assumption); have hx13 := bt_at a2 t390; replace p13 := eq_true p13; replace q13 := eq_true q13) | ((with_reducible refine gate_dst (N := 32) rfl ?_); (try (refine gate_guard (by rfl) ?_; dsimp only)); refine Kd.R_lit (Kd.int .u8) _ 5 ?hg (N := 32) ?hd (xs := ([bt a2 t390] : List Int)) (inner := [.int .u8 (bt a2 t390)]) (ok := fun _ => True) (okp := fun _ => True) ?hr ?hp (fun _ hk => hk) trivial (Below.refl _ _) (Nat.le_refl _) (by simp) ?_; (case hd => rfl); (case hg => rfl); (case hr => first | (go_simp; done) | (go_simp; rfl)); (case hp => exact (Reps.one (show Kd.M (Kd.int .u8) _ _ _ (bt a2 t390) [.int .u8 (bt a2 t390)] from rfl) (Reps.none _ _))); intro v394 w50 ho51 hb hg_ hnew_; clear hg_ hnew_; (first | rw [← Ny393.out] at ho51 | (simp only [Int.reduceToNat] at ho51; rw [← Ny393.out] at ho51)); have n0_ := Aside0.mk (Kd.R_lower ho51 (keep_size (w := w) (g := g) (row := none) (keep_to HK))); have n1_ := Aside0.mk (IsS54.below (IsS54.to HI0) hb); have n2_ := Aside0.mk (KeepBut.trans (keep_to HK) (KeepBut.of_below hb g none) (.inl rfl)); have n3_ := Aside0.mk (below_step (below_to1 HB (IsS54.ge HI0.out)) hb); clear HI0; clear HK; clear HB; have HO395 := n0_; have HI0 := n1_; have HK := n2_; have HB := n3_; clear n0_ n1_ n2_ n3_; clear hb ho51; have hcv52 := own_string (P := Tryz.prog) Tryz.underlying22 Tryz.underlying5 Tryz.underlying9 (Kd.own_of_R HO395.out)) | (go_at_call 55; (with_reducible refine (spec_l1Cur_pick.calls g s0_0 t391 t392 3 t396 t397 t398 w0 _ ?side1 ?side2 A14.out).mono ?_); (case side1 => exact IsS54.to HI0); (case side2 => exact below_to1 HB (IsS54.ge HI0.out)); rintro e w53 ⟨rfl, hi, hb, hk⟩; replace HO395 := Aside0.mk (Kd.R_mono (Kd.R_keep (IsS54.apart (IsS54.to HI0) (kd_to HO395) (by decide)) hk (fun _ h => h.2)) (fun _ h => h.1)); replace HK := Aside0.mk (KeepBut.trans (keep_to HK) hk (.inl rfl)); replace HB := Aside0.mk (hb); replace HI0 := Aside0.mk (hi); clear hb hk hi)); try go_wp2_with (first | (go_at_call 55; (with_reducible refine (spec_l1Cur_pick.calls g s0_0 x1001_1 x1002_1 (x1_1.size : Int) t387 t388 t389 w0 _ ?side1 ?side2 A9.out).mono ?_); (case side1 => exact IsS54.to HI0); (case side2 => exact below_to1 HB (IsS54.ge HI0.out)); rintro e w48 ⟨rfl, hi, hb, hk⟩; replace HK := Aside0.mk (KeepBut.trans (keep_to HK) hk (.inl rfl)); replace HB := Aside0.mk (hb); replace HI0 := Aside0.mk (hi); clear hb hk hi) | (go_at_call 55; (with_reducible refine (spec_l1Cur_pick.calls g s0_0 t388 t389 (a2.size : Int) t390 t391 t392 w0 _ ?side1 ?side2 A10.out).mono ?_); (case side1 => exact IsS54.to HI0); (case side2 => exact below_to1 HB (IsS54.ge HI0.out)); rintro e w49 ⟨rfl, hi, hb, hk⟩; replace HK := Aside0.mk (KeepBut.trans (keep_to HK) hk (.inl rfl)); replace HB := Aside0.mk (hb); replace HI0 := Aside0.mk (hi); clear hb hk hi; have p13 : 0 ≤ (t390 : Int) := of_decide_eq_true (by first | (with_reducible assumption) | assumption); have q13 : t390 < (a2.size : Int) := of_decide_eq_true (by first | (with_reducible assumption) | assumption); have hx13 := bt_at a2 t390; replace p13 := eq_true p13; replace q13 := eq_true q13) | ((with_reducible refine gate_dst (N := 32) rfl ?_); (try (refine gate_guard (by rfl) ?_; dsimp only)); refine Kd.R_lit (Kd.int .u8) _ 5 ?hg (N := 32) ?hd (xs := ([bt a2 t390] : List Int)) (inner := [.int .u8 (bt a2 t390)]) (ok := fun _ => True) (okp := fun _ => True) ?hr ?hp (fun _ hk => hk) trivial (Below.refl _ _) (Nat.le_refl _) (by simp) ?_; (case hd => rfl); (case hg => rfl); (case hr => first | (go_simp; done) | (go_simp; rfl)); (case hp => exact (Reps.one (show Kd.M (Kd.int .u8) _ _ _ (bt a2 t390) [.int .u8 (bt a2 t390)] from rfl) (Reps.none _ _))); intro v394 w50 ho51 hb hg_ hnew_; clear hg_ hnew_; (first | rw [← Ny393.out] at ho51 | (simp only [Int.reduceToNat] at ho51; rw [← Ny393.out] at ho51)); have n0_ := Aside0.mk (Kd.R_lower ho51 (keep_size (w := w) (g := g) (row := none) (keep_to HK))); have n1_ := Aside0.mk (IsS54.below (IsS54.to HI0) hb); have n2_ := Aside0.mk (KeepBut.trans (keep_to HK) (KeepBut.of_below hb g none) (.inl rfl)); have n3_ := Aside0.mk (below_step (below_to1 HB (IsS54.ge HI0.out)) hb); clear HI0; clear HK; clear HB; have HO395 := n0_; have HI0 := n1_; have HK := n2_; have HB := n3_; clear n0_ n1_ n2_ n3_; clear hb ho51; have hcv52 := own_string (P := Tryz.prog) Tryz.underlying22 Tryz.underlying5 Tryz.underlying9 (Kd.own_of_R HO395.out)) | (go_at_call 55; (with_reducible refine (spec_l1Cur_pick.calls g s0_0 t391 t392 3 t396 t397 t398 w0 _ ?side1 ?side2 A14.out).mono ?_); (case side1 => exact IsS54.to HI0); (case side2 => exact below_to1 HB (IsS54.ge HI0.out)); rintro e w53 ⟨rfl, hi, hb, hk⟩; replace HO395 := Aside0.mk (Kd.R_mono (Kd.R_keep (IsS54.apart (IsS54.to HI0) (kd_to HO395) (by decide)) hk (fun _ h => h.2)) (fun _ h => h.1)); replace HK := Aside0.mk (KeepBut.trans (keep_to HK) hk (.inl rfl)); replace HB := Aside0.mk (hb); replace HI0 := Aside0.mk (hi); clear hb hk hi)))
               go_roundg kj5
               case measure => have := HK1.out; have := HJ5.out; omega
               case rel => exact ⟨((x1_1.extract 0 (t387 : Int).toNat) ++ (x1_1.extract ((ji44) : Int).toNat x1_1.size)), (wrap64 (x7_1 - 1)), (t397), (t398), (by first | rfl | (simp; done) | (simp only [← hji44] <;> (first | rfl | simp)) | (simp [*]; done)), (by first | rfl | (simp; done) | (simp [*]; done)), H', ⟨by have := HK1.out; have := HJ5.out; omega⟩, ⟨by repeat (first | (with_reducible first | exact HI0.out | apply IsS54.alloc | apply IsS54.drewN | apply IsS54.drew | apply IsS54.set_1 | apply IsS54.set_2) | exact HI0.out)⟩, ⟨keep_to HK⟩, ⟨below_to1 HB (IsS54.ge HI0.out)⟩⟩
              ·rw [if_neg c47] at H
               exact absurd H (by simp)
             ·rw [if_neg c46] at H
              exact absurd H (by simp)
            ·rw [if_neg c45] at H
             exact absurd H (by simp)
           ·rw [if_neg c43] at H
            exact absurd H (by simp)
          ·rw [if_neg c42] at H
           exact absurd H (by simp)
       ·rw [if_neg c12] at H
        exact absurd H (by simp)
      ·rw [if_neg c11] at H
       exact absurd H (by simp)
     ·replace c8 := Bool.eq_false_iff.mpr c8
      subst c8
      have H1 : (some (x1_1, x1001_1, x1002_1)) = some (r1, r2, r3) := by rw [if_neg (show ¬ (false = true) by decide)] at H; exact H
      clear H
      have H := H1
      clear H1
      simp only [Option.some.injEq, Prod.mk.injEq] at H
      obtain ⟨rfl, rfl, rfl⟩ := H
      go_wp2
      repeat (go_quiet (fail); try go_wp2)
      go_ret
      exact ⟨by first | rfl | (simp [errW_none, errW_some] <;> rfl) | (simp [*, errW_none, errW_some] <;> rfl), by repeat (first | (with_reducible first | exact HI0.out | apply IsS54.alloc | apply IsS54.drewN | apply IsS54.drew | apply IsS54.set_1 | apply IsS54.set_2) | exact HI0.out), by repeat (first | (with_reducible first | exact HB.out | apply below_alloc | apply pw_below_drewN | apply below_drew1 | refine below_set ?_ (IsS54.ge HI0.out)) | exact HB.out), by repeat (first | (with_reducible first | exact HK.out | apply KeepBut.set_ | apply keep_drewN | apply keep_drew | apply keep_alloc) | exact HK.out)⟩

end Go.Proofs.YtnbmplhcbliclaaGreatDoor.QT
