-- WRITTEN BY a program of this session (wip/xprint.py, over the kit's print): Lean checks it.
import Derived.Test.YtoehcikfjipcaaaQKx0
import Derived.Test.YtoehcikfjipcaaaQKx1
import Derived.Test.YtoehcikfjipcaaaQKx2
import Derived.Test.YtoehcikfjipcaaaQKx5
import Derived.Test.YtoehcikfjipcaaaQKx6
import Derived.Test.YtoehcikfjipcaaaXWalk
namespace Go.Proofs.Ytoehcikfjipcaaa.QK
open Go.Proofs.Ytoehcikfjipcaaa.X Go.RowKit Go.Proofs.YtoehcikfjipcaaaW.PrintWords Go.Proofs.YtoehcikfjipcaaaW.PrintLast Go.Proofs.YtoehcikfjipcaaaW.PrintMore
attribute [local go_sem] max2_int min2_int max_two min_two max_three min_three max_four min_four   -- for this text's walks alone
set_option linter.unusedVariables false
set_option linter.unusedSimpArgs false

/-! ### impl_timesOfLines: function 50 -/
mutual
def impl_timesOfLines.l0 : Nat → List Int → List Int → List (S30) → Int → Int → Option (List Int)
  | 0, _, _, _, _, _ => none
  | k + 1, x1, x5, x9, x10, x11 => if x11 < x10 then (if 0 ≤ x11 then (if x11 < (x9.length : Int) then (impl_timesOfLines.l1 k x1 x5 x11 x9 x10 x11 ((rd_T30 x9 x11).f2) 0 ((rd_T30 x9 x11).f0) ((rd_T30 x9 x11).f1) ((rd_T30 x9 x11).f2) ((rd_T30 x9 x11).f3)) else (none)) else (none)) else ((slices_Sort_int_int.f x5).bind fun t238 => ((slices_Compact_int_int.f t238).bind fun t239 => (some t239)))
def impl_timesOfLines.l1 : Nat → List Int → List Int → Int → List (S30) → Int → Int → Int → Int → Int → Int → Int → List Int → Option (List Int)
  | 0, _, _, _, _, _, _, _, _, _, _, _, _ => none
  | k + 1, x1, x5, x6, x9, x10, x11, x17, x18, x244000, x244001, x244002, x244003 => if x18 < x17 then (if 0 ≤ x6 then (if x6 < (x1.length : Int) then ((impl_timeAt.f x244000 x244001 x244002 x244003 x18 (rd x1 x6)).bind fun t245 => (if x5.length < 17592186044416 then (impl_timesOfLines.l1 k x1 (x5 ++ [t245]) x6 x9 x10 x11 x17 (wrap64 (x18 + 1)) x244000 x244001 x244002 x244003) else (none))) else (none)) else (none)) else (impl_timesOfLines.l0 k x1 x5 x9 x10 (wrap64 (x11 + 1)))
end
def impl_timesOfLines.f (k : Nat) (l0 : List (S30)) (l1 : List Int) : Option (List Int) := impl_timesOfLines.l0 k l1 ([] : List Int) l0 (l0.length : Int) 0
theorem impl_timesOfLines.mono_l : ∀ k, (∀ y0 y1 y2 y3 y4, LeO (impl_timesOfLines.l0 k y0 y1 y2 y3 y4) (impl_timesOfLines.l0 (k + 1) y0 y1 y2 y3 y4)) ∧ (∀ y0 y1 y2 y3 y4 y5 y6 y7 y8 y9 y10 y11, LeO (impl_timesOfLines.l1 k y0 y1 y2 y3 y4 y5 y6 y7 y8 y9 y10 y11) (impl_timesOfLines.l1 (k + 1) y0 y1 y2 y3 y4 y5 y6 y7 y8 y9 y10 y11))
  | 0 => ⟨fun _ _ _ _ _ r h => by simp [impl_timesOfLines.l0] at h, fun _ _ _ _ _ _ _ _ _ _ _ _ r h => by simp [impl_timesOfLines.l1] at h⟩
  | k + 1 => by
    obtain ⟨ih0, ih1⟩ := impl_timesOfLines.mono_l k
    refine ⟨?_, ?_⟩
    · intro y0 y1 y2 y3 y4
      unfold impl_timesOfLines.l0
      repeat' first
      | (with_reducible exact ih0 _ _ _ _ _)
      | (with_reducible exact ih1 _ _ _ _ _ _ _ _ _ _ _ _)
      | (with_reducible exact LeO.refl _)
      | (with_reducible exact LeO.none _)
      | (with_reducible refine LeO.ite ?_ ?_)
      | (with_reducible refine LeO.bind ?_ (fun _ => ?_))
      | exact ih0 _ _ _ _ _
      | exact ih1 _ _ _ _ _ _ _ _ _ _ _ _
      | exact LeO.none _
      | refine LeO.ite ?_ ?_
      | refine LeO.bind ?_ (fun _ => ?_)
    · intro y0 y1 y2 y3 y4 y5 y6 y7 y8 y9 y10 y11
      unfold impl_timesOfLines.l1
      repeat' first
      | (with_reducible exact ih0 _ _ _ _ _)
      | (with_reducible exact ih1 _ _ _ _ _ _ _ _ _ _ _ _)
      | (with_reducible exact LeO.refl _)
      | (with_reducible exact LeO.none _)
      | (with_reducible refine LeO.ite ?_ ?_)
      | (with_reducible refine LeO.bind ?_ (fun _ => ?_))
      | exact ih0 _ _ _ _ _
      | exact ih1 _ _ _ _ _ _ _ _ _ _ _ _
      | exact LeO.none _
      | refine LeO.ite ?_ ?_
      | refine LeO.bind ?_ (fun _ => ?_)
theorem impl_timesOfLines.mono : ∀ a0 a1 k, LeO (impl_timesOfLines.f k a0 a1) (impl_timesOfLines.f (k + 1) a0 a1) := by
  intro a0 a1 k
  obtain ⟨ih0, ih1⟩ := impl_timesOfLines.mono_l k
  unfold impl_timesOfLines.f
  repeat' first
      | (with_reducible exact ih0 _ _ _ _ _)
      | (with_reducible exact ih1 _ _ _ _ _ _ _ _ _ _ _ _)
      | (with_reducible exact LeO.refl _)
      | (with_reducible exact LeO.none _)
      | (with_reducible refine LeO.ite ?_ ?_)
      | (with_reducible refine LeO.bind ?_ (fun _ => ?_))
      | exact ih0 _ _ _ _ _
      | exact ih1 _ _ _ _ _ _ _ _ _ _ _ _
      | exact LeO.none _
      | refine LeO.ite ?_ ?_
      | refine LeO.bind ?_ (fun _ => ?_)
def impl_timesOfLines.T8 : Bool × List (List Nat × List Nat) := (true, [([], []), ([], []), ([], []), ([], []), ([], []), ([3, 4], [3, 4]), ([5], [5]), ([1, 2, 6], [1, 2, 6]), ([7], [7]), ([0, 8, 7], [0, 8]), ([9, 9, 0, 1, 2, 3, 4, 5, 6, 7, 8, 9], [0, 9])])
def impl_timesOfLines.B8 : List Nat := [0, 0, 0, 0, 0, 24, 56, 126, 254, 511, 1023]
theorem impl_timesOfLines.tab8 : rtab .any (opsOf Try.f50 8) = impl_timesOfLines.T8 := by kernel_rfl
theorem impl_timesOfLines.bits8 : waitsOk impl_timesOfLines.T8.2 impl_timesOfLines.B8 = true := by kernel_rfl
set_option maxHeartbeats 8000000 in
set_option maxRecDepth 100000 in
theorem impl_timesOfLines.calls (k : Nat) (A0 : Option Addr) (c0 : Nat) (l0 : List (S30)) (A1 : Option Addr) (c1 : Nat) (l1 : List Int) (r : List Int) (w : World) (hr0 : Kd.C k30 w A0 l0.length l0) (hc0 : l0.length ≤ c0) (hr1 : Kd.C (Kd.int .i64) w A1 l1.length l1) (hc1 : l1.length ≤ c1) (h : impl_timesOfLines.f k l0 l1 = some r) :
    Calls Try.prog 50 #[.slice A0 l0.length c0, .slice A1 l1.length c1] w fun e w' => ∃ v0_ : Value, e = .returned (v0_) ∧ Kd.R (Kd.int .i64) 3 w' w.heap.size (fun _ => True) v0_ r ∧ Below w.heap.size w w' := by
  have hu30 := Try.underlying30
  have HR0 := Aside0.mk hr0
  have HC0 := Aside0.mk hc0
  clear hr0 hc0
  have HR1 := Aside0.mk hr1
  have HC1 := Aside0.mk hc1
  clear hr1 hc1
  have HB := Aside0.mk (Below.refl w.heap.size w)
  have H : (impl_timesOfLines.l0 k l1 ([] : List Int) l0 (l0.length : Int) 0) = some r := h
  clear h
  have H' := Aside0.mk H
  clear H
  go_enter Try.func50, Try.ntmps50
  go_wp2
  go_loopg [5, 11] k (fun kq v5 v11 w' => ∃ (x5_1 : List Int) (x11_1 : Int), v11 = .int .i64 x11_1 ∧ Aside0 (impl_timesOfLines.l0 kq l1 x5_1 l0 (l0.length : Int) x11_1 = some r) ∧ Aside0 (kq ≤ k) ∧ Aside0 (Kd.R (Kd.int .i64) 3 w' w.heap.size (fun _ => True) v5 x5_1) ∧ Aside0 (Below w.heap.size w w'))
  case atStart => exact ⟨(([] : List Int)), (0), (by first | rfl | (simp; done) | (simp [*]; done)), H', ⟨Nat.le_refl _⟩, ⟨by first | exact Kd.R_nil _ _ _ _ _ | exact Kd.N_nil _ _ _ _ _ | exact Kd.V_nil _ _ _ _ _ | exact Kd.Q_nil _ _ _ _ _ | exact Kd.S_nil _ _ _ _ _⟩, ⟨by repeat (first | (with_reducible first | exact HB.out | apply below_alloc | apply pw_below_drewN | apply below_drew1) | exact HB.out)⟩⟩
  case round =>
    clear H'
    try clear c1
    try clear p2
    obtain ⟨x5_1, x11_1, rfl, HA, HK1, HO_5, HB⟩ := hrel
    cases gk with
    | zero => exact absurd HA.out (by simp [impl_timesOfLines.l0])
    | succ k1 =>
      have H := HA.out
      clear HA
      simp only [impl_timesOfLines.l0] at H
      by_cases c3 : x11_1 < (l0.length : Int)
      · rw [if_pos c3] at H
        have c3b0 : decide (x11_1 < (l0.length : Int)) = true := decide_eq_true c3
        clear c3
        by_cases c4 : 0 ≤ x11_1
        · rw [if_pos c4] at H
          have c4b0 : decide (0 ≤ x11_1) = true := decide_eq_true c4
          clear c4
          by_cases c5 : x11_1 < (l0.length : Int)
          · rw [if_pos c5] at H
            have c5b0 : decide (x11_1 < (l0.length : Int)) = true := decide_eq_true c5
            clear c5
            have H' := Aside0.mk H
            clear H
            have p242 : 0 ≤ (x11_1 : Int) := of_decide_eq_true (by first | (with_reducible assumption) | assumption)
            have q242 : x11_1 < (l0.length : Int) := of_decide_eq_true (by first | (with_reducible assumption) | assumption)
            obtain ⟨ad242, A242_3, c242_3, e242, hx242_0, hx242_1, hx242_2, hx242_3, hl242_3, hi242_3⟩ := at_T30 HR0.out x11_1 p242 q242
            cases e242
            replace hx242_0 := (HB.out.cell (World.block_lt_of_cell? w _ hx242_0)).trans hx242_0
            replace hx242_1 := (HB.out.cell (World.block_lt_of_cell? w _ hx242_1)).trans hx242_1
            replace hx242_2 := (HB.out.cell (World.block_lt_of_cell? w _ hx242_2)).trans hx242_2
            replace hx242_3 := (HB.out.cell (World.block_lt_of_cell? w _ hx242_3)).trans hx242_3
            have HR242_3 := Aside0.mk hi242_3
            have HC242_3 := Aside0.mk hl242_3
            clear hi242_3 hl242_3
            replace p242 := eq_true p242
            replace q242 := eq_true q242
            go_wp2_with (first | ((with_reducible refine gate_dst (N := 7) rfl ?_); refine box_event ?hg (N := 7) ?hd (cs := #[.int .i64 0, .int .i64 0, .int .i64 0, .slice none 0 0]) (t := 30) ?hr ?_; (case hd => rfl); (case hg => rfl); (case hr => first | (go_simp; done) | (go_simp; rfl)); intro gb243 hg w6 hbox hb; have n0_ := Aside0.mk (Kd.R_below (by (with_reducible repeat (first | apply Kd.R_alloc | apply Kd.R_drewN | apply Kd.R_drew)); exact HO_5.out) hb); have n1_ := Aside0.mk (below_step (by repeat (first | (with_reducible first | exact HB.out | apply below_alloc | apply pw_below_drewN | apply below_drew1) | exact HB.out)) hb); have n2_ := Aside0.mk (hbox); have n3_ := Aside0.mk ((by rw [hg]; exact (below_size (by repeat (first | (with_reducible first | exact HB.out | apply below_alloc | apply pw_below_drewN | apply below_drew1) | exact HB.out))) : w.heap.size ≤ gb243)); have n4_ := Aside0.mk ((by rw [hg]; exact (below_size (by repeat (first | (with_reducible first | exact HB.out | apply below_alloc | apply pw_below_drewN | apply below_drew1) | exact HB.out))) : w.heap.size ≤ gb243)); clear HO_5; clear HB; have HO_5 := n0_; have HB := n1_; have BK243 := n2_; have GW243 := n3_; have GE243 := n4_; clear n0_ n1_ n2_ n3_ n4_; clear hb hbox hg; have hcz7_0 : w6.cell? ⟨gb243, 0, none⟩ = some (.int .i64 0) := (blk_cell BK243.out 0).trans rfl; have hcz7_1 : w6.cell? ⟨gb243, 1, none⟩ = some (.int .i64 0) := (blk_cell BK243.out 1).trans rfl; have hcz7_2 : w6.cell? ⟨gb243, 2, none⟩ = some (.int .i64 0) := (blk_cell BK243.out 2).trans rfl; have hcz7_3 : w6.cell? ⟨gb243, 3, none⟩ = some (.slice none 0 0) := (blk_cell BK243.out 3).trans rfl; have hfz7_0 := blk_frozen BK243.out 0; have hfz7_1 := blk_frozen BK243.out 1; have hfz7_2 := blk_frozen BK243.out 2; have hfz7_3 := blk_frozen BK243.out 3))
            go_loopg [5, 18] k1 (fun kq v5 v18 w' => ∃ (x5_2 : List Int) (x18_2 : Int), v18 = .int .i64 x18_2 ∧ Aside0 (impl_timesOfLines.l1 kq l1 x5_2 x11_1 l0 (l0.length : Int) x11_1 ((rd_T30 l0 x11_1).f2) x18_2 ((rd_T30 l0 x11_1).f0) ((rd_T30 l0 x11_1).f1) ((rd_T30 l0 x11_1).f2) ((rd_T30 l0 x11_1).f3) = some r) ∧ Aside0 (kq ≤ k1) ∧ Aside0 (Kd.R (Kd.int .i64) 3 w' w.heap.size (fun _ => True) v5 x5_2) ∧ Aside0 (w'.heap[gb243]? = some (.cells #[.int .i64 ((rd_T30 l0 x11_1).f0), .int .i64 ((rd_T30 l0 x11_1).f1), .int .i64 ((rd_T30 l0 x11_1).f2), (.slice A242_3 ((rd_T30 l0 x11_1).f3).length c242_3)] 30 (0, 0))) ∧ Aside0 (Below w.heap.size w w'))
            case atStart => exact ⟨(x5_1), (0), (by first | rfl | (simp; done) | (simp [*]; done)), H', ⟨Nat.le_refl _⟩, ⟨by (with_reducible repeat (first | apply Kd.R_alloc | apply Kd.R_drewN | apply Kd.R_drew)); exact Kd.R_mono (Kd.R_far (p := ⟨gb243, 3, none⟩) (Kd.R_far (p := ⟨gb243, 2, none⟩) (Kd.R_far (p := ⟨gb243, 1, none⟩) (Kd.R_far (p := ⟨gb243, 0, none⟩) (Kd.R_types HO_5.out BK243.out (by decide)) (fun _ hk => hk.2) (.int .i64 ((rd_T30 l0 x11_1).f0))) (fun _ hk => hk.2) (.int .i64 ((rd_T30 l0 x11_1).f1))) (fun _ hk => hk.2) (.int .i64 ((rd_T30 l0 x11_1).f2))) (fun _ hk => hk.2) (.slice A242_3 ((rd_T30 l0 x11_1).f3).length c242_3)) (fun _ hk => trivial)⟩, ⟨by (with_reducible repeat (first | refine blk_drewN ?_ _ | refine blk_drew ?_ | refine blk_alloc ?_ _)); refine blk_put (cs := #[.int .i64 ((rd_T30 l0 x11_1).f0), .int .i64 ((rd_T30 l0 x11_1).f1), .int .i64 ((rd_T30 l0 x11_1).f2), .slice none 0 0]) ?_ 3 _ rfl; (with_reducible repeat (first | refine blk_drewN ?_ _ | refine blk_drew ?_ | refine blk_alloc ?_ _)); refine blk_put (cs := #[.int .i64 ((rd_T30 l0 x11_1).f0), .int .i64 ((rd_T30 l0 x11_1).f1), .int .i64 0, .slice none 0 0]) ?_ 2 _ rfl; (with_reducible repeat (first | refine blk_drewN ?_ _ | refine blk_drew ?_ | refine blk_alloc ?_ _)); refine blk_put (cs := #[.int .i64 ((rd_T30 l0 x11_1).f0), .int .i64 0, .int .i64 0, .slice none 0 0]) ?_ 1 _ rfl; (with_reducible repeat (first | refine blk_drewN ?_ _ | refine blk_drew ?_ | refine blk_alloc ?_ _)); refine blk_put (cs := #[.int .i64 0, .int .i64 0, .int .i64 0, .slice none 0 0]) ?_ 0 _ rfl; (with_reducible repeat (first | refine blk_drewN ?_ _ | refine blk_drew ?_ | refine blk_alloc ?_ _)); exact BK243.out⟩, ⟨by repeat (first | (with_reducible first | exact HB.out | apply below_alloc | apply pw_below_drewN | apply below_drew1 | refine below_set ?_ GE243.out) | exact HB.out)⟩⟩
            case round =>
              clear H'
              try clear c1
              try clear c2
              try clear p2
              try clear q2
              try clear hx2
              try clear c3
              try clear c3b0
              try clear c4
              try clear c4b0
              try clear c5
              try clear c5b0
              try clear hcz7_0
              try clear hcz7_1
              try clear hcz7_2
              try clear hcz7_3
              try clear hfz7_0
              try clear hfz7_1
              try clear hfz7_2
              try clear hfz7_3
              try clear hx242_0
              try clear hx242_1
              try clear hx242_2
              try clear hx242_3
              try clear p2
              try clear p242
              try clear q242
              obtain ⟨x5_2, x18_2, rfl, HA, HK2, HO_5, BK243, HB⟩ := hrel
              cases gk with
              | zero => exact absurd HA.out (by simp [impl_timesOfLines.l1])
              | succ k2 =>
                have H := HA.out
                clear HA
                simp only [impl_timesOfLines.l1] at H
                by_cases c8 : x18_2 < ((rd_T30 l0 x11_1).f2)
                · rw [if_pos c8] at H
                  have c8b0 : decide (x18_2 < ((rd_T30 l0 x11_1).f2)) = true := decide_eq_true c8
                  clear c8
                  by_cases c9 : 0 ≤ x11_1
                  · rw [if_pos c9] at H
                    have c9b0 : decide (0 ≤ x11_1) = true := decide_eq_true c9
                    clear c9
                    by_cases c10 : x11_1 < (l1.length : Int)
                    · rw [if_pos c10] at H
                      have c10b0 : decide (x11_1 < (l1.length : Int)) = true := decide_eq_true c10
                      clear c10
                      replace H := Option.bind_eq_some_iff.mp H
                      obtain ⟨t245, A110, H⟩ := H
                      replace H : (if x5_2.length < 17592186044416 then (impl_timesOfLines.l1 k2 l1 (x5_2 ++ [t245]) x11_1 l0 (l0.length : Int) x11_1 ((rd_T30 l0 x11_1).f2) (wrap64 (x18_2 + 1)) ((rd_T30 l0 x11_1).f0) ((rd_T30 l0 x11_1).f1) ((rd_T30 l0 x11_1).f2) ((rd_T30 l0 x11_1).f3)) else (none)) = some r := H
                      have A11 := Aside0.mk A110
                      clear A110
                      by_cases c12 : x5_2.length < 17592186044416
                      · rw [if_pos c12] at H
                        have LMc12 := Aside0.mk c12
                        clear c12
                        obtain ⟨y246, hy246⟩ : ∃ y_ : List Int, y_ = (x5_2 ++ [t245]) := ⟨_, rfl⟩
                        replace H : (impl_timesOfLines.l1 k2 l1 y246 x11_1 l0 (l0.length : Int) x11_1 ((rd_T30 l0 x11_1).f2) (wrap64 (x18_2 + 1)) ((rd_T30 l0 x11_1).f0) ((rd_T30 l0 x11_1).f1) ((rd_T30 l0 x11_1).f2) ((rd_T30 l0 x11_1).f3)) = some r := by first | (rw [hy246]; with_reducible exact H) | (have H2_ := (Option.bind_some _ _).symm.trans H; rw [hy246]; with_reducible exact H2_) | (have H2_ := (Option.bind_some _ _).symm.trans H; with_reducible exact H2_) | with_reducible exact H | (rw [hy246]; exact H) | exact H
                        have Ny246 := Aside0.mk hy246
                        clear hy246
                        have H' := Aside0.mk H
                        clear H
                        try go_wp2
                        have n0_ := Aside0.mk (Kd.R_drew HO_5.out)
                        have n1_ := Aside0.mk (blk_drew BK243.out)
                        have n2_ := Aside0.mk (below_drew1 HB.out)
                        clear HO_5
                        clear BK243
                        clear HB
                        have HO_5 := n0_
                        have BK243 := n1_
                        have HB := n2_
                        clear n0_ n1_ n2_
                        have p244 : 0 ≤ (x11_1 : Int) := of_decide_eq_true (by first | (with_reducible assumption) | assumption)
                        have q244 : x11_1 < (l1.length : Int) := of_decide_eq_true (by first | (with_reducible assumption) | assumption)
                        obtain ⟨ad244, e244, hx244_0⟩ := Kd.at_int HR1.out x11_1 p244 q244
                        have hw244_0 := hx244_0
                        cases e244
                        replace hx244_0 := (HB.out.cell (World.block_lt_of_cell? w _ hx244_0)).trans hx244_0
                        replace p244 := eq_true p244
                        replace q244 := eq_true q244
                        refine start_ (n := 11) (S := fun w' => w'.cell? ⟨gb243, 0, none⟩ = some (.int .i64 ((rd_T30 l0 x11_1).f0)) ∧ w'.cell? ⟨gb243, 1, none⟩ = some (.int .i64 ((rd_T30 l0 x11_1).f1)) ∧ w'.cell? ⟨gb243, 2, none⟩ = some (.int .i64 ((rd_T30 l0 x11_1).f2)) ∧ w'.cell? ⟨gb243, 3, none⟩ = some (.slice A242_3 ((rd_T30 l0 x11_1).f3).length c242_3) ∧ w'.cell? (ad244.add (x11_1).toNat) = some (.int .i64 (rd l1 x11_1))) (ds := []) #[false, false, false, false, false, false, false, false, false, false, false] (by kernel_rfl) rfl rfl ⟨(blk_cell BK243.out 0).trans rfl, (blk_cell BK243.out 1).trans rfl, (blk_cell BK243.out 2).trans rfl, (blk_cell BK243.out 3).trans rfl, ((HB.out.cell (World.block_lt_of_cell? w _ hw244_0)).trans hw244_0)⟩ (fun hHeld => ?_); refine with_tabW impl_timesOfLines.tab8 impl_timesOfLines.bits8 (fun HT_ HW_ => ?_)
                        generalize wr.drew = w13 at HO_5 BK243 HB hx244_0 hHeld ⊢
                        refine pure_ (i := 0) (N := some 21) (v := ?_) (a' := ?_) #[true, false, false, false, false, false, false, false, false, false, false] rfl rfl (any_of HT_.out (by kernel_rfl)) (fun _ _ _ h => h) (Or.inl ⟨by rfl, ?_⟩) ?_ ?_
                        rotate_left
                        · intro w'
                          go_simp
                          with_reducible rfl
                        rotate_left
                        · simp only [Act.put, List.setIfInBounds_toArray, List.set_cons_zero, List.set_cons_succ, i64_w, i32_w]
                          rfl
                        refine pure_ (i := 2) (N := some 23) (v := ?_) (a' := ?_) #[true, false, true, false, false, false, false, false, false, false, false] rfl rfl (any_of HT_.out (by kernel_rfl)) (fun _ _ _ h => h) (Or.inl ⟨by rfl, ?_⟩) ?_ ?_
                        rotate_left
                        · intro w'
                          go_simp
                          with_reducible rfl
                        rotate_left
                        · simp only [Act.put, List.setIfInBounds_toArray, List.set_cons_zero, List.set_cons_succ, i64_w, i32_w]
                          rfl
                        refine pure_ (i := 3) (N := some 24) (v := ?_) (a' := ?_) #[true, false, true, true, false, false, false, false, false, false, false] rfl rfl (any_of HT_.out (by kernel_rfl)) (fun _ _ _ h => h) (Or.inl ⟨by rfl, ?_⟩) ?_ ?_
                        rotate_left
                        · intro w'
                          go_simp
                          with_reducible rfl
                        rotate_left
                        · simp only [Act.put, List.setIfInBounds_toArray, List.set_cons_zero, List.set_cons_succ, i64_w, i32_w]
                          rfl
                        refine pure_ (i := 4) (N := some 25) (v := ?_) (a' := ?_) #[true, false, true, true, true, false, false, false, false, false, false] rfl rfl (any_of HT_.out (by kernel_rfl)) (fun _ _ _ h => h) (Or.inl ⟨by rfl, ?_⟩) ?_ ?_
                        rotate_left
                        · intro w'
                          go_simp
                          with_reducible rfl
                        rotate_left
                        · simp only [Act.put, List.setIfInBounds_toArray, List.set_cons_zero, List.set_cons_succ, i64_w, i32_w]
                          rfl
                        refine pure_ (i := 5) (N := some 26) (v := ?_) (a' := ?_) #[true, false, true, true, true, true, false, false, false, false, false] rfl rfl (any_of HT_.out (by kernel_rfl)) (fun _ _ _ h => h) (Or.inl ⟨by rfl, ?_⟩) ?_ ?_
                        rotate_left
                        · intro w'
                          go_simp
                          with_reducible rfl
                        rotate_left
                        · simp only [Act.put, List.setIfInBounds_toArray, List.set_cons_zero, List.set_cons_succ, i64_w, i32_w]
                          rfl
                        refine take_ (i := 1) (N := some 22) (v := ?_) (a' := ?_) #[true, true, true, true, true, true, false, false, false, false, false] rfl rfl (take_ofW HT_.out HW_.out (by kernel_rfl)) (fun _ _ _ h => h) (Or.inl ⟨by rfl, ?_⟩) hHeld ?_ ?_
                        rotate_left
                        · rintro w' ⟨s0, s1, s2, s3, s4⟩
                          go_simp
                          with_reducible rfl
                        rotate_left
                        · simp only [Act.put, List.setIfInBounds_toArray, List.set_cons_zero, List.set_cons_succ, i64_w, i32_w]
                          rfl
                        refine take_ (i := 6) (N := some 27) (v := ?_) (a' := ?_) #[true, true, true, true, true, true, true, false, false, false, false] rfl rfl (take_ofW HT_.out HW_.out (by kernel_rfl)) (fun _ _ _ h => h) (Or.inl ⟨by rfl, ?_⟩) hHeld ?_ ?_
                        rotate_left
                        · rintro w' ⟨s0, s1, s2, s3, s4⟩
                          go_simp
                          with_reducible rfl
                        rotate_left
                        · simp only [Act.put, List.setIfInBounds_toArray, List.set_cons_zero, List.set_cons_succ, i64_w, i32_w]
                          rfl
                        refine one_ (i := 7) (N := some 28) #[true, true, true, true, true, true, true, true, false, false, false] rfl rfl (one_of HT_.out (by kernel_rfl)) (by decide) (fun K hK => ?_)
                        refine goes_ Try.func68 (by kernel_rfl) rfl #[.agg #[.int .i64 ((rd_T30 l0 x11_1).f0), .int .i64 ((rd_T30 l0 x11_1).f1), .int .i64 ((rd_T30 l0 x11_1).f2), .slice A242_3 ((rd_T30 l0 x11_1).f3).length c242_3], .int .i64 x18_2, .int .i64 (rd l1 x11_1)] (by rfl) rfl rfl (by (try simp only [List.map_toArray, List.map_cons, List.map_nil]); first | done | rfl | (simp only [List.length_drop, List.length_take]; rfl)) ?_
                        with_reducible refine (impl_timeAt.calls ((rd_T30 l0 x11_1).f0) ((rd_T30 l0 x11_1).f1) ((rd_T30 l0 x11_1).f2) _ _ ((rd_T30 l0 x11_1).f3) x18_2 (rd l1 x11_1) t245 _ ?side1 ?side2 A11.out).mono ?_
                        (case side1 => repeat (first | exact (Kd.C_below HR242_3.out HB.out) | (with_reducible refine Kd.C_alloc ?_ _) | (with_reducible refine Kd.C_drewN ?_ _) | (with_reducible refine Kd.C_drew ?_)))
                        (case side2 => exact HC242_3.out)
                        rintro e w14 ⟨rfl, hb⟩
                        refine ⟨_, rfl, ?_⟩
                        have n0_ := Aside0.mk (Kd.R_below (by (with_reducible repeat (first | apply Kd.R_alloc | apply Kd.R_drewN | apply Kd.R_drew)); exact HO_5.out) hb)
                        have n1_ := Aside0.mk (blk_below (g := gb243) (o := .cells #[.int .i64 ((rd_T30 l0 x11_1).f0), .int .i64 ((rd_T30 l0 x11_1).f1), .int .i64 ((rd_T30 l0 x11_1).f2), .slice A242_3 ((rd_T30 l0 x11_1).f3).length c242_3] 30 (0, 0)) (by (with_reducible repeat (first | refine blk_drewN ?_ _ | refine blk_drew ?_ | refine blk_alloc ?_ _)); exact BK243.out) hb)
                        have n2_ := Aside0.mk (below_step (by repeat (first | (with_reducible first | exact HB.out | apply below_alloc | apply pw_below_drewN | apply below_drew1 | refine below_set ?_ GE243.out) | exact HB.out)) hb)
                        clear HO_5
                        clear BK243
                        clear HB
                        have HO_5 := n0_
                        have BK243 := n1_
                        have HB := n2_
                        clear n0_ n1_ n2_
                        (try clear hb)
                        (try clear hb2)
                        (try clear hk)
                        (try clear hi)
                        refine hK.out _ _ ⟨(blk_cell BK243.out 0).trans rfl, (blk_cell BK243.out 1).trans rfl, (blk_cell BK243.out 2).trans rfl, (blk_cell BK243.out 3).trans rfl, ((HB.out.cell (World.block_lt_of_cell? w _ hw244_0)).trans hw244_0)⟩ (fun hHeld => ?_)
                        clear hK K
                        refine norm_ (a' := ?_) ?_ ?_
                        rotate_left
                        · show Act.put _ (some 28) _ = _
                          simp only [Act.put, List.setIfInBounds_toArray, List.set_cons_zero, List.set_cons_succ, i64_w, i32_w]
                          rfl
                        refine one_ (i := 8) (N := some 29) #[true, true, true, true, true, true, true, true, true, false, false] rfl rfl (one_of HT_.out (by kernel_rfl)) (by decide) (fun K hK => ?_)
                        refine value_ (w1 := ?_) (v := ?_) (by rfl) rfl ?_ ?_
                        rotate_left 2
                        · go_simp
                          constructor
                          · rfl
                          · rfl
                        refine hK.out _ _ ⟨(blk_cell (blk_alloc BK243.out _) 0).trans rfl, (blk_cell (blk_alloc BK243.out _) 1).trans rfl, (blk_cell (blk_alloc BK243.out _) 2).trans rfl, (blk_cell (blk_alloc BK243.out _) 3).trans rfl, (World.cell?_alloc_lt _ _ _ (World.block_lt_of_cell? _ _ (((HB.out.cell (World.block_lt_of_cell? w _ hw244_0)).trans hw244_0)))).trans (((HB.out.cell (World.block_lt_of_cell? w _ hw244_0)).trans hw244_0))⟩ (fun hHeld => ?_)
                        clear hK K
                        refine norm_ (a' := ?_) ?_ ?_
                        rotate_left
                        · show Act.put _ (some 29) _ = _
                          simp only [Act.put, List.setIfInBounds_toArray, List.set_cons_zero, List.set_cons_succ, i64_w, i32_w]
                          rfl
                        refine one_ (i := 9) (N := some 30) #[true, true, true, true, true, true, true, true, true, true, false] rfl rfl (one_of HT_.out (by kernel_rfl)) (by decide) (fun K hK => ?_)
                        refine Kd.R_append_step (Kd.int .i64) (w0 := w) w.heap.size (by rfl) (.tmp 21) (.tmp 29) 22 3 (.int .i64 0) 8 rfl Try.underlying22 info3 rfl (by decide) (by omega) u5 x5_2 t245 [.int .i64 t245] (fun _ => True) (fun _ => False) rfl rfl ?aP (fun _ hk => hk.elim) ?aF ?aO ?aB ?aS ?aL ?_
                        (case aP => exact rfl)
                        (case aB => exact (by repeat (first | (with_reducible first | exact HB.out | apply below_alloc | apply pw_below_drewN | apply below_drew1 | refine below_set ?_ GE243.out) | exact HB.out)))
                        (case aF => exact (fun _ _ => trivial))
                        (case aO => exact (by (with_reducible repeat (first | apply Kd.R_alloc | apply Kd.R_drewN | apply Kd.R_drew)); exact HO_5.out))
                        (case aS => exact (below_size (by repeat (first | (with_reducible first | exact HB.out | apply below_alloc | apply pw_below_drewN | apply below_drew1 | refine below_set ?_ GE243.out) | exact HB.out))))
                        (case aL => have := LMc12.out; omega)
                        intro v247 w15 ho hb hg hat
                        rw [← Ny246.out] at ho
                        have n0_ := Aside0.mk (blk_grown (g := gb243) (o := .cells #[.int .i64 ((rd_T30 l0 x11_1).f0), .int .i64 ((rd_T30 l0 x11_1).f1), .int .i64 ((rd_T30 l0 x11_1).f2), .slice A242_3 ((rd_T30 l0 x11_1).f3).length c242_3] 30 (0, 0)) (by (with_reducible repeat (first | refine blk_drewN ?_ _ | refine blk_drew ?_ | refine blk_alloc ?_ _)); exact BK243.out) hg (Kd.R_ne HO_5.out BK243.out (by decide)))
                        have n1_ := Aside0.mk (hb)
                        have n2_ := Aside0.mk (ho)
                        clear BK243
                        clear HB
                        clear HO_5
                        have BK243 := n0_
                        have HB := n1_
                        have HO248 := n2_
                        clear n0_ n1_ n2_
                        clear ho hb hg hat
                        refine hK.out _ _ ⟨(blk_cell BK243.out 0).trans rfl, (blk_cell BK243.out 1).trans rfl, (blk_cell BK243.out 2).trans rfl, (blk_cell BK243.out 3).trans rfl, ((HB.out.cell (World.block_lt_of_cell? w _ hw244_0)).trans hw244_0)⟩ (fun hHeld => ?_)
                        clear hK K
                        refine norm_ (a' := ?_) ?_ ?_
                        rotate_left
                        · show Act.put _ (some 30) _ = _
                          simp only [Act.put, List.setIfInBounds_toArray, List.set_cons_zero, List.set_cons_succ, i64_w, i32_w]
                          rfl
                        refine pure_ (i := 10) (N := some 5) (v := ?_) (a' := ?_) #[true, true, true, true, true, true, true, true, true, true, true] rfl rfl (any_of HT_.out (by kernel_rfl)) (fun _ _ _ h => h) (Or.inl ⟨by rfl, ?_⟩) ?_ ?_
                        rotate_left
                        · intro w'
                          go_simp
                          with_reducible rfl
                        rotate_left
                        · simp only [Act.put, List.setIfInBounds_toArray, List.set_cons_zero, List.set_cons_succ, i64_w, i32_w]
                          rfl
                        refine done_ (done_of HT_.out (by kernel_rfl)) ?_
                        try go_wp2
                        go_roundg k2
                        case measure => have := HK1.out; have := HK2.out; omega
                        case rel => exact ⟨(y246), (wrap64 (x18_2 + 1)), (by first | rfl | (simp; done) | (simp [*]; done)), H', ⟨by have := HK1.out; have := HK2.out; omega⟩, ⟨by (with_reducible repeat (first | apply Kd.R_alloc | apply Kd.R_drewN | apply Kd.R_drew)); exact HO248.out⟩, ⟨by (with_reducible repeat (first | refine blk_drewN ?_ _ | refine blk_drew ?_ | refine blk_alloc ?_ _)); exact BK243.out⟩, ⟨by repeat (first | (with_reducible first | exact HB.out | apply below_alloc | apply pw_below_drewN | apply below_drew1 | refine below_set ?_ GE243.out) | exact HB.out)⟩⟩
                      · rw [if_neg c12] at H
                        exact absurd H (by simp)
                    · rw [if_neg c10] at H
                      exact absurd H (by simp)
                  · rw [if_neg c9] at H
                    exact absurd H (by simp)
                · rw [if_neg c8] at H
                  have c8b0 : decide (x18_2 < ((rd_T30 l0 x11_1).f2)) = false := decide_eq_false c8
                  clear c8
                  have H' := Aside0.mk H
                  clear H
                  go_wp2
                  go_roundg k2
                  case measure => have := HK1.out; have := HK2.out; omega
                  case rel => exact ⟨(x5_2), (wrap64 (x11_1 + 1)), (by first | rfl | (simp; done) | (simp [*]; done)), H', ⟨by have := HK1.out; have := HK2.out; omega⟩, ⟨by (with_reducible repeat (first | apply Kd.R_alloc | apply Kd.R_drewN | apply Kd.R_drew)); exact HO_5.out⟩, ⟨by repeat (first | (with_reducible first | exact HB.out | apply below_alloc | apply pw_below_drewN | apply below_drew1 | refine below_set ?_ GE243.out) | exact HB.out)⟩⟩
          · rw [if_neg c5] at H
            exact absurd H (by simp)
        · rw [if_neg c4] at H
          exact absurd H (by simp)
      · rw [if_neg c3] at H
        have c3b0 : decide (x11_1 < (l0.length : Int)) = false := decide_eq_false c3
        clear c3
        replace H := Option.bind_eq_some_iff.mp H
        obtain ⟨t238, A160, H⟩ := H
        replace H : ((slices_Compact_int_int.f t238).bind fun t239 => (some t239)) = some r := H
        have A16 := Aside0.mk A160
        clear A160
        replace H := Option.bind_eq_some_iff.mp H
        obtain ⟨t239, A170, H⟩ := H
        replace H : (some t239) = some r := H
        have A17 := Aside0.mk A170
        clear A170
        obtain rfl := Option.some.inj H
        obtain ⟨Ao18, co18, eo18⟩ := Kd.R_slice HO_5.out
        subst eo18
        go_wp2_with (first | ((with_reducible refine gate_callee (f := 60) rfl ?_); refine goesL_ (some 34) rfl rfl Try.func60 (by kernel_rfl) rfl #[.slice Ao18 x5_1.length co18] rfl (by (try simp only [List.map_toArray, List.map_cons, List.map_nil]); first | done | rfl | (simp only [List.length_drop, List.length_take]; rfl)) ?_; (with_reducible refine (slices_Sort_int_int.calls (fun k_ => some k_ = (.slice Ao18 x5_1.length co18 : Value).ownBlock) (.slice Ao18 x5_1.length co18) x5_1 t238 w _ ?side1 ?side2 A16.out).mono ?_); (case side1 => repeat (first | (with_reducible first | exact HB.out | apply below_alloc | apply pw_below_drewN | apply below_drew1) | exact HB.out)); (case side2 => exact Kd.R_tight rfl HO_5.out); rintro e w19 ⟨rfl, hy0, hb, hkp⟩; refine ⟨_, rfl, ?_⟩; have n0_ := Aside0.mk (Kd.R_reok rfl hy0 (fun k_ e_ => HO_5.out.1 k_ e_)); have n1_ := Aside0.mk (hb); clear HO_5; clear HB; have HO_5 := n0_; have HB := n1_; clear n0_ n1_; (try clear hb); (try clear hkp); (try clear hy0)) | ((with_reducible refine gate_callee (f := 69) rfl ?_); refine goesL_ (some 36) rfl rfl Try.func69 (by kernel_rfl) rfl #[.slice Ao18 x5_1.length co18] rfl (by (try simp only [List.map_toArray, List.map_cons, List.map_nil]); first | done | rfl | (simp only [List.length_drop, List.length_take]; rfl)) ?_; (with_reducible refine (slices_Compact_int_int.calls (fun k_ => some k_ = (.slice Ao18 x5_1.length co18 : Value).ownBlock) (.slice Ao18 x5_1.length co18) t238 t239 w _ ?side1 ?side2 A17.out).mono ?_); (case side1 => repeat (first | (with_reducible first | exact HB.out | apply below_alloc | apply pw_below_drewN | apply below_drew1) | exact HB.out)); (case side2 => exact Kd.R_tight rfl HO_5.out); rintro e w20 ⟨v240, rfl, ho0, hb, hkp⟩; refine ⟨_, rfl, ?_⟩; have n0_ := Aside0.mk (Kd.R_mono (ok' := fun k_ => True) ho0 (fun k_ hk_ => trivial)); have n1_ := Aside0.mk (hb); clear HB; clear HO_5; have HO241 := n0_; have HB := n1_; clear n0_ n1_; (try clear hb); (try clear hkp); (try clear ho0)))
        go_ret
        exact ⟨_, by first | rfl | (simp [errW_none, errW_some] <;> rfl) | (simp [*, errW_none, errW_some] <;> rfl), by (with_reducible repeat (first | apply Kd.R_alloc | apply Kd.R_drewN | apply Kd.R_drew)); exact HO241.out, by repeat (first | (with_reducible first | exact HB.out | apply below_alloc | apply pw_below_drewN | apply below_drew1) | exact HB.out)⟩

/-! ### impl_TimesOfLines: function 27 -/
def impl_TimesOfLines.f (k : Nat) (l0 : List (S30)) (l1 : List Int) : Option (List Int × Bool) := (impl_areLines.f k l0 l1).bind fun t249 => (if t249 = true then ((impl_timesOfLines.f k l0 l1).bind fun t250 => (some (t250, true))) else (some (([] : List Int), false)))
theorem impl_TimesOfLines.mono : ∀ a0 a1 k, LeO (impl_TimesOfLines.f k a0 a1) (impl_TimesOfLines.f (k + 1) a0 a1) := by
  intro a0 a1 k
  unfold impl_TimesOfLines.f
  repeat' first
      | (with_reducible exact impl_areLines.mono _ _ _)
      | (with_reducible exact impl_timesOfLines.mono _ _ _)
      | (with_reducible exact LeO.refl _)
      | (with_reducible exact LeO.none _)
      | (with_reducible refine LeO.ite ?_ ?_)
      | (with_reducible refine LeO.bind ?_ (fun _ => ?_))
      | exact impl_areLines.mono _ _ _
      | exact impl_timesOfLines.mono _ _ _
      | exact LeO.none _
      | refine LeO.ite ?_ ?_
      | refine LeO.bind ?_ (fun _ => ?_)
set_option maxHeartbeats 8000000 in
set_option maxRecDepth 100000 in
theorem impl_TimesOfLines.calls (k : Nat) (A0 : Option Addr) (c0 : Nat) (l0 : List (S30)) (A1 : Option Addr) (c1 : Nat) (l1 : List Int) (r1 : List Int) (r2 : Bool) (w : World) (hr0 : Kd.C k30 w A0 l0.length l0) (hc0 : l0.length ≤ c0) (hr1 : Kd.C (Kd.int .i64) w A1 l1.length l1) (hc1 : l1.length ≤ c1) (h : impl_TimesOfLines.f k l0 l1 = some (r1, r2)) :
    Calls Try.prog 27 #[.slice A0 l0.length c0, .slice A1 l1.length c1] w fun e w' => ∃ v0_ : Value, e = .returned (.tuple #[v0_, .bool r2]) ∧ Kd.R (Kd.int .i64) 3 w' w.heap.size (fun _ => True) v0_ r1 ∧ Below w.heap.size w w' := by
  have HR0 := Aside0.mk hr0
  have HC0 := Aside0.mk hc0
  clear hr0 hc0
  have HR1 := Aside0.mk hr1
  have HC1 := Aside0.mk hc1
  clear hr1 hc1
  have HB := Aside0.mk (Below.refl w.heap.size w)
  have H : ((impl_areLines.f k l0 l1).bind fun t249 => (if t249 = true then ((impl_timesOfLines.f k l0 l1).bind fun t250 => (some (t250, true))) else (some (([] : List Int), false)))) = some (r1, r2) := h
  clear h
  replace H := Option.bind_eq_some_iff.mp H
  obtain ⟨t249, A30, H⟩ := H
  replace H : (if t249 = true then ((impl_timesOfLines.f k l0 l1).bind fun t250 => (some (t250, true))) else (some (([] : List Int), false))) = some (r1, r2) := H
  have A3 := Aside0.mk A30
  clear A30
  by_cases c4 : t249 = true
  · subst c4
    have H1 : ((impl_timesOfLines.f k l0 l1).bind fun t250 => (some (t250, true))) = some (r1, r2) := by rw [if_pos rfl] at H; exact H
    clear H
    have H := H1
    clear H1
    replace H := Option.bind_eq_some_iff.mp H
    obtain ⟨t250, A50, H⟩ := H
    replace H : (some (t250, true)) = some (r1, r2) := H
    have A5 := Aside0.mk A50
    clear A50
    simp only [Option.some.injEq, Prod.mk.injEq] at H
    obtain ⟨rfl, rfl⟩ := H
    go_enter Try.func27, Try.ntmps27
    go_wp2_with (first | ((with_reducible refine gate_callee (f := 49) rfl ?_); refine goesL_ (some 8) rfl rfl Try.func49 (by kernel_rfl) rfl #[.slice A0 l0.length c0, .slice A1 l1.length c1] rfl (by (try simp only [List.map_toArray, List.map_cons, List.map_nil]); first | done | rfl | (simp only [List.length_drop, List.length_take]; rfl)) ?_; (with_reducible refine (impl_areLines.calls k _ _ l0 _ _ l1 true _ ?side1 ?side2 ?side3 ?side4 A3.out).mono ?_); (case side1 => repeat (first | exact HR0.out | (with_reducible refine Kd.C_alloc ?_ _) | (with_reducible refine Kd.C_drewN ?_ _) | (with_reducible refine Kd.C_drew ?_))); (case side2 => exact HC0.out); (case side3 => repeat (first | exact HR1.out | (with_reducible refine Kd.C_alloc ?_ _) | (with_reducible refine Kd.C_drewN ?_ _) | (with_reducible refine Kd.C_drew ?_))); (case side4 => exact HC1.out); rintro e w6 ⟨rfl, hb⟩; refine ⟨_, rfl, ?_⟩; have n0_ := Aside0.mk (below_step (by repeat (first | (with_reducible first | exact HB.out | apply below_alloc | apply pw_below_drewN | apply below_drew1) | exact HB.out)) hb); clear HB; have HB := n0_; clear n0_; (try clear hb); (try clear hb2); (try clear hk); (try clear hi)) | ((with_reducible refine gate_callee (f := 50) rfl ?_); refine goesL_ (some 12) rfl rfl Try.func50 (by kernel_rfl) rfl #[.slice A0 l0.length c0, .slice A1 l1.length c1] rfl (by (try simp only [List.map_toArray, List.map_cons, List.map_nil]); first | done | rfl | (simp only [List.length_drop, List.length_take]; rfl)) ?_; (with_reducible refine (impl_timesOfLines.calls k _ _ l0 _ _ l1 t250 _ ?side1 ?side2 ?side3 ?side4 A5.out).mono ?_); (case side1 => repeat (first | exact (Kd.C_below HR0.out HB.out) | (with_reducible refine Kd.C_alloc ?_ _) | (with_reducible refine Kd.C_drewN ?_ _) | (with_reducible refine Kd.C_drew ?_))); (case side2 => exact HC0.out); (case side3 => repeat (first | exact (Kd.C_below HR1.out HB.out) | (with_reducible refine Kd.C_alloc ?_ _) | (with_reducible refine Kd.C_drewN ?_ _) | (with_reducible refine Kd.C_drew ?_))); (case side4 => exact HC1.out); rintro e w7 ⟨v251, rfl, ho0, hb⟩; refine ⟨_, rfl, ?_⟩; have n0_ := Aside0.mk (Kd.R_lower ho0 (below_size (by repeat (first | (with_reducible first | exact HB.out | apply below_alloc | apply pw_below_drewN | apply below_drew1) | exact HB.out)))); have n1_ := Aside0.mk (below_step (by repeat (first | (with_reducible first | exact HB.out | apply below_alloc | apply pw_below_drewN | apply below_drew1) | exact HB.out)) hb); clear HB; have HO252 := n0_; have HB := n1_; clear n0_ n1_; (try clear hb); (try clear hb2); (try clear hk); (try clear hi); (try clear ho0)))
    go_ret2
    exact ⟨_, by first | rfl | (simp [errW_none, errW_some] <;> rfl) | (simp [*, errW_none, errW_some] <;> rfl), by (with_reducible repeat (first | apply Kd.R_alloc | apply Kd.R_drewN | apply Kd.R_drew)); exact HO252.out, by repeat (first | (with_reducible first | exact HB.out | apply below_alloc | apply pw_below_drewN | apply below_drew1) | exact HB.out)⟩
  · replace c4 := Bool.eq_false_iff.mpr c4
    subst c4
    have H1 : (some (([] : List Int), false)) = some (r1, r2) := by rw [if_neg (show ¬ (false = true) by decide)] at H; exact H
    clear H
    have H := H1
    clear H1
    simp only [Option.some.injEq, Prod.mk.injEq] at H
    obtain ⟨rfl, rfl⟩ := H
    go_enter Try.func27, Try.ntmps27
    go_wp2_with (first | ((with_reducible refine gate_callee (f := 49) rfl ?_); refine goesL_ (some 8) rfl rfl Try.func49 (by kernel_rfl) rfl #[.slice A0 l0.length c0, .slice A1 l1.length c1] rfl (by (try simp only [List.map_toArray, List.map_cons, List.map_nil]); first | done | rfl | (simp only [List.length_drop, List.length_take]; rfl)) ?_; (with_reducible refine (impl_areLines.calls k _ _ l0 _ _ l1 false _ ?side1 ?side2 ?side3 ?side4 A3.out).mono ?_); (case side1 => repeat (first | exact HR0.out | (with_reducible refine Kd.C_alloc ?_ _) | (with_reducible refine Kd.C_drewN ?_ _) | (with_reducible refine Kd.C_drew ?_))); (case side2 => exact HC0.out); (case side3 => repeat (first | exact HR1.out | (with_reducible refine Kd.C_alloc ?_ _) | (with_reducible refine Kd.C_drewN ?_ _) | (with_reducible refine Kd.C_drew ?_))); (case side4 => exact HC1.out); rintro e w8 ⟨rfl, hb⟩; refine ⟨_, rfl, ?_⟩; have n0_ := Aside0.mk (below_step (by repeat (first | (with_reducible first | exact HB.out | apply below_alloc | apply pw_below_drewN | apply below_drew1) | exact HB.out)) hb); clear HB; have HB := n0_; clear n0_; (try clear hb); (try clear hb2); (try clear hk); (try clear hi)))
    go_ret2
    exact ⟨_, by first | rfl | (simp [errW_none, errW_some] <;> rfl) | (simp [*, errW_none, errW_some] <;> rfl), by first | exact Kd.R_nil _ _ _ _ _ | exact Kd.N_nil _ _ _ _ _ | exact Kd.V_nil _ _ _ _ _ | exact Kd.Q_nil _ _ _ _ _ | exact Kd.S_nil _ _ _ _ _, by repeat (first | (with_reducible first | exact HB.out | apply below_alloc | apply pw_below_drewN | apply below_drew1) | exact HB.out)⟩

/-! ### laws_markLineS: function 28 -/
theorem laws_markLineS.put0 {W : World} {base : Nat} {ok : Nat → Prop} {g n cap : Nat} {xs : List S30} (h : Kd.S k30 30 W base ok (.slice (some ⟨g, 0, none⟩) n cap) xs) (i : Int) (h0 : 0 ≤ i) (h1 : i < n) (u : Int) :
    W.cell? ⟨g, (i : Int).toNat * 4, none⟩ = some (.int .i64 (rd_T30 xs i).f0) ∧ W.frozen? ⟨g, (i : Int).toNat * 4, none⟩ = false ∧ Kd.S k30 30 (W.setCell ⟨g, (i : Int).toNat * 4, none⟩ (.int .i64 u)) base ok (.slice (some ⟨g, 0, none⟩) n cap) (xs.set i.toNat ⟨u, (rd_T30 xs i).f1, (rd_T30 xs i).f2, (rd_T30 xs i).f3⟩) ∧ W.grownBy (W.setCell ⟨g, (i : Int).toNat * 4, none⟩ (.int .i64 u)) (some g) := by
  obtain ⟨oki, c, hcl, hM, hcc, hfr, hoki, hH⟩ := Kd.S_elem (Kd.S_mono (ok' := fun k => ok k ∧ ¬ (fun _ => False) k) h (fun k hk => ⟨hk, fun h => h⟩)) z30 i h0 h1
  obtain ⟨v, rfl, hg⟩ := k30_openM hM
  have HP := Kd.S_seg (okg := fun _ => False) hH h0 h1 (seg := [.int .i64 u]) (j := 0) (show 0 + 1 ≤ 4 from by decide) (x' := (⟨u, (rd_T30 xs i).f1, (rd_T30 xs i).f2, (rd_T30 xs i).f3⟩ : S30)) (k30_mkM _ _ _ (⟨u, (rd_T30 xs i).f1, (rd_T30 xs i).f2, (rd_T30 xs i).f3⟩ : S30) hg) (fun k hk => .inl hk) (fun k hk => hk.elim)
  exact ⟨hcc 0 _ rfl, hfr 0, HP.1, HP.2⟩
theorem laws_markLineS.put1 {W : World} {base : Nat} {ok : Nat → Prop} {g n cap : Nat} {xs : List S30} (h : Kd.S k30 30 W base ok (.slice (some ⟨g, 0, none⟩) n cap) xs) (i : Int) (h0 : 0 ≤ i) (h1 : i < n) (u : Int) :
    W.cell? ⟨g, (i : Int).toNat * 4 + 1, none⟩ = some (.int .i64 (rd_T30 xs i).f1) ∧ W.frozen? ⟨g, (i : Int).toNat * 4 + 1, none⟩ = false ∧ Kd.S k30 30 (W.setCell ⟨g, (i : Int).toNat * 4 + 1, none⟩ (.int .i64 u)) base ok (.slice (some ⟨g, 0, none⟩) n cap) (xs.set i.toNat ⟨(rd_T30 xs i).f0, u, (rd_T30 xs i).f2, (rd_T30 xs i).f3⟩) ∧ W.grownBy (W.setCell ⟨g, (i : Int).toNat * 4 + 1, none⟩ (.int .i64 u)) (some g) := by
  obtain ⟨oki, c, hcl, hM, hcc, hfr, hoki, hH⟩ := Kd.S_elem (Kd.S_mono (ok' := fun k => ok k ∧ ¬ (fun _ => False) k) h (fun k hk => ⟨hk, fun h => h⟩)) z30 i h0 h1
  obtain ⟨v, rfl, hg⟩ := k30_openM hM
  have HP := Kd.S_seg (okg := fun _ => False) hH h0 h1 (seg := [.int .i64 u]) (j := 1) (show 1 + 1 ≤ 4 from by decide) (x' := (⟨(rd_T30 xs i).f0, u, (rd_T30 xs i).f2, (rd_T30 xs i).f3⟩ : S30)) (k30_mkM _ _ _ (⟨(rd_T30 xs i).f0, u, (rd_T30 xs i).f2, (rd_T30 xs i).f3⟩ : S30) hg) (fun k hk => .inl hk) (fun k hk => hk.elim)
  exact ⟨hcc 1 _ rfl, hfr 1, HP.1, HP.2⟩
theorem laws_markLineS.put2 {W : World} {base : Nat} {ok : Nat → Prop} {g n cap : Nat} {xs : List S30} (h : Kd.S k30 30 W base ok (.slice (some ⟨g, 0, none⟩) n cap) xs) (i : Int) (h0 : 0 ≤ i) (h1 : i < n) (u : Int) :
    W.cell? ⟨g, (i : Int).toNat * 4 + 2, none⟩ = some (.int .i64 (rd_T30 xs i).f2) ∧ W.frozen? ⟨g, (i : Int).toNat * 4 + 2, none⟩ = false ∧ Kd.S k30 30 (W.setCell ⟨g, (i : Int).toNat * 4 + 2, none⟩ (.int .i64 u)) base ok (.slice (some ⟨g, 0, none⟩) n cap) (xs.set i.toNat ⟨(rd_T30 xs i).f0, (rd_T30 xs i).f1, u, (rd_T30 xs i).f3⟩) ∧ W.grownBy (W.setCell ⟨g, (i : Int).toNat * 4 + 2, none⟩ (.int .i64 u)) (some g) := by
  obtain ⟨oki, c, hcl, hM, hcc, hfr, hoki, hH⟩ := Kd.S_elem (Kd.S_mono (ok' := fun k => ok k ∧ ¬ (fun _ => False) k) h (fun k hk => ⟨hk, fun h => h⟩)) z30 i h0 h1
  obtain ⟨v, rfl, hg⟩ := k30_openM hM
  have HP := Kd.S_seg (okg := fun _ => False) hH h0 h1 (seg := [.int .i64 u]) (j := 2) (show 2 + 1 ≤ 4 from by decide) (x' := (⟨(rd_T30 xs i).f0, (rd_T30 xs i).f1, u, (rd_T30 xs i).f3⟩ : S30)) (k30_mkM _ _ _ (⟨(rd_T30 xs i).f0, (rd_T30 xs i).f1, u, (rd_T30 xs i).f3⟩ : S30) hg) (fun k hk => .inl hk) (fun k hk => hk.elim)
  exact ⟨hcc 2 _ rfl, hfr 2, HP.1, HP.2⟩
theorem laws_markLineS.rds (xs : List S30) (i : Int) (h0 : 0 ≤ i) (h1 : i < xs.length) (x : S30) : rd_T30 (xs.set i.toNat x) i = x := by
  unfold rd_T30
  rw [List.getD_eq_getElem?_getD, List.getElem?_set_self (by omega)]
  rfl
def laws_markLineS.l0 : Nat → List S30 → Int → Int → Option (Int × List S30)
  | 0, _, _, _ => none
  | k + 1, x0, x1, x5 => if x5 < (x0.length : Int) then (if 0 ≤ x5 then ((laws_markIntS.f k (rd_T30 x0 x5).f3 (wrap64 (wrap64 (wrap64 (x1 + 1) + 1) + 1))).bind fun b => laws_markLineS.l0 k (x0.set (x5 : Int).toNat ⟨x1, wrap64 (x1 + 1), wrap64 (wrap64 (x1 + 1) + 1), b.2⟩) b.1 (wrap64 (x5 + 1))) else none) else some (x1, x0)
def laws_markLineS.f (k : Nat) (l0 : List S30) (a1 : Int) : Option (Int × List S30) := laws_markLineS.l0 k l0 a1 0
set_option maxHeartbeats 8000000 in
set_option maxRecDepth 100000 in
theorem laws_markLineS.calls (k : Nat) (P0_ : Nat → Prop) (u9000_ : Value) (l0 : List S30) (a1 : Int) (r1 : Int) (r2 : List S30) (w0 w : World) (hB : Below w0.heap.size w0 w) (ho0 : Kd.S k30 30 w w0.heap.size P0_ u9000_ l0) (h : laws_markLineS.f k l0 a1 = some (r1, r2)) :
    Calls Try.prog 28 #[u9000_, .int .i64 a1] w fun e w' => e = .returned (.int .i64 r1) ∧ Kd.S k30 30 w' w0.heap.size P0_ u9000_ r2 ∧ Below w0.heap.size w0 w' ∧ Kept w w' P0_ := by
  have HO0 := Aside0.mk ho0
  have HK := Aside0.mk (Kept.refl w P0_)
  have HB := Aside0.mk hB
  clear hB ho0
  have H : (laws_markLineS.l0 k l0 a1 0) = some (r1, r2) := h
  clear h
  have H' := Aside0.mk H
  clear H
  obtain ⟨Au, cu, eu⟩ := Kd.S_slice HO0.out
  subst eu
  go_enter Try.func28, Try.ntmps28
  go_wp2
  go_loopg [1, 5] k (fun kq v1 v5 w' => ∃ (x0_1 : List S30) (x1_1 : Int) (x5_1 : Int), v1 = .int .i64 x1_1 ∧ v5 = .int .i64 x5_1 ∧ Aside0 (laws_markLineS.l0 kq x0_1 x1_1 x5_1 = some (r1, r2)) ∧ Aside0 (kq ≤ k) ∧ Aside0 (Kd.S k30 30 w' w0.heap.size P0_ (.slice Au l0.length cu) x0_1) ∧ Aside0 (Kept w w' P0_) ∧ Aside0 (Below w0.heap.size w0 w'))
  case atStart => exact ⟨l0, a1, 0, rfl, rfl, H', ⟨Nat.le_refl _⟩, ⟨by (with_reducible repeat (first | apply Kd.S_alloc | apply Kd.S_drewN | apply Kd.S_drew)); exact HO0.out⟩, ⟨by repeat (first | (with_reducible first | exact HK.out | apply Kept.alloc | apply Kept.drewN | apply Kept.drew) | exact HK.out)⟩, ⟨by repeat (first | (with_reducible first | exact HB.out | apply below_alloc | apply pw_below_drewN | apply below_drew1) | exact HB.out)⟩⟩
  case round =>
    clear H'
    try clear p2
    obtain ⟨x0_1, x1_1, x5_1, rfl, rfl, HA, HK1, HO_0, HK, HB⟩ := hrel
    have hln : l0.length = x0_1.length := (Kd.S_reads' HO_0.out).1
    cases gk with
    | zero => exact absurd HA.out (by simp [laws_markLineS.l0])
    | succ k1 =>
      have H := HA.out
      clear HA
      simp only [laws_markLineS.l0] at H
      by_cases c3 : x5_1 < (x0_1.length : Int)
      · rw [if_pos c3] at H
        have c3b0 : decide (x5_1 < (l0.length : Int)) = true := decide_eq_true (by omega)
        by_cases c4 : 0 ≤ x5_1
        · rw [if_pos c4] at H
          have c4b0 : decide (0 ≤ x5_1) = true := decide_eq_true c4
          replace H := Option.bind_eq_some_iff.mp H
          obtain ⟨⟨t1, t2⟩, A50, H⟩ := H
          obtain ⟨go5, co5, eo5, gb5, _, _⟩ := Kd.S_form HO_0.out (by omega)
          injection eo5 with ea_ en_ ec_
          subst ea_
          subst ec_
          have HP0 := Aside0.mk ((Kd.S_R HO_0.out).1 go5 rfl)
          have GB5 := Aside0.mk gb5
          obtain ⟨ka, hka⟩ : ∃ z, wrap64 (x1_1 + 1) = z := ⟨_, rfl⟩
          obtain ⟨kb, hkb⟩ : ∃ z, wrap64 (ka + 1) = z := ⟨_, rfl⟩
          obtain ⟨kc, hkc⟩ : ∃ z, wrap64 (kb + 1) = z := ⟨_, rfl⟩
          rw [hka, hkb, hkc] at A50
          rw [hka, hkb] at H
          have H' := Aside0.mk H
          clear H
          have A5 := Aside0.mk A50
          clear A50
          have hwa : IntKind.i64.wrap (x1_1 + 1) = ka := (i64_w _).trans hka
          have hwb : IntKind.i64.wrap (ka + 1) = kb := (i64_w _).trans hkb
          have hwc : IntKind.i64.wrap (kb + 1) = kc := (i64_w _).trans hkc
          clear hka hkb hkc
          have C4 := Aside0.mk c4
          have C3 := Aside0.mk (show x5_1 < (l0.length : Int) by omega)
          have C3b := Aside0.mk c3
          obtain ⟨hx0, hf0, hs0, hgr0⟩ := laws_markLineS.put0 HO_0.out x5_1 c4 (by omega) x1_1
          have HS0 := Aside0.mk hs0
          have HG0 := Aside0.mk hgr0
          have p5 : (0 ≤ (x5_1 : Int)) = True := eq_true c4
          have q5 : ((x5_1 : Int) < ((l0.length : Int) : Int)) = True := eq_true (by omega)
          clear c3 c4 hln en_ gb5 hs0 hgr0
          go_wp2_with (first | ((with_reducible refine gate_store (t := 3) (p := 16) rfl ?_); refine store_event (t := 3) (p := 16) (v := ?vo_w8) (w1 := (wr.setCell ⟨go5, (x5_1 : Int).toNat * 4, none⟩ (.int .i64 x1_1))) ?hg ?ho ?hn ?hr ?_; (case ho => rfl); (case hg => rfl); (case hn => rfl); (case hr => first | (go_simp; done) | (go_simp; rfl)); intro w8 hw; have HS_ := Aside0.mk (show Kd.S k30 30 w8 w0.heap.size P0_ (.slice (some ⟨go5, 0, none⟩) l0.length cu) _ from by rw [hw]; exact HS0.out); have n1_ := Aside0.mk (show Below w0.heap.size w0 w8 from by rw [hw]; exact below_set HB.out GB5.out); have n2_ := Aside0.mk (Kept.of_grown (S := P0_) (show wr.grownBy w8 (some go5) from by rw [hw]; exact HG0.out) HK.out (fun k_ e_ => by injection e_ with e_; subst e_; exact .inl HP0.out)); clear HB HK HO_0 HS0 HG0 hw hx0 hf0; have HO_0 := HS_; have HB := n1_; have HK := n2_; clear n1_ n2_ HS_; obtain ⟨hx1, hf1, hs_, hg_⟩ := laws_markLineS.put1 HO_0.out x5_1 C4.out C3.out ka; have HS1 := Aside0.mk hs_; have HG1 := Aside0.mk hg_; clear hs_ hg_; simp only [laws_markLineS.rds _ _ C4.out C3b.out, List.set_set] at HS1) | ((with_reducible refine gate_store (t := 3) (p := 23) rfl ?_); refine store_event (t := 3) (p := 23) (v := ?vo_w9) (w1 := (w8.setCell ⟨go5, (x5_1 : Int).toNat * 4 + 1, none⟩ (.int .i64 ka))) ?hg ?ho ?hn ?hr ?_; (case ho => rfl); (case hg => rfl); (case hn => rfl); (case hr => first | (go_simp; done) | (go_simp; rfl)); intro w9 hw; have HS_ := Aside0.mk (show Kd.S k30 30 w9 w0.heap.size P0_ (.slice (some ⟨go5, 0, none⟩) l0.length cu) _ from by rw [hw]; exact HS1.out); have n1_ := Aside0.mk (show Below w0.heap.size w0 w9 from by rw [hw]; exact below_set HB.out GB5.out); have n2_ := Aside0.mk (Kept.of_grown (S := P0_) (show w8.grownBy w9 (some go5) from by rw [hw]; exact HG1.out) HK.out (fun k_ e_ => by injection e_ with e_; subst e_; exact .inl HP0.out)); clear HB HK HO_0 HS1 HG1 hw hx1 hf1; have HO_0 := HS_; have HB := n1_; have HK := n2_; clear n1_ n2_ HS_; obtain ⟨hx2, hf2, hs_, hg_⟩ := laws_markLineS.put2 HO_0.out x5_1 C4.out C3.out kb; have HS2 := Aside0.mk hs_; have HG2 := Aside0.mk hg_; clear hs_ hg_; simp only [laws_markLineS.rds _ _ C4.out C3b.out, List.set_set] at HS2) | ((with_reducible refine gate_store (t := 3) (p := 30) rfl ?_); refine store_event (t := 3) (p := 30) (v := ?vo_w10) (w1 := (w9.setCell ⟨go5, (x5_1 : Int).toNat * 4 + 2, none⟩ (.int .i64 kb))) ?hg ?ho ?hn ?hr ?_; (case ho => rfl); (case hg => rfl); (case hn => rfl); (case hr => first | (go_simp; done) | (go_simp; rfl)); intro w10 hw; have HS_ := Aside0.mk (show Kd.S k30 30 w10 w0.heap.size P0_ (.slice (some ⟨go5, 0, none⟩) l0.length cu) _ from by rw [hw]; exact HS2.out); have n1_ := Aside0.mk (show Below w0.heap.size w0 w10 from by rw [hw]; exact below_set HB.out GB5.out); have n2_ := Aside0.mk (Kept.of_grown (S := P0_) (show w9.grownBy w10 (some go5) from by rw [hw]; exact HG2.out) HK.out (fun k_ e_ => by injection e_ with e_; subst e_; exact .inl HP0.out)); clear HB HK HO_0 HS2 HG2 hw hx2 hf2; have HO_0 := HS_; have HB := n1_; have HK := n2_; clear n1_ n2_ HS_; obtain ⟨oki, c, hcl, hM, hcc, hok, hH⟩ := Kd.S_lend HO_0.out z30 x5_1 C4.out C3.out; rw [show List.getD (x0_1.set x5_1.toNat _) x5_1.toNat z30 = _ from laws_markLineS.rds x0_1 x5_1 C4.out C3b.out _] at hM; obtain ⟨vi, rfl, hR⟩ := k30_openM hM; obtain ⟨Ai, ci, rfl⟩ := Kd.R_slice hR; have hx3 := hcc 3 _ rfl; rw [show (k30).sz = 4 from rfl] at hx3; have HH := Aside0.mk hH; have HOK := Aside0.mk hok; have HR := Aside0.mk hR; clear hcl hM hcc hok hH hR) | ((with_reducible refine gate_callee (f := 18) rfl ?_); refine goesL_ (some 39) rfl rfl Try.func18 (by kernel_rfl) rfl #[.slice Ai (rd_T30 x0_1 x5_1).f3.length ci, .int .i64 kc] rfl (by (try simp only [List.map_toArray, List.map_cons, List.map_nil]); first | done | rfl) ?_; (with_reducible refine (laws_markIntS.calls k1 oki (.slice Ai (rd_T30 x0_1 x5_1).f3.length ci) (rd_T30 x0_1 x5_1).f3 kc t1 t2 w0 _ ?side1 ?side2 A5.out).mono ?_); (case side1 => repeat (first | (with_reducible first | exact HB.out | apply below_alloc | apply pw_below_drewN | apply below_drew1) | exact HB.out)); (case side2 => (with_reducible repeat (first | apply Kd.R_alloc | apply Kd.R_drewN | apply Kd.R_drew)); exact HR.out); rintro e w14 ⟨rfl, hy0, hb, hkp⟩; refine ⟨_, rfl, ?_⟩; have n0_ := Aside0.mk (Kd.H_back (Kd.H_kept (by (with_reducible repeat (first | refine Kd.H_alloc ?_ _ | refine Kd.H_drewN ?_ _ | refine Kd.H_drew ?_)); exact HH.out) hkp (fun k_ _ hn_ hs_ => hn_ hs_)) (x' := (⟨x1_1, ka, kb, t2⟩ : S30)) (okp := oki) (k30_mkM _ _ _ (⟨x1_1, ka, kb, t2⟩ : S30) (Kd.R_reok rfl hy0 (fun k_ e_ => HR.out.1 k_ e_))) (fun _ h_ => h_)); have n1_ := Aside0.mk hb; have n2_ := Aside0.mk (Kept.then_ (show Kept w _ P0_ from by repeat (first | (with_reducible first | exact HK.out | apply Kept.alloc | apply Kept.drewN | apply Kept.drew) | exact HK.out)) hkp (fun k_ hk_ => .inl (HOK.out k_ hk_).1)); clear HO_0 HB HK HH HR hy0 hb hkp HOK; have HO_0 := n0_; have HB := n1_; have HK := n2_; clear n0_ n1_ n2_; rw [List.set_set] at HO_0))
          go_roundg k1
          case measure => have := HK1.out; omega
          case rel => exact ⟨_, _, _, rfl, rfl, H', ⟨by have := HK1.out; omega⟩, ⟨by (with_reducible repeat (first | apply Kd.S_alloc | apply Kd.S_drewN | apply Kd.S_drew)); exact HO_0.out⟩, ⟨by repeat (first | (with_reducible first | exact HK.out | apply Kept.alloc | apply Kept.drewN | apply Kept.drew) | exact HK.out)⟩, ⟨by repeat (first | (with_reducible first | exact HB.out | apply below_alloc | apply pw_below_drewN | apply below_drew1) | exact HB.out)⟩⟩
        · rw [if_neg c4] at H
          cases H
      · rw [if_neg c3] at H
        have c3b0 : decide (x5_1 < (l0.length : Int)) = false := decide_eq_false (by omega)
        clear c3 hln
        simp only [Option.some.injEq, Prod.mk.injEq] at H
        obtain ⟨rfl, rfl⟩ := H
        go_wp2
        go_ret
        exact ⟨by first | rfl | (simp; done) | (simp [*]; done), by (with_reducible repeat (first | apply Kd.S_alloc | apply Kd.S_drewN | apply Kd.S_drew)); exact HO_0.out, by repeat (first | (with_reducible first | exact HB.out | apply below_alloc | apply pw_below_drewN | apply below_drew1) | exact HB.out), by repeat (first | (with_reducible first | exact HK.out | apply Kept.alloc | apply Kept.drewN | apply Kept.drew) | exact HK.out)⟩

/-! ### laws_FnExactTimesOfLines: function 5 -/
def laws_FnExactTimesOfLines.f (k : Nat) (l0 : List (S24)) (l1 : List Int) : Option (Bool) :=
  if (l1.length : Int) > 1048576 then some true else (laws_szLineS.f k l0 1048576).bind fun s1 => if s1 < 0 then (some true) else (laws_toLineS.f k l0).bind fun x1 => (laws_toIntS.f k l1).bind fun y1 => (spec_TimesOfLines.f k x1 y1).bind fun w1 => (impl_TimesOfLines.f k x1 y1).bind fun g1 => if g1 = w1 then (laws_eqIntS.f k w1.1 w1.1).bind fun t1 => if t1 = true then (laws_eqLineS.f k x1 x1).bind fun t2 => if t2 = true then (laws_eqIntS.f k y1 y1).bind fun t3 => if t3 = true then (laws_markLineS.f k x1 1).bind fun m1 => (laws_markIntS.f k y1 m1.1).bind fun m2 => if 0 ≤ m2.1 then (laws_markIntS.f k w1.1 1).bind fun m3 => if 0 ≤ m3.1 then (laws_heldIntS.f k m3.2 1).bind fun h2 => if h2 = m3.1 then some true else none else none else none else none else none else none else none
set_option maxHeartbeats 8000000 in
set_option maxRecDepth 100000 in
theorem laws_FnExactTimesOfLines.calls (k : Nat) (A0 : Option Addr) (c0 : Nat) (l0 : List (S24)) (A1 : Option Addr) (c1 : Nat) (l1 : List Int) (r : Bool) (w : World) (hr0 : Kd.C k24 w A0 l0.length l0) (hc0 : l0.length ≤ c0) (hr1 : Kd.C (Kd.int .i64) w A1 l1.length l1) (hc1 : l1.length ≤ c1) (h : laws_FnExactTimesOfLines.f k l0 l1 = some r) :
    Calls Try.prog 5 #[.slice A0 l0.length c0, .slice A1 l1.length c1] w fun e w' => e = .returned (.bool r) ∧ Below w.heap.size w w' := by
  have HR0 := Aside0.mk hr0
  have HC0 := Aside0.mk hc0
  have HR1 := Aside0.mk hr1
  have HC1 := Aside0.mk hc1
  clear hr0 hc0 hr1 hc1
  have HB := Aside0.mk (Below.refl w.heap.size w)
  unfold laws_FnExactTimesOfLines.f at h
  by_cases c0_ : (l1.length : Int) > 1048576
  · rw [if_pos c0_] at h
    obtain rfl := Option.some.inj h
    have b0 : decide ((l1.length : Int) > 1048576) = true := decide_eq_true c0_
    clear c0_ h
    go_enter Try.func5, Try.ntmps5
    go_wp2
    go_ret
    exact ⟨by first | rfl | (simp; done) | (simp [*]; done), by repeat (first | (with_reducible first | exact HB.out | apply below_alloc | apply pw_below_drewN | apply below_drew1) | exact HB.out)⟩
  rw [if_neg c0_] at h
  have b0 : decide ((l1.length : Int) > 1048576) = false := decide_eq_false c0_
  clear c0_
  obtain ⟨s1, F1, h⟩ := Option.bind_eq_some_iff.mp h
  (try dsimp only at h)
  replace F1 := Aside0.mk F1
  by_cases cs_ : s1 < 0
  · rw [if_pos cs_] at h
    obtain rfl := Option.some.inj h
    have b1 : decide (s1 < 0) = true := decide_eq_true cs_
    clear cs_ h
    go_enter Try.func5, Try.ntmps5
    go_wp2_with (first | ((with_reducible refine gate_callee (f := 20) rfl ?_); refine goesL_ (some 22) rfl rfl Try.func20 (by kernel_rfl) rfl #[.slice A0 l0.length c0, .int .i64 1048576] rfl (by (try simp only [List.map_toArray, List.map_cons, List.map_nil]); first | done | rfl | (simp only [List.length_drop, List.length_take]; rfl)) ?_; (with_reducible refine (laws_szLineS.calls k _ _ l0 1048576 s1 _ ?side1 ?side2 F1.out).mono ?_); (case side1 => repeat (first | exact (Kd.C_below HR0.out HB.out) | (with_reducible refine Kd.C_alloc ?_ _) | (with_reducible refine Kd.C_drewN ?_ _) | (with_reducible refine Kd.C_drew ?_))); (case side2 => exact HC0.out); rintro e W1_ ⟨rfl, hb⟩; refine ⟨_, rfl, ?_⟩; have hup := Go.Proofs.Ytoehcikfjipcaaa.XWalk.upB (wp := w) hb (by repeat (first | (with_reducible first | exact Below.refl _ _ | apply below_alloc | apply pw_below_drewN | apply below_drew1) | exact Below.refl _ _)); have nb_ := Aside0.mk (below_step (by repeat (first | (with_reducible first | exact HB.out | apply below_alloc | apply pw_below_drewN | apply below_drew1) | exact HB.out)) hb); clear HB; have HB := nb_; clear nb_; clear hb hup))
    go_ret
    exact ⟨by first | rfl | (simp; done) | (simp [*]; done), by repeat (first | (with_reducible first | exact HB.out | apply below_alloc | apply pw_below_drewN | apply below_drew1) | exact HB.out)⟩
  · rw [if_neg cs_] at h
    have b1 : decide (s1 < 0) = false := decide_eq_false cs_
    clear cs_
    obtain ⟨x1, F2, h⟩ := Option.bind_eq_some_iff.mp h
    (try dsimp only at h)
    obtain ⟨y1, F3, h⟩ := Option.bind_eq_some_iff.mp h
    (try dsimp only at h)
    obtain ⟨⟨w1, q1⟩, F4, h⟩ := Option.bind_eq_some_iff.mp h
    (try dsimp only at h)
    obtain ⟨⟨g1, q2⟩, F5, h⟩ := Option.bind_eq_some_iff.mp h
    (try dsimp only at h)
    by_cases c_ : (g1, q2) = (w1, q1)
    rotate_left
    · rw [if_neg c_] at h
      cases h
    rw [if_pos c_] at h
    rw [c_] at F5
    clear c_
    obtain ⟨t1, F6, h⟩ := Option.bind_eq_some_iff.mp h
    (try dsimp only at h)
    by_cases c_ : t1 = true
    rotate_left
    · rw [if_neg c_] at h
      cases h
    rw [if_pos c_] at h
    subst c_
    obtain ⟨t2, F7, h⟩ := Option.bind_eq_some_iff.mp h
    (try dsimp only at h)
    by_cases c_ : t2 = true
    rotate_left
    · rw [if_neg c_] at h
      cases h
    rw [if_pos c_] at h
    subst c_
    obtain ⟨t3, F8, h⟩ := Option.bind_eq_some_iff.mp h
    (try dsimp only at h)
    by_cases c_ : t3 = true
    rotate_left
    · rw [if_neg c_] at h
      cases h
    rw [if_pos c_] at h
    subst c_
    obtain ⟨⟨m1, z1⟩, F9, h⟩ := Option.bind_eq_some_iff.mp h
    (try dsimp only at h)
    obtain ⟨⟨m2, z2⟩, F10, h⟩ := Option.bind_eq_some_iff.mp h
    (try dsimp only at h)
    by_cases c_ : 0 ≤ m2
    rotate_left
    · rw [if_neg c_] at h
      cases h
    rw [if_pos c_] at h
    have b7 : decide (m2 < 0) = false := decide_eq_false (by omega)
    clear c_
    obtain ⟨⟨m3, r3⟩, F11, h⟩ := Option.bind_eq_some_iff.mp h
    (try dsimp only at h)
    by_cases c_ : 0 ≤ m3
    rotate_left
    · rw [if_neg c_] at h
      cases h
    rw [if_pos c_] at h
    have b8 : decide (m3 < 0) = false := decide_eq_false (by omega)
    clear c_
    obtain ⟨h2, F12, h⟩ := Option.bind_eq_some_iff.mp h
    (try dsimp only at h)
    by_cases c_ : h2 = m3
    rotate_left
    · rw [if_neg c_] at h
      cases h
    rw [if_pos c_] at h
    rw [c_] at F12
    clear c_
    obtain rfl := Option.some.inj h
    clear h
    have hq : (q1 != q1) = false := bne_self_eq_false q1
    replace F2 := Aside0.mk F2
    replace F3 := Aside0.mk F3
    replace F4 := Aside0.mk F4
    replace F5 := Aside0.mk F5
    replace F6 := Aside0.mk F6
    replace F7 := Aside0.mk F7
    replace F8 := Aside0.mk F8
    replace F9 := Aside0.mk F9
    replace F10 := Aside0.mk F10
    replace F11 := Aside0.mk F11
    replace F12 := Aside0.mk F12
    go_enter Try.func5, Try.ntmps5
    go_wp2_with (first | ((with_reducible refine gate_callee (f := 20) rfl ?_); refine goesL_ (some 22) rfl rfl Try.func20 (by kernel_rfl) rfl #[.slice A0 l0.length c0, .int .i64 1048576] rfl (by (try simp only [List.map_toArray, List.map_cons, List.map_nil]); first | done | rfl | (simp only [List.length_drop, List.length_take]; rfl)) ?_; (with_reducible refine (laws_szLineS.calls k _ _ l0 1048576 s1 _ ?side1 ?side2 F1.out).mono ?_); (case side1 => repeat (first | exact (Kd.C_below HR0.out HB.out) | (with_reducible refine Kd.C_alloc ?_ _) | (with_reducible refine Kd.C_drewN ?_ _) | (with_reducible refine Kd.C_drew ?_))); (case side2 => exact HC0.out); rintro e W1_ ⟨rfl, hb⟩; refine ⟨_, rfl, ?_⟩; have hup := Go.Proofs.Ytoehcikfjipcaaa.XWalk.upB (wp := w) hb (by repeat (first | (with_reducible first | exact Below.refl _ _ | apply below_alloc | apply pw_below_drewN | apply below_drew1) | exact Below.refl _ _)); have nb_ := Aside0.mk (below_step (by repeat (first | (with_reducible first | exact HB.out | apply below_alloc | apply pw_below_drewN | apply below_drew1) | exact HB.out)) hb); clear HB; have HB := nb_; clear nb_; clear hb hup) | ((with_reducible refine gate_callee (f := 22) rfl ?_); refine goesL_ (some 27) rfl rfl Try.func22 (by kernel_rfl) rfl #[.slice A0 l0.length c0] rfl (by (try simp only [List.map_toArray, List.map_cons, List.map_nil]); first | done | rfl | (simp only [List.length_drop, List.length_take]; rfl)) ?_; (with_reducible refine (laws_toLineS.calls k _ _ l0 x1 _ ?side1 ?side2 F2.out).mono ?_); (case side1 => repeat (first | exact (Kd.C_below HR0.out HB.out) | (with_reducible refine Kd.C_alloc ?_ _) | (with_reducible refine Kd.C_drewN ?_ _) | (with_reducible refine Kd.C_drew ?_))); (case side2 => exact HC0.out); rintro e W2_ ⟨v2, rfl, ho0, hb⟩; refine ⟨_, rfl, ?_⟩; have hup := Go.Proofs.Ytoehcikfjipcaaa.XWalk.upB (wp := W1_) hb (by repeat (first | (with_reducible first | exact Below.refl _ _ | apply below_alloc | apply pw_below_drewN | apply below_drew1) | exact Below.refl _ _)); obtain ⟨Axa, cxa, rfl⟩ := Kd.S_slice ho0; obtain ⟨nxa, mxa, en_, em_, hs_⟩ := Go.Proofs.Ytoehcikfjipcaaa.XWalk.bornS (w := w) hb ho0 (below_size (by repeat (first | (with_reducible first | exact HB.out | apply below_alloc | apply pw_below_drewN | apply below_drew1) | exact HB.out))); have hz_a := Aside0.mk (show mxa ≤ W2_.heap.size from by rw [em_]; exact Nat.le_refl _); have HOxa := Aside0.mk hs_; clear en_ em_ hs_ ho0; have nb_ := Aside0.mk (below_step (by repeat (first | (with_reducible first | exact HB.out | apply below_alloc | apply pw_below_drewN | apply below_drew1) | exact HB.out)) hb); clear HB; have HB := nb_; clear nb_; clear hb hup) | ((with_reducible refine gate_callee (f := 23) rfl ?_); refine goesL_ (some 29) rfl rfl Try.func23 (by kernel_rfl) rfl #[.slice A1 l1.length c1] rfl (by (try simp only [List.map_toArray, List.map_cons, List.map_nil]); first | done | rfl | (simp only [List.length_drop, List.length_take]; rfl)) ?_; (with_reducible refine (laws_toIntS.calls k _ _ l1 y1 _ ?side1 ?side2 F3.out).mono ?_); (case side1 => repeat (first | exact (Kd.C_below HR1.out HB.out) | (with_reducible refine Kd.C_alloc ?_ _) | (with_reducible refine Kd.C_drewN ?_ _) | (with_reducible refine Kd.C_drew ?_))); (case side2 => exact HC1.out); rintro e W3_ ⟨v3, rfl, ho0, hb⟩; refine ⟨_, rfl, ?_⟩; have hup := Go.Proofs.Ytoehcikfjipcaaa.XWalk.upB (wp := W2_) hb (by repeat (first | (with_reducible first | exact Below.refl _ _ | apply below_alloc | apply pw_below_drewN | apply below_drew1) | exact Below.refl _ _)); obtain ⟨Axb, cxb, rfl⟩ := Kd.R_slice ho0; obtain ⟨nxb, mxb, en_, em_, hs_⟩ := Go.Proofs.Ytoehcikfjipcaaa.XWalk.bornR (w := w) hb ho0 (below_size (by repeat (first | (with_reducible first | exact HB.out | apply below_alloc | apply pw_below_drewN | apply below_drew1) | exact HB.out))); have ord_a_b := Aside0.mk (show mxa ≤ nxb from by rw [en_]; exact Nat.le_trans hz_a.out hup.1); have hz_b := Aside0.mk (show mxb ≤ W3_.heap.size from by rw [em_]; exact Nat.le_refl _); have HOxb := Aside0.mk hs_; clear en_ em_ hs_ ho0; have n0_ := Aside0.mk (Kd.S_below (by (with_reducible repeat (first | apply Kd.S_alloc | apply Kd.S_drewN | apply Kd.S_drew)); exact HOxa.out) hb); have n1_ := Aside0.mk (Nat.le_trans hz_a.out (Nat.le_trans hup.1 hup.2)); have nb_ := Aside0.mk (below_step (by repeat (first | (with_reducible first | exact HB.out | apply below_alloc | apply pw_below_drewN | apply below_drew1) | exact HB.out)) hb); clear HOxa hz_a HB; have HOxa := n0_; have hz_a := n1_; have HB := nb_; clear n0_ n1_ nb_; clear hb hup) | ((with_reducible refine gate_callee (f := 26) rfl ?_); refine goesL_ (some 30) rfl rfl Try.func26 (by kernel_rfl) rfl #[.slice Axa x1.length cxa, .slice Axb y1.length cxb] rfl (by (try simp only [List.map_toArray, List.map_cons, List.map_nil]); first | done | rfl | (simp only [List.length_drop, List.length_take]; rfl)) ?_; (with_reducible refine (spec_TimesOfLines.calls k _ _ x1 _ _ y1 w1 q1 _ ?side1 ?side2 ?side3 ?side4 F4.out).mono ?_); (case side1 => repeat (first | exact (Kd.S_reads' HOxa.out).2.2 | (with_reducible refine Kd.C_alloc ?_ _) | (with_reducible refine Kd.C_drewN ?_ _) | (with_reducible refine Kd.C_drew ?_))); (case side2 => exact (Kd.S_reads' HOxa.out).2.1); (case side3 => repeat (first | exact (Kd.R_reads' HOxb.out).2.2 | (with_reducible refine Kd.C_alloc ?_ _) | (with_reducible refine Kd.C_drewN ?_ _) | (with_reducible refine Kd.C_drew ?_))); (case side4 => exact (Kd.R_reads' HOxb.out).2.1); rintro e W4_ ⟨v4, rfl, ho0, hb⟩; refine ⟨_, rfl, ?_⟩; have hup := Go.Proofs.Ytoehcikfjipcaaa.XWalk.upB (wp := W3_) hb (by repeat (first | (with_reducible first | exact Below.refl _ _ | apply below_alloc | apply pw_below_drewN | apply below_drew1) | exact Below.refl _ _)); obtain ⟨Axw, cxw, rfl⟩ := Kd.R_slice ho0; obtain ⟨nxw, mxw, en_, em_, hs_⟩ := Go.Proofs.Ytoehcikfjipcaaa.XWalk.bornR (w := w) hb ho0 (below_size (by repeat (first | (with_reducible first | exact HB.out | apply below_alloc | apply pw_below_drewN | apply below_drew1) | exact HB.out))); have ord_a_w := Aside0.mk (show mxa ≤ nxw from by rw [en_]; exact Nat.le_trans hz_a.out hup.1); have ord_b_w := Aside0.mk (show mxb ≤ nxw from by rw [en_]; exact Nat.le_trans hz_b.out hup.1); have hz_w := Aside0.mk (show mxw ≤ W4_.heap.size from by rw [em_]; exact Nat.le_refl _); have HOxw := Aside0.mk hs_; clear en_ em_ hs_ ho0; have n0_ := Aside0.mk (Kd.S_below (by (with_reducible repeat (first | apply Kd.S_alloc | apply Kd.S_drewN | apply Kd.S_drew)); exact HOxa.out) hb); have n1_ := Aside0.mk (Nat.le_trans hz_a.out (Nat.le_trans hup.1 hup.2)); have n2_ := Aside0.mk (Kd.R_below (by (with_reducible repeat (first | apply Kd.R_alloc | apply Kd.R_drewN | apply Kd.R_drew)); exact HOxb.out) hb); have n3_ := Aside0.mk (Nat.le_trans hz_b.out (Nat.le_trans hup.1 hup.2)); have nb_ := Aside0.mk (below_step (by repeat (first | (with_reducible first | exact HB.out | apply below_alloc | apply pw_below_drewN | apply below_drew1) | exact HB.out)) hb); clear HOxa hz_a HOxb hz_b HB; have HOxa := n0_; have hz_a := n1_; have HOxb := n2_; have hz_b := n3_; have HB := nb_; clear n0_ n1_ n2_ n3_ nb_; clear hb hup; clear HOxa hz_a; clear HOxb hz_b) | ((with_reducible refine gate_callee (f := 22) rfl ?_); refine goesL_ (some 34) rfl rfl Try.func22 (by kernel_rfl) rfl #[.slice A0 l0.length c0] rfl (by (try simp only [List.map_toArray, List.map_cons, List.map_nil]); first | done | rfl | (simp only [List.length_drop, List.length_take]; rfl)) ?_; (with_reducible refine (laws_toLineS.calls k _ _ l0 x1 _ ?side1 ?side2 F2.out).mono ?_); (case side1 => repeat (first | exact (Kd.C_below HR0.out HB.out) | (with_reducible refine Kd.C_alloc ?_ _) | (with_reducible refine Kd.C_drewN ?_ _) | (with_reducible refine Kd.C_drew ?_))); (case side2 => exact HC0.out); rintro e W5_ ⟨v5, rfl, ho0, hb⟩; refine ⟨_, rfl, ?_⟩; have hup := Go.Proofs.Ytoehcikfjipcaaa.XWalk.upB (wp := W4_) hb (by repeat (first | (with_reducible first | exact Below.refl _ _ | apply below_alloc | apply pw_below_drewN | apply below_drew1) | exact Below.refl _ _)); obtain ⟨Axc, cxc, rfl⟩ := Kd.S_slice ho0; obtain ⟨nxc, mxc, en_, em_, hs_⟩ := Go.Proofs.Ytoehcikfjipcaaa.XWalk.bornS (w := w) hb ho0 (below_size (by repeat (first | (with_reducible first | exact HB.out | apply below_alloc | apply pw_below_drewN | apply below_drew1) | exact HB.out))); have ord_w_c := Aside0.mk (show mxw ≤ nxc from by rw [en_]; exact Nat.le_trans hz_w.out hup.1); have hz_c := Aside0.mk (show mxc ≤ W5_.heap.size from by rw [em_]; exact Nat.le_refl _); have HOxc := Aside0.mk hs_; clear en_ em_ hs_ ho0; have n0_ := Aside0.mk (Kd.R_below (by (with_reducible repeat (first | apply Kd.R_alloc | apply Kd.R_drewN | apply Kd.R_drew)); exact HOxw.out) hb); have n1_ := Aside0.mk (Nat.le_trans hz_w.out (Nat.le_trans hup.1 hup.2)); have nb_ := Aside0.mk (below_step (by repeat (first | (with_reducible first | exact HB.out | apply below_alloc | apply pw_below_drewN | apply below_drew1) | exact HB.out)) hb); clear HOxw hz_w HB; have HOxw := n0_; have hz_w := n1_; have HB := nb_; clear n0_ n1_ nb_; clear hb hup) | ((with_reducible refine gate_callee (f := 23) rfl ?_); refine goesL_ (some 36) rfl rfl Try.func23 (by kernel_rfl) rfl #[.slice A1 l1.length c1] rfl (by (try simp only [List.map_toArray, List.map_cons, List.map_nil]); first | done | rfl | (simp only [List.length_drop, List.length_take]; rfl)) ?_; (with_reducible refine (laws_toIntS.calls k _ _ l1 y1 _ ?side1 ?side2 F3.out).mono ?_); (case side1 => repeat (first | exact (Kd.C_below HR1.out HB.out) | (with_reducible refine Kd.C_alloc ?_ _) | (with_reducible refine Kd.C_drewN ?_ _) | (with_reducible refine Kd.C_drew ?_))); (case side2 => exact HC1.out); rintro e W6_ ⟨v6, rfl, ho0, hb⟩; refine ⟨_, rfl, ?_⟩; have hup := Go.Proofs.Ytoehcikfjipcaaa.XWalk.upB (wp := W5_) hb (by repeat (first | (with_reducible first | exact Below.refl _ _ | apply below_alloc | apply pw_below_drewN | apply below_drew1) | exact Below.refl _ _)); obtain ⟨Axd, cxd, rfl⟩ := Kd.R_slice ho0; obtain ⟨nxd, mxd, en_, em_, hs_⟩ := Go.Proofs.Ytoehcikfjipcaaa.XWalk.bornR (w := w) hb ho0 (below_size (by repeat (first | (with_reducible first | exact HB.out | apply below_alloc | apply pw_below_drewN | apply below_drew1) | exact HB.out))); have ord_w_d := Aside0.mk (show mxw ≤ nxd from by rw [en_]; exact Nat.le_trans hz_w.out hup.1); have ord_c_d := Aside0.mk (show mxc ≤ nxd from by rw [en_]; exact Nat.le_trans hz_c.out hup.1); have hz_d := Aside0.mk (show mxd ≤ W6_.heap.size from by rw [em_]; exact Nat.le_refl _); have HOxd := Aside0.mk hs_; clear en_ em_ hs_ ho0; have n0_ := Aside0.mk (Kd.R_below (by (with_reducible repeat (first | apply Kd.R_alloc | apply Kd.R_drewN | apply Kd.R_drew)); exact HOxw.out) hb); have n1_ := Aside0.mk (Nat.le_trans hz_w.out (Nat.le_trans hup.1 hup.2)); have n2_ := Aside0.mk (Kd.S_below (by (with_reducible repeat (first | apply Kd.S_alloc | apply Kd.S_drewN | apply Kd.S_drew)); exact HOxc.out) hb); have n3_ := Aside0.mk (Nat.le_trans hz_c.out (Nat.le_trans hup.1 hup.2)); have nb_ := Aside0.mk (below_step (by repeat (first | (with_reducible first | exact HB.out | apply below_alloc | apply pw_below_drewN | apply below_drew1) | exact HB.out)) hb); clear HOxw hz_w HOxc hz_c HB; have HOxw := n0_; have hz_w := n1_; have HOxc := n2_; have hz_c := n3_; have HB := nb_; clear n0_ n1_ n2_ n3_ nb_; clear hb hup) | ((with_reducible refine gate_callee (f := 27) rfl ?_); refine goesL_ (some 40) rfl rfl Try.func27 (by kernel_rfl) rfl #[.slice Axc x1.length cxc, .slice Axd y1.length cxd] rfl (by (try simp only [List.map_toArray, List.map_cons, List.map_nil]); first | done | rfl | (simp only [List.length_drop, List.length_take]; rfl)) ?_; (with_reducible refine (impl_TimesOfLines.calls k _ _ x1 _ _ y1 w1 q1 _ ?side1 ?side2 ?side3 ?side4 F5.out).mono ?_); (case side1 => repeat (first | exact (Kd.S_reads' HOxc.out).2.2 | (with_reducible refine Kd.C_alloc ?_ _) | (with_reducible refine Kd.C_drewN ?_ _) | (with_reducible refine Kd.C_drew ?_))); (case side2 => exact (Kd.S_reads' HOxc.out).2.1); (case side3 => repeat (first | exact (Kd.R_reads' HOxd.out).2.2 | (with_reducible refine Kd.C_alloc ?_ _) | (with_reducible refine Kd.C_drewN ?_ _) | (with_reducible refine Kd.C_drew ?_))); (case side4 => exact (Kd.R_reads' HOxd.out).2.1); rintro e W7_ ⟨v7, rfl, ho0, hb⟩; refine ⟨_, rfl, ?_⟩; have hup := Go.Proofs.Ytoehcikfjipcaaa.XWalk.upB (wp := W6_) hb (by repeat (first | (with_reducible first | exact Below.refl _ _ | apply below_alloc | apply pw_below_drewN | apply below_drew1) | exact Below.refl _ _)); obtain ⟨Axg, cxg, rfl⟩ := Kd.R_slice ho0; obtain ⟨nxg, mxg, en_, em_, hs_⟩ := Go.Proofs.Ytoehcikfjipcaaa.XWalk.bornR (w := w) hb ho0 (below_size (by repeat (first | (with_reducible first | exact HB.out | apply below_alloc | apply pw_below_drewN | apply below_drew1) | exact HB.out))); have ord_w_g := Aside0.mk (show mxw ≤ nxg from by rw [en_]; exact Nat.le_trans hz_w.out hup.1); have ord_c_g := Aside0.mk (show mxc ≤ nxg from by rw [en_]; exact Nat.le_trans hz_c.out hup.1); have ord_d_g := Aside0.mk (show mxd ≤ nxg from by rw [en_]; exact Nat.le_trans hz_d.out hup.1); have hz_g := Aside0.mk (show mxg ≤ W7_.heap.size from by rw [em_]; exact Nat.le_refl _); have HOxg := Aside0.mk hs_; clear en_ em_ hs_ ho0; have n0_ := Aside0.mk (Kd.R_below (by (with_reducible repeat (first | apply Kd.R_alloc | apply Kd.R_drewN | apply Kd.R_drew)); exact HOxw.out) hb); have n1_ := Aside0.mk (Nat.le_trans hz_w.out (Nat.le_trans hup.1 hup.2)); have n2_ := Aside0.mk (Kd.S_below (by (with_reducible repeat (first | apply Kd.S_alloc | apply Kd.S_drewN | apply Kd.S_drew)); exact HOxc.out) hb); have n3_ := Aside0.mk (Nat.le_trans hz_c.out (Nat.le_trans hup.1 hup.2)); have n4_ := Aside0.mk (Kd.R_below (by (with_reducible repeat (first | apply Kd.R_alloc | apply Kd.R_drewN | apply Kd.R_drew)); exact HOxd.out) hb); have n5_ := Aside0.mk (Nat.le_trans hz_d.out (Nat.le_trans hup.1 hup.2)); have nb_ := Aside0.mk (below_step (by repeat (first | (with_reducible first | exact HB.out | apply below_alloc | apply pw_below_drewN | apply below_drew1) | exact HB.out)) hb); clear HOxw hz_w HOxc hz_c HOxd hz_d HB; have HOxw := n0_; have hz_w := n1_; have HOxc := n2_; have hz_c := n3_; have HOxd := n4_; have hz_d := n5_; have HB := nb_; clear n0_ n1_ n2_ n3_ n4_ n5_ nb_; clear hb hup) | ((with_reducible refine gate_callee (f := 13) rfl ?_); refine goesL_ (some 45) rfl rfl Try.func13 (by kernel_rfl) rfl #[.slice Axg w1.length cxg, .slice Axw w1.length cxw] rfl (by (try simp only [List.map_toArray, List.map_cons, List.map_nil]); first | done | rfl | (simp only [List.length_drop, List.length_take]; rfl)) ?_; (with_reducible refine (laws_eqIntS.calls k _ _ w1 _ _ w1 true _ ?side1 ?side2 ?side3 ?side4 F6.out).mono ?_); (case side1 => repeat (first | exact (Kd.R_reads' HOxg.out).2.2 | (with_reducible refine Kd.C_alloc ?_ _) | (with_reducible refine Kd.C_drewN ?_ _) | (with_reducible refine Kd.C_drew ?_))); (case side2 => exact (Kd.R_reads' HOxg.out).2.1); (case side3 => repeat (first | exact (Kd.R_reads' HOxw.out).2.2 | (with_reducible refine Kd.C_alloc ?_ _) | (with_reducible refine Kd.C_drewN ?_ _) | (with_reducible refine Kd.C_drew ?_))); (case side4 => exact (Kd.R_reads' HOxw.out).2.1); rintro e w' ⟨rfl, ⟨nd, rfl⟩⟩; refine ⟨_, rfl, ?_⟩) | ((with_reducible refine gate_callee (f := 22) rfl ?_); refine goesL_ (some 54) rfl rfl Try.func22 (by kernel_rfl) rfl #[.slice A0 l0.length c0] rfl (by (try simp only [List.map_toArray, List.map_cons, List.map_nil]); first | done | rfl | (simp only [List.length_drop, List.length_take]; rfl)) ?_; (with_reducible refine (laws_toLineS.calls k _ _ l0 x1 _ ?side1 ?side2 F2.out).mono ?_); (case side1 => repeat (first | exact (Kd.C_below HR0.out HB.out) | (with_reducible refine Kd.C_alloc ?_ _) | (with_reducible refine Kd.C_drewN ?_ _) | (with_reducible refine Kd.C_drew ?_))); (case side2 => exact HC0.out); rintro e W8_ ⟨v8, rfl, ho0, hb⟩; refine ⟨_, rfl, ?_⟩; have hup := Go.Proofs.Ytoehcikfjipcaaa.XWalk.upB (wp := W7_) hb (by repeat (first | (with_reducible first | exact Below.refl _ _ | apply below_alloc | apply pw_below_drewN | apply below_drew1) | exact Below.refl _ _)); obtain ⟨Axe, cxe, rfl⟩ := Kd.S_slice ho0; obtain ⟨nxe, mxe, en_, em_, hs_⟩ := Go.Proofs.Ytoehcikfjipcaaa.XWalk.bornS (w := w) hb ho0 (below_size (by repeat (first | (with_reducible first | exact HB.out | apply below_alloc | apply pw_below_drewN | apply below_drew1) | exact HB.out))); have ord_w_e := Aside0.mk (show mxw ≤ nxe from by rw [en_]; exact Nat.le_trans hz_w.out hup.1); have ord_c_e := Aside0.mk (show mxc ≤ nxe from by rw [en_]; exact Nat.le_trans hz_c.out hup.1); have ord_d_e := Aside0.mk (show mxd ≤ nxe from by rw [en_]; exact Nat.le_trans hz_d.out hup.1); have ord_g_e := Aside0.mk (show mxg ≤ nxe from by rw [en_]; exact Nat.le_trans hz_g.out hup.1); have hz_e := Aside0.mk (show mxe ≤ W8_.heap.size from by rw [em_]; exact Nat.le_refl _); have HOxe := Aside0.mk hs_; clear en_ em_ hs_ ho0; have n0_ := Aside0.mk (Kd.R_below (by (with_reducible repeat (first | apply Kd.R_alloc | apply Kd.R_drewN | apply Kd.R_drew)); exact HOxw.out) hb); have n1_ := Aside0.mk (Nat.le_trans hz_w.out (Nat.le_trans hup.1 hup.2)); have n2_ := Aside0.mk (Kd.S_below (by (with_reducible repeat (first | apply Kd.S_alloc | apply Kd.S_drewN | apply Kd.S_drew)); exact HOxc.out) hb); have n3_ := Aside0.mk (Nat.le_trans hz_c.out (Nat.le_trans hup.1 hup.2)); have n4_ := Aside0.mk (Kd.R_below (by (with_reducible repeat (first | apply Kd.R_alloc | apply Kd.R_drewN | apply Kd.R_drew)); exact HOxd.out) hb); have n5_ := Aside0.mk (Nat.le_trans hz_d.out (Nat.le_trans hup.1 hup.2)); have n6_ := Aside0.mk (Kd.R_below (by (with_reducible repeat (first | apply Kd.R_alloc | apply Kd.R_drewN | apply Kd.R_drew)); exact HOxg.out) hb); have n7_ := Aside0.mk (Nat.le_trans hz_g.out (Nat.le_trans hup.1 hup.2)); have nb_ := Aside0.mk (below_step (by repeat (first | (with_reducible first | exact HB.out | apply below_alloc | apply pw_below_drewN | apply below_drew1) | exact HB.out)) hb); clear HOxw hz_w HOxc hz_c HOxd hz_d HOxg hz_g HB; have HOxw := n0_; have hz_w := n1_; have HOxc := n2_; have hz_c := n3_; have HOxd := n4_; have hz_d := n5_; have HOxg := n6_; have hz_g := n7_; have HB := nb_; clear n0_ n1_ n2_ n3_ n4_ n5_ n6_ n7_ nb_; clear hb hup) | ((with_reducible refine gate_callee (f := 25) rfl ?_); refine goesL_ (some 55) rfl rfl Try.func25 (by kernel_rfl) rfl #[.slice Axc x1.length cxc, .slice Axe x1.length cxe] rfl (by (try simp only [List.map_toArray, List.map_cons, List.map_nil]); first | done | rfl | (simp only [List.length_drop, List.length_take]; rfl)) ?_; (with_reducible refine (laws_eqLineS.calls k _ _ x1 _ _ x1 true _ ?side1 ?side2 ?side3 ?side4 F7.out).mono ?_); (case side1 => repeat (first | exact (Kd.S_reads' HOxc.out).2.2 | (with_reducible refine Kd.C_alloc ?_ _) | (with_reducible refine Kd.C_drewN ?_ _) | (with_reducible refine Kd.C_drew ?_))); (case side2 => exact (Kd.S_reads' HOxc.out).2.1); (case side3 => repeat (first | exact (Kd.S_reads' HOxe.out).2.2 | (with_reducible refine Kd.C_alloc ?_ _) | (with_reducible refine Kd.C_drewN ?_ _) | (with_reducible refine Kd.C_drew ?_))); (case side4 => exact (Kd.S_reads' HOxe.out).2.1); rintro e W9_ ⟨rfl, hb⟩; refine ⟨_, rfl, ?_⟩; have hup := Go.Proofs.Ytoehcikfjipcaaa.XWalk.upB (wp := W8_) hb (by repeat (first | (with_reducible first | exact Below.refl _ _ | apply below_alloc | apply pw_below_drewN | apply below_drew1) | exact Below.refl _ _)); have n0_ := Aside0.mk (Kd.R_below (by (with_reducible repeat (first | apply Kd.R_alloc | apply Kd.R_drewN | apply Kd.R_drew)); exact HOxw.out) hb); have n1_ := Aside0.mk (Nat.le_trans hz_w.out (Nat.le_trans hup.1 hup.2)); have n2_ := Aside0.mk (Kd.S_below (by (with_reducible repeat (first | apply Kd.S_alloc | apply Kd.S_drewN | apply Kd.S_drew)); exact HOxc.out) hb); have n3_ := Aside0.mk (Nat.le_trans hz_c.out (Nat.le_trans hup.1 hup.2)); have n4_ := Aside0.mk (Kd.R_below (by (with_reducible repeat (first | apply Kd.R_alloc | apply Kd.R_drewN | apply Kd.R_drew)); exact HOxd.out) hb); have n5_ := Aside0.mk (Nat.le_trans hz_d.out (Nat.le_trans hup.1 hup.2)); have n6_ := Aside0.mk (Kd.R_below (by (with_reducible repeat (first | apply Kd.R_alloc | apply Kd.R_drewN | apply Kd.R_drew)); exact HOxg.out) hb); have n7_ := Aside0.mk (Nat.le_trans hz_g.out (Nat.le_trans hup.1 hup.2)); have n8_ := Aside0.mk (Kd.S_below (by (with_reducible repeat (first | apply Kd.S_alloc | apply Kd.S_drewN | apply Kd.S_drew)); exact HOxe.out) hb); have n9_ := Aside0.mk (Nat.le_trans hz_e.out (Nat.le_trans hup.1 hup.2)); have nb_ := Aside0.mk (below_step (by repeat (first | (with_reducible first | exact HB.out | apply below_alloc | apply pw_below_drewN | apply below_drew1) | exact HB.out)) hb); clear HOxw hz_w HOxc hz_c HOxd hz_d HOxg hz_g HOxe hz_e HB; have HOxw := n0_; have hz_w := n1_; have HOxc := n2_; have hz_c := n3_; have HOxd := n4_; have hz_d := n5_; have HOxg := n6_; have hz_g := n7_; have HOxe := n8_; have hz_e := n9_; have HB := nb_; clear n0_ n1_ n2_ n3_ n4_ n5_ n6_ n7_ n8_ n9_ nb_; clear hb hup) | ((with_reducible refine gate_callee (f := 23) rfl ?_); refine goesL_ (some 59) rfl rfl Try.func23 (by kernel_rfl) rfl #[.slice A1 l1.length c1] rfl (by (try simp only [List.map_toArray, List.map_cons, List.map_nil]); first | done | rfl | (simp only [List.length_drop, List.length_take]; rfl)) ?_; (with_reducible refine (laws_toIntS.calls k _ _ l1 y1 _ ?side1 ?side2 F3.out).mono ?_); (case side1 => repeat (first | exact (Kd.C_below HR1.out HB.out) | (with_reducible refine Kd.C_alloc ?_ _) | (with_reducible refine Kd.C_drewN ?_ _) | (with_reducible refine Kd.C_drew ?_))); (case side2 => exact HC1.out); rintro e W10_ ⟨v10, rfl, ho0, hb⟩; refine ⟨_, rfl, ?_⟩; have hup := Go.Proofs.Ytoehcikfjipcaaa.XWalk.upB (wp := W9_) hb (by repeat (first | (with_reducible first | exact Below.refl _ _ | apply below_alloc | apply pw_below_drewN | apply below_drew1) | exact Below.refl _ _)); obtain ⟨Axf, cxf, rfl⟩ := Kd.R_slice ho0; obtain ⟨nxf, mxf, en_, em_, hs_⟩ := Go.Proofs.Ytoehcikfjipcaaa.XWalk.bornR (w := w) hb ho0 (below_size (by repeat (first | (with_reducible first | exact HB.out | apply below_alloc | apply pw_below_drewN | apply below_drew1) | exact HB.out))); have ord_w_f := Aside0.mk (show mxw ≤ nxf from by rw [en_]; exact Nat.le_trans hz_w.out hup.1); have ord_c_f := Aside0.mk (show mxc ≤ nxf from by rw [en_]; exact Nat.le_trans hz_c.out hup.1); have ord_d_f := Aside0.mk (show mxd ≤ nxf from by rw [en_]; exact Nat.le_trans hz_d.out hup.1); have ord_g_f := Aside0.mk (show mxg ≤ nxf from by rw [en_]; exact Nat.le_trans hz_g.out hup.1); have ord_e_f := Aside0.mk (show mxe ≤ nxf from by rw [en_]; exact Nat.le_trans hz_e.out hup.1); have hz_f := Aside0.mk (show mxf ≤ W10_.heap.size from by rw [em_]; exact Nat.le_refl _); have HOxf := Aside0.mk hs_; clear en_ em_ hs_ ho0; have n0_ := Aside0.mk (Kd.R_below (by (with_reducible repeat (first | apply Kd.R_alloc | apply Kd.R_drewN | apply Kd.R_drew)); exact HOxw.out) hb); have n1_ := Aside0.mk (Nat.le_trans hz_w.out (Nat.le_trans hup.1 hup.2)); have n2_ := Aside0.mk (Kd.S_below (by (with_reducible repeat (first | apply Kd.S_alloc | apply Kd.S_drewN | apply Kd.S_drew)); exact HOxc.out) hb); have n3_ := Aside0.mk (Nat.le_trans hz_c.out (Nat.le_trans hup.1 hup.2)); have n4_ := Aside0.mk (Kd.R_below (by (with_reducible repeat (first | apply Kd.R_alloc | apply Kd.R_drewN | apply Kd.R_drew)); exact HOxd.out) hb); have n5_ := Aside0.mk (Nat.le_trans hz_d.out (Nat.le_trans hup.1 hup.2)); have n6_ := Aside0.mk (Kd.R_below (by (with_reducible repeat (first | apply Kd.R_alloc | apply Kd.R_drewN | apply Kd.R_drew)); exact HOxg.out) hb); have n7_ := Aside0.mk (Nat.le_trans hz_g.out (Nat.le_trans hup.1 hup.2)); have n8_ := Aside0.mk (Kd.S_below (by (with_reducible repeat (first | apply Kd.S_alloc | apply Kd.S_drewN | apply Kd.S_drew)); exact HOxe.out) hb); have n9_ := Aside0.mk (Nat.le_trans hz_e.out (Nat.le_trans hup.1 hup.2)); have nb_ := Aside0.mk (below_step (by repeat (first | (with_reducible first | exact HB.out | apply below_alloc | apply pw_below_drewN | apply below_drew1) | exact HB.out)) hb); clear HOxw hz_w HOxc hz_c HOxd hz_d HOxg hz_g HOxe hz_e HB; have HOxw := n0_; have hz_w := n1_; have HOxc := n2_; have hz_c := n3_; have HOxd := n4_; have hz_d := n5_; have HOxg := n6_; have hz_g := n7_; have HOxe := n8_; have hz_e := n9_; have HB := nb_; clear n0_ n1_ n2_ n3_ n4_ n5_ n6_ n7_ n8_ n9_ nb_; clear hb hup; clear HOxe hz_e) | ((with_reducible refine gate_callee (f := 13) rfl ?_); refine goesL_ (some 60) rfl rfl Try.func13 (by kernel_rfl) rfl #[.slice Axd y1.length cxd, .slice Axf y1.length cxf] rfl (by (try simp only [List.map_toArray, List.map_cons, List.map_nil]); first | done | rfl | (simp only [List.length_drop, List.length_take]; rfl)) ?_; (with_reducible refine (laws_eqIntS.calls k _ _ y1 _ _ y1 true _ ?side1 ?side2 ?side3 ?side4 F8.out).mono ?_); (case side1 => repeat (first | exact (Kd.R_reads' HOxd.out).2.2 | (with_reducible refine Kd.C_alloc ?_ _) | (with_reducible refine Kd.C_drewN ?_ _) | (with_reducible refine Kd.C_drew ?_))); (case side2 => exact (Kd.R_reads' HOxd.out).2.1); (case side3 => repeat (first | exact (Kd.R_reads' HOxf.out).2.2 | (with_reducible refine Kd.C_alloc ?_ _) | (with_reducible refine Kd.C_drewN ?_ _) | (with_reducible refine Kd.C_drew ?_))); (case side4 => exact (Kd.R_reads' HOxf.out).2.1); rintro e w' ⟨rfl, ⟨nd, rfl⟩⟩; refine ⟨_, rfl, ?_⟩) | ((with_reducible refine gate_callee (f := 28) rfl ?_); refine goesL_ (some 64) rfl rfl Try.func28 (by kernel_rfl) rfl #[.slice Axc x1.length cxc, .int .i64 1] rfl (by (try simp only [List.map_toArray, List.map_cons, List.map_nil]); first | done | rfl | (simp only [List.length_drop, List.length_take]; rfl)) ?_; (with_reducible refine (laws_markLineS.calls k (fun k_ => nxc ≤ k_ ∧ k_ < mxc) (.slice Axc x1.length cxc) x1 1 m1 z1 w _ ?side1 ?side2 F9.out).mono ?_); (case side1 => repeat (first | (with_reducible first | exact HB.out | apply below_alloc | apply pw_below_drewN | apply below_drew1) | exact HB.out)); (case side2 => (with_reducible repeat (first | apply Kd.S_alloc | apply Kd.S_drewN | apply Kd.S_drew)); exact HOxc.out); rintro e W11_ ⟨rfl, hy0, hb, hkp⟩; refine ⟨_, rfl, ?_⟩; have hup := Go.Proofs.Ytoehcikfjipcaaa.XWalk.upK (wp := W10_) hkp (by repeat (first | (with_reducible first | exact Below.refl _ _ | apply below_alloc | apply pw_below_drewN | apply below_drew1) | exact Below.refl _ _)); have ny_ := Aside0.mk (hy0); have n0_ := Aside0.mk (Kd.R_kept (by (with_reducible repeat (first | apply Kd.R_alloc | apply Kd.R_drewN | apply Kd.R_drew)); exact HOxw.out) hkp (fun k_ h1_ h2_ => Go.Proofs.Ytoehcikfjipcaaa.XWalk.apart (show nxw ≤ k_ ∧ k_ < mxw from h1_) (show nxc ≤ k_ ∧ k_ < mxc from h2_) (.inl ord_w_c.out))); have n1_ := Aside0.mk (Nat.le_trans hz_w.out (Nat.le_trans hup.1 hup.2)); have n2_ := Aside0.mk (Nat.le_trans hz_c.out (Nat.le_trans hup.1 hup.2)); have n3_ := Aside0.mk (Kd.R_kept (by (with_reducible repeat (first | apply Kd.R_alloc | apply Kd.R_drewN | apply Kd.R_drew)); exact HOxd.out) hkp (fun k_ h1_ h2_ => Go.Proofs.Ytoehcikfjipcaaa.XWalk.apart (show nxd ≤ k_ ∧ k_ < mxd from h1_) (show nxc ≤ k_ ∧ k_ < mxc from h2_) (.inr ord_c_d.out))); have n4_ := Aside0.mk (Nat.le_trans hz_d.out (Nat.le_trans hup.1 hup.2)); have n5_ := Aside0.mk (Kd.R_kept (by (with_reducible repeat (first | apply Kd.R_alloc | apply Kd.R_drewN | apply Kd.R_drew)); exact HOxg.out) hkp (fun k_ h1_ h2_ => Go.Proofs.Ytoehcikfjipcaaa.XWalk.apart (show nxg ≤ k_ ∧ k_ < mxg from h1_) (show nxc ≤ k_ ∧ k_ < mxc from h2_) (.inr ord_c_g.out))); have n6_ := Aside0.mk (Nat.le_trans hz_g.out (Nat.le_trans hup.1 hup.2)); have n7_ := Aside0.mk (Kd.R_kept (by (with_reducible repeat (first | apply Kd.R_alloc | apply Kd.R_drewN | apply Kd.R_drew)); exact HOxf.out) hkp (fun k_ h1_ h2_ => Go.Proofs.Ytoehcikfjipcaaa.XWalk.apart (show nxf ≤ k_ ∧ k_ < mxf from h1_) (show nxc ≤ k_ ∧ k_ < mxc from h2_) (.inr ord_c_f.out))); have n8_ := Aside0.mk (Nat.le_trans hz_f.out (Nat.le_trans hup.1 hup.2)); have nb_ := Aside0.mk hb; clear HOxc HOxw hz_w hz_c HOxd hz_d HOxg hz_g HOxf hz_f HB; have HOxc := ny_; have HOxw := n0_; have hz_w := n1_; have hz_c := n2_; have HOxd := n3_; have hz_d := n4_; have HOxg := n5_; have hz_g := n6_; have HOxf := n7_; have hz_f := n8_; have HB := nb_; clear ny_ n0_ n1_ n2_ n3_ n4_ n5_ n6_ n7_ n8_ nb_; clear hy0 hb hkp hup; clear HOxf hz_f; clear HOxc hz_c) | ((with_reducible refine gate_callee (f := 18) rfl ?_); refine goesL_ (some 67) rfl rfl Try.func18 (by kernel_rfl) rfl #[.slice Axd y1.length cxd, .int .i64 m1] rfl (by (try simp only [List.map_toArray, List.map_cons, List.map_nil]); first | done | rfl | (simp only [List.length_drop, List.length_take]; rfl)) ?_; (with_reducible refine (laws_markIntS.calls k (fun k_ => nxd ≤ k_ ∧ k_ < mxd) (.slice Axd y1.length cxd) y1 m1 m2 z2 w _ ?side1 ?side2 F10.out).mono ?_); (case side1 => repeat (first | (with_reducible first | exact HB.out | apply below_alloc | apply pw_below_drewN | apply below_drew1) | exact HB.out)); (case side2 => (with_reducible repeat (first | apply Kd.R_alloc | apply Kd.R_drewN | apply Kd.R_drew)); exact HOxd.out); rintro e W12_ ⟨rfl, hy0, hb, hkp⟩; refine ⟨_, rfl, ?_⟩; have hup := Go.Proofs.Ytoehcikfjipcaaa.XWalk.upK (wp := W11_) hkp (by repeat (first | (with_reducible first | exact Below.refl _ _ | apply below_alloc | apply pw_below_drewN | apply below_drew1) | exact Below.refl _ _)); have ny_ := Aside0.mk (Kd.R_reok rfl hy0 (fun k_ e_ => HOxd.out.1 k_ e_)); have n0_ := Aside0.mk (Kd.R_kept (by (with_reducible repeat (first | apply Kd.R_alloc | apply Kd.R_drewN | apply Kd.R_drew)); exact HOxw.out) hkp (fun k_ h1_ h2_ => Go.Proofs.Ytoehcikfjipcaaa.XWalk.apart (show nxw ≤ k_ ∧ k_ < mxw from h1_) (show nxd ≤ k_ ∧ k_ < mxd from h2_) (.inl ord_w_d.out))); have n1_ := Aside0.mk (Nat.le_trans hz_w.out (Nat.le_trans hup.1 hup.2)); have n2_ := Aside0.mk (Nat.le_trans hz_d.out (Nat.le_trans hup.1 hup.2)); have n3_ := Aside0.mk (Kd.R_kept (by (with_reducible repeat (first | apply Kd.R_alloc | apply Kd.R_drewN | apply Kd.R_drew)); exact HOxg.out) hkp (fun k_ h1_ h2_ => Go.Proofs.Ytoehcikfjipcaaa.XWalk.apart (show nxg ≤ k_ ∧ k_ < mxg from h1_) (show nxd ≤ k_ ∧ k_ < mxd from h2_) (.inr ord_d_g.out))); have n4_ := Aside0.mk (Nat.le_trans hz_g.out (Nat.le_trans hup.1 hup.2)); have nb_ := Aside0.mk hb; clear HOxd HOxw hz_w hz_d HOxg hz_g HB; have HOxd := ny_; have HOxw := n0_; have hz_w := n1_; have hz_d := n2_; have HOxg := n3_; have hz_g := n4_; have HB := nb_; clear ny_ n0_ n1_ n2_ n3_ n4_ nb_; clear hy0 hb hkp hup; clear HOxd hz_d) | (go_at_call 13; (with_reducible refine (laws_eqIntS.calls k _ _ w1 _ _ w1 true _ ?side1 ?side2 ?side3 ?side4 F6.out).mono ?_); (case side1 => repeat (first | exact (Kd.R_reads' HOxg.out).2.2 | (with_reducible refine Kd.C_alloc ?_ _) | (with_reducible refine Kd.C_drewN ?_ _) | (with_reducible refine Kd.C_drew ?_))); (case side2 => exact (Kd.R_reads' HOxg.out).2.1); (case side3 => repeat (first | exact (Kd.R_reads' HOxw.out).2.2 | (with_reducible refine Kd.C_alloc ?_ _) | (with_reducible refine Kd.C_drewN ?_ _) | (with_reducible refine Kd.C_drew ?_))); (case side4 => exact (Kd.R_reads' HOxw.out).2.1); rintro e w' ⟨rfl, ⟨nd, rfl⟩⟩) | ((with_reducible refine gate_callee (f := 18) rfl ?_); refine goesL_ (some 83) rfl rfl Try.func18 (by kernel_rfl) rfl #[.slice Axg w1.length cxg, .int .i64 1] rfl (by (try simp only [List.map_toArray, List.map_cons, List.map_nil]); first | done | rfl | (simp only [List.length_drop, List.length_take]; rfl)) ?_; (with_reducible refine (laws_markIntS.calls k (fun k_ => nxg ≤ k_ ∧ k_ < mxg) (.slice Axg w1.length cxg) w1 1 m3 r3 w _ ?side1 ?side2 F11.out).mono ?_); (case side1 => repeat (first | (with_reducible first | exact HB.out | apply below_alloc | apply pw_below_drewN | apply below_drew1) | exact HB.out)); (case side2 => (with_reducible repeat (first | apply Kd.R_alloc | apply Kd.R_drewN | apply Kd.R_drew)); exact HOxg.out); rintro e W13_ ⟨rfl, hy0, hb, hkp⟩; refine ⟨_, rfl, ?_⟩; have hup := Go.Proofs.Ytoehcikfjipcaaa.XWalk.upK (wp := W12_) hkp (by repeat (first | (with_reducible first | exact Below.refl _ _ | apply below_alloc | apply pw_below_drewN | apply below_drew1) | exact Below.refl _ _)); have ny_ := Aside0.mk (Kd.R_reok rfl hy0 (fun k_ e_ => HOxg.out.1 k_ e_)); have n0_ := Aside0.mk (Kd.R_kept (by (with_reducible repeat (first | apply Kd.R_alloc | apply Kd.R_drewN | apply Kd.R_drew)); exact HOxw.out) hkp (fun k_ h1_ h2_ => Go.Proofs.Ytoehcikfjipcaaa.XWalk.apart (show nxw ≤ k_ ∧ k_ < mxw from h1_) (show nxg ≤ k_ ∧ k_ < mxg from h2_) (.inl ord_w_g.out))); have n1_ := Aside0.mk (Nat.le_trans hz_w.out (Nat.le_trans hup.1 hup.2)); have n2_ := Aside0.mk (Nat.le_trans hz_g.out (Nat.le_trans hup.1 hup.2)); have nb_ := Aside0.mk hb; clear HOxg HOxw hz_w hz_g HB; have HOxg := ny_; have HOxw := n0_; have hz_w := n1_; have hz_g := n2_; have HB := nb_; clear ny_ n0_ n1_ n2_ nb_; clear hy0 hb hkp hup) | ((with_reducible refine gate_callee (f := 19) rfl ?_); refine goesL_ (some 86) rfl rfl Try.func19 (by kernel_rfl) rfl #[.slice Axg r3.length cxg, .int .i64 1] rfl (by (try simp only [List.map_toArray, List.map_cons, List.map_nil]); first | done | (rw [show r3.length = w1.length from (Kd.R_reads' HOxg.out).1.symm] <;> rfl) | rfl | (simp only [List.length_drop, List.length_take]; rfl)) ?_; (with_reducible refine (laws_heldIntS.calls k _ _ r3 1 m3 _ ?side1 ?side2 F12.out).mono ?_); (case side1 => repeat (first | exact (Kd.R_reads' HOxg.out).2.2 | (with_reducible refine Kd.C_alloc ?_ _) | (with_reducible refine Kd.C_drewN ?_ _) | (with_reducible refine Kd.C_drew ?_))); (case side2 => rw [show r3.length = w1.length from (Kd.R_reads' HOxg.out).1.symm]; exact (Kd.R_reads' HOxg.out).2.1); rintro e w' ⟨rfl, ⟨nd, rfl⟩⟩; refine ⟨_, rfl, ?_⟩) | ((with_reducible refine gate_callee (f := 22) rfl ?_); refine goesL_ (some 94) rfl rfl Try.func22 (by kernel_rfl) rfl #[.slice A0 l0.length c0] rfl (by (try simp only [List.map_toArray, List.map_cons, List.map_nil]); first | done | rfl | (simp only [List.length_drop, List.length_take]; rfl)) ?_; (with_reducible refine (laws_toLineS.calls k _ _ l0 x1 _ ?side1 ?side2 F2.out).mono ?_); (case side1 => repeat (first | exact (Kd.C_below HR0.out HB.out) | (with_reducible refine Kd.C_alloc ?_ _) | (with_reducible refine Kd.C_drewN ?_ _) | (with_reducible refine Kd.C_drew ?_))); (case side2 => exact HC0.out); rintro e W14_ ⟨v14, rfl, ho0, hb⟩; refine ⟨_, rfl, ?_⟩; have hup := Go.Proofs.Ytoehcikfjipcaaa.XWalk.upB (wp := W13_) hb (by repeat (first | (with_reducible first | exact Below.refl _ _ | apply below_alloc | apply pw_below_drewN | apply below_drew1) | exact Below.refl _ _)); obtain ⟨Axh, cxh, rfl⟩ := Kd.S_slice ho0; obtain ⟨nxh, mxh, en_, em_, hs_⟩ := Go.Proofs.Ytoehcikfjipcaaa.XWalk.bornS (w := w) hb ho0 (below_size (by repeat (first | (with_reducible first | exact HB.out | apply below_alloc | apply pw_below_drewN | apply below_drew1) | exact HB.out))); have ord_w_h := Aside0.mk (show mxw ≤ nxh from by rw [en_]; exact Nat.le_trans hz_w.out hup.1); have ord_g_h := Aside0.mk (show mxg ≤ nxh from by rw [en_]; exact Nat.le_trans hz_g.out hup.1); have hz_h := Aside0.mk (show mxh ≤ W14_.heap.size from by rw [em_]; exact Nat.le_refl _); have HOxh := Aside0.mk hs_; clear en_ em_ hs_ ho0; have n0_ := Aside0.mk (Kd.R_below (by (with_reducible repeat (first | apply Kd.R_alloc | apply Kd.R_drewN | apply Kd.R_drew)); exact HOxw.out) hb); have n1_ := Aside0.mk (Nat.le_trans hz_w.out (Nat.le_trans hup.1 hup.2)); have n2_ := Aside0.mk (Kd.R_below (by (with_reducible repeat (first | apply Kd.R_alloc | apply Kd.R_drewN | apply Kd.R_drew)); exact HOxg.out) hb); have n3_ := Aside0.mk (Nat.le_trans hz_g.out (Nat.le_trans hup.1 hup.2)); have nb_ := Aside0.mk (below_step (by repeat (first | (with_reducible first | exact HB.out | apply below_alloc | apply pw_below_drewN | apply below_drew1) | exact HB.out)) hb); clear HOxw hz_w HOxg hz_g HB; have HOxw := n0_; have hz_w := n1_; have HOxg := n2_; have hz_g := n3_; have HB := nb_; clear n0_ n1_ n2_ n3_ nb_; clear hb hup) | ((with_reducible refine gate_callee (f := 23) rfl ?_); refine goesL_ (some 96) rfl rfl Try.func23 (by kernel_rfl) rfl #[.slice A1 l1.length c1] rfl (by (try simp only [List.map_toArray, List.map_cons, List.map_nil]); first | done | rfl | (simp only [List.length_drop, List.length_take]; rfl)) ?_; (with_reducible refine (laws_toIntS.calls k _ _ l1 y1 _ ?side1 ?side2 F3.out).mono ?_); (case side1 => repeat (first | exact (Kd.C_below HR1.out HB.out) | (with_reducible refine Kd.C_alloc ?_ _) | (with_reducible refine Kd.C_drewN ?_ _) | (with_reducible refine Kd.C_drew ?_))); (case side2 => exact HC1.out); rintro e W15_ ⟨v15, rfl, ho0, hb⟩; refine ⟨_, rfl, ?_⟩; have hup := Go.Proofs.Ytoehcikfjipcaaa.XWalk.upB (wp := W14_) hb (by repeat (first | (with_reducible first | exact Below.refl _ _ | apply below_alloc | apply pw_below_drewN | apply below_drew1) | exact Below.refl _ _)); obtain ⟨Axi, cxi, rfl⟩ := Kd.R_slice ho0; obtain ⟨nxi, mxi, en_, em_, hs_⟩ := Go.Proofs.Ytoehcikfjipcaaa.XWalk.bornR (w := w) hb ho0 (below_size (by repeat (first | (with_reducible first | exact HB.out | apply below_alloc | apply pw_below_drewN | apply below_drew1) | exact HB.out))); have ord_w_i := Aside0.mk (show mxw ≤ nxi from by rw [en_]; exact Nat.le_trans hz_w.out hup.1); have ord_g_i := Aside0.mk (show mxg ≤ nxi from by rw [en_]; exact Nat.le_trans hz_g.out hup.1); have ord_h_i := Aside0.mk (show mxh ≤ nxi from by rw [en_]; exact Nat.le_trans hz_h.out hup.1); have hz_i := Aside0.mk (show mxi ≤ W15_.heap.size from by rw [em_]; exact Nat.le_refl _); have HOxi := Aside0.mk hs_; clear en_ em_ hs_ ho0; have n0_ := Aside0.mk (Kd.R_below (by (with_reducible repeat (first | apply Kd.R_alloc | apply Kd.R_drewN | apply Kd.R_drew)); exact HOxw.out) hb); have n1_ := Aside0.mk (Nat.le_trans hz_w.out (Nat.le_trans hup.1 hup.2)); have n2_ := Aside0.mk (Kd.R_below (by (with_reducible repeat (first | apply Kd.R_alloc | apply Kd.R_drewN | apply Kd.R_drew)); exact HOxg.out) hb); have n3_ := Aside0.mk (Nat.le_trans hz_g.out (Nat.le_trans hup.1 hup.2)); have n4_ := Aside0.mk (Kd.S_below (by (with_reducible repeat (first | apply Kd.S_alloc | apply Kd.S_drewN | apply Kd.S_drew)); exact HOxh.out) hb); have n5_ := Aside0.mk (Nat.le_trans hz_h.out (Nat.le_trans hup.1 hup.2)); have nb_ := Aside0.mk (below_step (by repeat (first | (with_reducible first | exact HB.out | apply below_alloc | apply pw_below_drewN | apply below_drew1) | exact HB.out)) hb); clear HOxw hz_w HOxg hz_g HOxh hz_h HB; have HOxw := n0_; have hz_w := n1_; have HOxg := n2_; have hz_g := n3_; have HOxh := n4_; have hz_h := n5_; have HB := nb_; clear n0_ n1_ n2_ n3_ n4_ n5_ nb_; clear hb hup) | ((with_reducible refine gate_callee (f := 27) rfl ?_); refine goesL_ (some 97) rfl rfl Try.func27 (by kernel_rfl) rfl #[.slice Axh x1.length cxh, .slice Axi y1.length cxi] rfl (by (try simp only [List.map_toArray, List.map_cons, List.map_nil]); first | done | rfl | (simp only [List.length_drop, List.length_take]; rfl)) ?_; (with_reducible refine (impl_TimesOfLines.calls k _ _ x1 _ _ y1 w1 q1 _ ?side1 ?side2 ?side3 ?side4 F5.out).mono ?_); (case side1 => repeat (first | exact (Kd.S_reads' HOxh.out).2.2 | (with_reducible refine Kd.C_alloc ?_ _) | (with_reducible refine Kd.C_drewN ?_ _) | (with_reducible refine Kd.C_drew ?_))); (case side2 => exact (Kd.S_reads' HOxh.out).2.1); (case side3 => repeat (first | exact (Kd.R_reads' HOxi.out).2.2 | (with_reducible refine Kd.C_alloc ?_ _) | (with_reducible refine Kd.C_drewN ?_ _) | (with_reducible refine Kd.C_drew ?_))); (case side4 => exact (Kd.R_reads' HOxi.out).2.1); rintro e W16_ ⟨v16, rfl, ho0, hb⟩; refine ⟨_, rfl, ?_⟩; have hup := Go.Proofs.Ytoehcikfjipcaaa.XWalk.upB (wp := W15_) hb (by repeat (first | (with_reducible first | exact Below.refl _ _ | apply below_alloc | apply pw_below_drewN | apply below_drew1) | exact Below.refl _ _)); obtain ⟨Axj, cxj, rfl⟩ := Kd.R_slice ho0; obtain ⟨nxj, mxj, en_, em_, hs_⟩ := Go.Proofs.Ytoehcikfjipcaaa.XWalk.bornR (w := w) hb ho0 (below_size (by repeat (first | (with_reducible first | exact HB.out | apply below_alloc | apply pw_below_drewN | apply below_drew1) | exact HB.out))); have ord_w_j := Aside0.mk (show mxw ≤ nxj from by rw [en_]; exact Nat.le_trans hz_w.out hup.1); have ord_g_j := Aside0.mk (show mxg ≤ nxj from by rw [en_]; exact Nat.le_trans hz_g.out hup.1); have ord_h_j := Aside0.mk (show mxh ≤ nxj from by rw [en_]; exact Nat.le_trans hz_h.out hup.1); have ord_i_j := Aside0.mk (show mxi ≤ nxj from by rw [en_]; exact Nat.le_trans hz_i.out hup.1); have hz_j := Aside0.mk (show mxj ≤ W16_.heap.size from by rw [em_]; exact Nat.le_refl _); have HOxj := Aside0.mk hs_; clear en_ em_ hs_ ho0; have n0_ := Aside0.mk (Kd.R_below (by (with_reducible repeat (first | apply Kd.R_alloc | apply Kd.R_drewN | apply Kd.R_drew)); exact HOxw.out) hb); have n1_ := Aside0.mk (Nat.le_trans hz_w.out (Nat.le_trans hup.1 hup.2)); have n2_ := Aside0.mk (Kd.R_below (by (with_reducible repeat (first | apply Kd.R_alloc | apply Kd.R_drewN | apply Kd.R_drew)); exact HOxg.out) hb); have n3_ := Aside0.mk (Nat.le_trans hz_g.out (Nat.le_trans hup.1 hup.2)); have n4_ := Aside0.mk (Kd.S_below (by (with_reducible repeat (first | apply Kd.S_alloc | apply Kd.S_drewN | apply Kd.S_drew)); exact HOxh.out) hb); have n5_ := Aside0.mk (Nat.le_trans hz_h.out (Nat.le_trans hup.1 hup.2)); have n6_ := Aside0.mk (Kd.R_below (by (with_reducible repeat (first | apply Kd.R_alloc | apply Kd.R_drewN | apply Kd.R_drew)); exact HOxi.out) hb); have n7_ := Aside0.mk (Nat.le_trans hz_i.out (Nat.le_trans hup.1 hup.2)); have nb_ := Aside0.mk (below_step (by repeat (first | (with_reducible first | exact HB.out | apply below_alloc | apply pw_below_drewN | apply below_drew1) | exact HB.out)) hb); clear HOxw hz_w HOxg hz_g HOxh hz_h HOxi hz_i HB; have HOxw := n0_; have hz_w := n1_; have HOxg := n2_; have hz_g := n3_; have HOxh := n4_; have hz_h := n5_; have HOxi := n6_; have hz_i := n7_; have HB := nb_; clear n0_ n1_ n2_ n3_ n4_ n5_ n6_ n7_ nb_; clear hb hup; clear HOxh hz_h; clear HOxi hz_i) | ((with_reducible refine gate_callee (f := 13) rfl ?_); refine goesL_ (some 102) rfl rfl Try.func13 (by kernel_rfl) rfl #[.slice Axj w1.length cxj, .slice Axw w1.length cxw] rfl (by (try simp only [List.map_toArray, List.map_cons, List.map_nil]); first | done | rfl | (simp only [List.length_drop, List.length_take]; rfl)) ?_; (with_reducible refine (laws_eqIntS.calls k _ _ w1 _ _ w1 true _ ?side1 ?side2 ?side3 ?side4 F6.out).mono ?_); (case side1 => repeat (first | exact (Kd.R_reads' HOxj.out).2.2 | (with_reducible refine Kd.C_alloc ?_ _) | (with_reducible refine Kd.C_drewN ?_ _) | (with_reducible refine Kd.C_drew ?_))); (case side2 => exact (Kd.R_reads' HOxj.out).2.1); (case side3 => repeat (first | exact (Kd.R_reads' HOxw.out).2.2 | (with_reducible refine Kd.C_alloc ?_ _) | (with_reducible refine Kd.C_drewN ?_ _) | (with_reducible refine Kd.C_drew ?_))); (case side4 => exact (Kd.R_reads' HOxw.out).2.1); rintro e w' ⟨rfl, ⟨nd, rfl⟩⟩; refine ⟨_, rfl, ?_⟩) | ((with_reducible refine gate_callee (f := 19) rfl ?_); refine goesL_ (some 111) rfl rfl Try.func19 (by kernel_rfl) rfl #[.slice Axg r3.length cxg, .int .i64 1] rfl (by (try simp only [List.map_toArray, List.map_cons, List.map_nil]); first | done | (rw [show r3.length = w1.length from (Kd.R_reads' HOxg.out).1.symm] <;> rfl) | rfl | (simp only [List.length_drop, List.length_take]; rfl)) ?_; (with_reducible refine (laws_heldIntS.calls k _ _ r3 1 m3 _ ?side1 ?side2 F12.out).mono ?_); (case side1 => repeat (first | exact (Kd.R_reads' HOxg.out).2.2 | (with_reducible refine Kd.C_alloc ?_ _) | (with_reducible refine Kd.C_drewN ?_ _) | (with_reducible refine Kd.C_drew ?_))); (case side2 => rw [show r3.length = w1.length from (Kd.R_reads' HOxg.out).1.symm]; exact (Kd.R_reads' HOxg.out).2.1); rintro e w' ⟨rfl, ⟨nd, rfl⟩⟩; refine ⟨_, rfl, ?_⟩))
    go_ret
    exact ⟨by first | rfl | (simp; done) | (simp [*]; done), by repeat (first | (with_reducible first | exact HB.out | apply below_alloc | apply pw_below_drewN | apply below_drew1) | exact HB.out)⟩

/-- The one pure statement of laws_FnExactTimesOfLines. -/
def laws_FnExactTimesOfLines.Pure : Prop := ∀ (l0 : List (S24)) (l1 : List Int), l0.length ≤ maxLen → (∀ x_ ∈ l0, x_.f3.length ≤ maxLen) → l1.length ≤ maxLen → ∃ k, laws_FnExactTimesOfLines.f k l0 l1 = some true

end Go.Proofs.Ytoehcikfjipcaaa.QK
