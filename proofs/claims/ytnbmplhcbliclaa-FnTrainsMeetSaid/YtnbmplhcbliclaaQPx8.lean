-- WRITTEN BY a program of this session (wip/xprint.py, over the kit's print): Lean checks it.
import Derived.Test.YtnbmplhcbliclaaQPx0
import Derived.Test.YtnbmplhcbliclaaQPx7
namespace Go.Proofs.Ytnbmplhcbliclaa.QP
open Go.Proofs.Ytnbmplhcbliclaa.X Go.RowKit Go.Proofs.YtnbmplhcbliclaaW.PrintWords Go.Proofs.YtnbmplhcbliclaaW.PrintLast Go.Proofs.YtnbmplhcbliclaaW.PrintMore
attribute [local go_sem] max2_int min2_int max_two min_two max_three min_three max_four min_four   -- for this text's walks alone
set_option linter.unusedVariables false
set_option linter.unusedSimpArgs false

/-! ### spec_DrawMeetAfter: function 25 -/
def spec_DrawMeetAfter.i.f (l0 : List Int) (s1_0 : List Int) (s1_1 : Int) (s1_2 : Int) : Option (Int × Int × Int × Int × Int × Int × Int) := (spec_l1Cur_train.f s1_0 s1_1 s1_2).bind fun bt346 => ((spec_l1Cur_train.f s1_0 bt346.2.2.1 bt346.2.2.2).bind fun bt350 => ((spec_l1Cur_way.f s1_0 bt350.2.2.1 bt350.2.2.2).bind fun bt354 => (some (bt346.1, bt346.2.1, bt350.1, bt350.2.1, bt354.1, bt354.2.1, bt354.2.2))))
def spec_DrawMeetAfter.f (l0 : List Int) : Option (Int × Int × Int × Int × Int) := (spec_DrawMeetAfter.i.f l0 l0 0 0).bind fun b => some (b.1, b.2.1, b.2.2.1, b.2.2.2.1, b.2.2.2.2.1)
set_option maxHeartbeats 8000000 in
set_option maxRecDepth 100000 in
theorem spec_DrawMeetAfter.calls (A0 : Option Addr) (c0 : Nat) (l0 : List Int) (r1 : Int) (r2 : Int) (r3 : Int) (r4 : Int) (r5 : Int) (wz_ : World) (hr0 : Kd.C (Kd.int .u8) wz_ A0 l0.length l0) (hc0 : l0.length ≤ c0) (h : spec_DrawMeetAfter.f l0 = some (r1, r2, r3, r4, r5)) :
    Calls Try.prog 25 #[.slice A0 l0.length c0] wz_ fun e w' => e = .returned (.tuple #[.agg #[.int .i64 r1, .int .i64 r2], .agg #[.int .i64 r3, .int .i64 r4], .int .i64 r5]) ∧ Below wz_.heap.size wz_ w' := by
  obtain ⟨b_, hb0_, h⟩ := Option.bind_eq_some_iff.mp h
  obtain ⟨r1z_, r2z_, r3z_, r4z_, r5z_, r6, r7⟩ := b_
  simp only [Option.some.injEq, Prod.mk.injEq] at h
  obtain ⟨hq0_, hq1_, hq2_, hq3_, hq4_⟩ := h
  obtain rfl := hq0_.symm
  obtain rfl := hq1_.symm
  obtain rfl := hq2_.symm
  obtain rfl := hq3_.symm
  obtain rfl := hq4_.symm
  suffices hh_ : ∀ (w0 w wq : World) (g gb344 gb345 : Nat), w0 = wz_ → w = wz_ → gb344 = wz_.heap.size → gb345 = wz_.heap.size + 1 → g = wz_.heap.size + 1 + 1 → wq = ((wz_.alloc (.cells #[.int .i64 0, .int .i64 0] 23 (0, 0))).alloc (.cells #[.int .i64 0, .int .i64 0] 23 (0, 0))).alloc (.cells #[.slice A0 l0.length c0, .int .i64 0, .int .u64 0] 69 (0, 0)) → Calls Try.prog 25 #[.slice A0 l0.length c0] wz_ fun e w' => e = .returned (.tuple #[.agg #[.int .i64 r1, .int .i64 r2], .agg #[.int .i64 r3, .int .i64 r4], .int .i64 r5]) ∧ IsS69 w0 w' g l0 r6 r7 ∧ Below w0.heap.size w0 w' ∧ KeepBut w w' g none by
    refine (hh_ wz_ wz_ _ _ _ _ rfl rfl rfl rfl rfl rfl).mono ?_
    rintro e w' ⟨he_, _, hb_, _⟩
    exact ⟨he_, hb_⟩
  intro w0 w wq g gb344 gb345 HW0_ HWW_ HGgb344_ HGgb345_ HG_ HW_
  have hB1_ : Below wz_.heap.size wz_ ((wz_.alloc (.cells #[.int .i64 0, .int .i64 0] 23 (0, 0))).alloc (.cells #[.int .i64 0, .int .i64 0] 23 (0, 0))) := (below_alloc (below_alloc (Below.refl _ _) _) _)
  have hs1_ : ((wz_.alloc (.cells #[.int .i64 0, .int .i64 0] 23 (0, 0))).alloc (.cells #[.int .i64 0, .int .i64 0] 23 (0, 0))).heap.size = g := by rw [HG_]; exact ((Array.size_push ..).trans (congrArg (· + 1) (Array.size_push ..)))
  have hI : IsS69 w0 wq g l0 0 0 := by rw [HW_, HW0_, ← hs1_]; exact IsS69.new _ _ _ c0 _ _ _ hB1_ hr0
  have hB : Below w0.heap.size w0 wq := by rw [HW0_, HW_]; exact below_alloc hB1_ _
  have hBw_ : Below w.heap.size w wq := by rw [HWW_, HW_]; exact below_alloc hB1_ _
  have hle_ : w0.heap.size ≤ w.heap.size := by rw [HW0_, HWW_]; exact Nat.le_refl _
  have BK344 := Aside0.mk (show wq.heap[gb344]? = some (.cells #[.int .i64 0, .int .i64 0] 23 (0, 0)) from by rw [HW_, HGgb344_]; exact blk_alloc (blk_alloc ((by have h_ := blk_new wz_ (.cells #[.int .i64 0, .int .i64 0] 23 (0, 0)); rw [show wz_.heap.size = wz_.heap.size from rfl] at h_; exact h_)) _) _)
  have GW344 := Aside0.mk (show w.heap.size ≤ gb344 by rw [HWW_, HGgb344_]; omega)
  have GE344 := Aside0.mk (show w0.heap.size ≤ gb344 by rw [HW0_, HGgb344_]; omega)
  have NB1_344 := Aside0.mk (show g ≠ gb344 by rw [HG_, HGgb344_]; omega)
  have NB344_1 := Aside0.mk (show gb344 ≠ g by rw [HG_, HGgb344_]; omega)
  have NB344_345 := Aside0.mk (show gb344 ≠ gb345 by rw [HGgb344_, HGgb345_]; omega)
  have BK345 := Aside0.mk (show wq.heap[gb345]? = some (.cells #[.int .i64 0, .int .i64 0] 23 (0, 0)) from by rw [HW_, HGgb345_]; exact blk_alloc ((by have h_ := blk_new (wz_.alloc (.cells #[.int .i64 0, .int .i64 0] 23 (0, 0))) (.cells #[.int .i64 0, .int .i64 0] 23 (0, 0)); rw [show (wz_.alloc (.cells #[.int .i64 0, .int .i64 0] 23 (0, 0))).heap.size = wz_.heap.size + 1 from (Array.size_push ..)] at h_; exact h_)) _)
  have GW345 := Aside0.mk (show w.heap.size ≤ gb345 by rw [HWW_, HGgb345_]; omega)
  have GE345 := Aside0.mk (show w0.heap.size ≤ gb345 by rw [HW0_, HGgb345_]; omega)
  have NB1_345 := Aside0.mk (show g ≠ gb345 by rw [HG_, HGgb345_]; omega)
  have NB345_1 := Aside0.mk (show gb345 ≠ g by rw [HG_, HGgb345_]; omega)
  have NB345_344 := Aside0.mk (show gb345 ≠ gb344 by rw [HGgb345_, HGgb344_]; omega)
  have hr0' : Kd.C (Kd.int .u8) w A0 l0.length l0 := by rw [HWW_]; exact hr0
  clear hr0
  have hr0 := hr0'
  clear hr0'
  have HWZ := Aside0.mk HW_
  have HGZ := Aside0.mk HG_
  have HGZgb344 := Aside0.mk HGgb344_
  have HGZgb345 := Aside0.mk HGgb345_
  clear HW_ HG_ HW0_ HWW_ HGgb344_ HGgb345_ hs1_ hB1_
  have h := hb0_
  clear hb0_
  have hu23 := Try.underlying23
  have HR0 := Aside0.mk hr0
  have HC0 := Aside0.mk hc0
  clear hr0 hc0
  have HI1 := Aside0.mk hI
  have HK := Aside0.mk (KeepBut.of_below hBw_ g none)
  have HL := Aside0.mk hle_
  clear hI
  have HW0 := Aside0.mk hle_
  have HB := Aside0.mk hB
  clear hB
  have H : ((spec_l1Cur_train.f l0 0 0).bind fun bt346 => ((spec_l1Cur_train.f l0 bt346.2.2.1 bt346.2.2.2).bind fun bt350 => ((spec_l1Cur_way.f l0 bt350.2.2.1 bt350.2.2.2).bind fun bt354 => (some (bt346.1, bt346.2.1, bt350.1, bt350.2.1, bt354.1, bt354.2.1, bt354.2.2))))) = some (r1, r2, r3, r4, r5, r6, r7) := h
  clear h
  replace H := Option.bind_eq_some_iff.mp H
  obtain ⟨⟨t346, t347, t348, t349⟩, A30, H⟩ := H
  replace H : ((spec_l1Cur_train.f l0 t348 t349).bind fun bt350 => ((spec_l1Cur_way.f l0 bt350.2.2.1 bt350.2.2.2).bind fun bt354 => (some (t346, t347, bt350.1, bt350.2.1, bt354.1, bt354.2.1, bt354.2.2)))) = some (r1, r2, r3, r4, r5, r6, r7) := H
  have A3 := Aside0.mk A30
  clear A30
  replace H := Option.bind_eq_some_iff.mp H
  obtain ⟨⟨t350, t351, t352, t353⟩, A40, H⟩ := H
  replace H : ((spec_l1Cur_way.f l0 t352 t353).bind fun bt354 => (some (t346, t347, t350, t351, bt354.1, bt354.2.1, bt354.2.2))) = some (r1, r2, r3, r4, r5, r6, r7) := H
  have A4 := Aside0.mk A40
  clear A40
  replace H := Option.bind_eq_some_iff.mp H
  obtain ⟨⟨t354, t355, t356⟩, A50, H⟩ := H
  replace H : (some (t346, t347, t350, t351, t354, t355, t356)) = some (r1, r2, r3, r4, r5, r6, r7) := H
  have A5 := Aside0.mk A50
  clear A50
  simp only [Option.some.injEq, Prod.mk.injEq] at H
  obtain ⟨rfl, rfl, rfl, rfl, rfl, rfl, rfl⟩ := H
  go_enter Try.func25, Try.ntmps25
  go_upto_region 2 with (fail)
  rw [← HWZ.out, ← HGZ.out, ← HGZgb345.out, ← HGZgb344.out]
  go_wp2_with (first | ((with_reducible refine gate_dst (N := 2) rfl ?_); refine box_event ?hg (N := 2) ?hd (cs := #[.int .i64 0, .int .i64 0]) (t := 23) ?hr ?_; (case hd => rfl); (case hg => rfl); (case hr => first | (go_simp; done) | (go_simp; rfl)); intro gb344 hg w6 hbox hb; have n0_ := Aside0.mk (IsS69.below (by repeat (first | (with_reducible first | exact HI1.out | apply IsS69.alloc | apply IsS69.drewN | apply IsS69.drew | apply IsS69.set_1 | apply IsS69.set_2) | exact HI1.out)) hb); have n1_ := Aside0.mk (KeepBut.trans (by repeat (first | (with_reducible first | exact HK.out | apply KeepBut.set_ | apply keep_drewN | apply keep_drew | apply keep_alloc) | exact HK.out)) (KeepBut.of_below hb g none) (.inl rfl)); have n2_ := Aside0.mk (below_step (by repeat (first | (with_reducible first | exact HB.out | apply below_alloc | apply pw_below_drewN | apply below_drew1 | refine below_set ?_ (IsS69.ge HI1.out)) | exact HB.out)) hb); have n3_ := Aside0.mk (hbox); have n4_ := Aside0.mk ((by rw [hg]; exact (keep_size (w := w) (g := g) (row := none) (by repeat (first | (with_reducible first | exact HK.out | apply KeepBut.set_ | apply keep_drewN | apply keep_drew | apply keep_alloc) | exact HK.out))) : w.heap.size ≤ gb344)); have n5_ := Aside0.mk ((Nat.le_trans HW0.out (by rw [hg]; exact (keep_size (w := w) (g := g) (row := none) (by repeat (first | (with_reducible first | exact HK.out | apply KeepBut.set_ | apply keep_drewN | apply keep_drew | apply keep_alloc) | exact HK.out))) : w.heap.size ≤ gb344) : w0.heap.size ≤ gb344)); have n6_ := Aside0.mk ((by rw [hg]; exact Nat.ne_of_lt (IsS69.lt (show IsS69 w0 _ g l0 0 0 from by repeat (first | (with_reducible first | exact HI1.out | apply IsS69.alloc | apply IsS69.drewN | apply IsS69.drew | apply IsS69.set_1 | apply IsS69.set_2) | exact HI1.out))) : g ≠ gb344)); have n7_ := Aside0.mk ((by rw [hg]; exact Nat.ne_of_gt (IsS69.lt (show IsS69 w0 _ g l0 0 0 from by repeat (first | (with_reducible first | exact HI1.out | apply IsS69.alloc | apply IsS69.drewN | apply IsS69.drew | apply IsS69.set_1 | apply IsS69.set_2) | exact HI1.out))) : gb344 ≠ g)); clear HI1; clear HK; clear HB; have HI1 := n0_; have HK := n1_; have HB := n2_; have BK344 := n3_; have GW344 := n4_; have GE344 := n5_; have NB1_344 := n6_; have NB344_1 := n7_; clear n0_ n1_ n2_ n3_ n4_ n5_ n6_ n7_; clear hb hbox hg) | ((with_reducible refine gate_dst (N := 3) rfl ?_); refine box_event ?hg (N := 3) ?hd (cs := #[.int .i64 0, .int .i64 0]) (t := 23) ?hr ?_; (case hd => rfl); (case hg => rfl); (case hr => first | (go_simp; done) | (go_simp; rfl)); intro gb345 hg w7 hbox hb; have n0_ := Aside0.mk (IsS69.below (by repeat (first | (with_reducible first | exact HI1.out | apply IsS69.alloc | apply IsS69.drewN | apply IsS69.drew | apply IsS69.set_1 | apply IsS69.set_2 | refine IsS69.far ?_ NB1_344.out _) | exact HI1.out)) hb); have n1_ := Aside0.mk (blk_below (g := gb344) (o := .cells #[.int .i64 0, .int .i64 0] 23 (0, 0)) (by (with_reducible repeat (first | refine blk_drewN ?_ _ | refine blk_drew ?_ | refine blk_alloc ?_ _)); exact BK344.out) hb); have n2_ := Aside0.mk (KeepBut.trans (by repeat (first | (with_reducible first | exact HK.out | apply KeepBut.set_ | apply keep_drewN | apply keep_drew | apply keep_alloc | refine keep_far ?_ GW344.out _) | exact HK.out)) (KeepBut.of_below hb g none) (.inl rfl)); have n3_ := Aside0.mk (below_step (by repeat (first | (with_reducible first | exact HB.out | apply below_alloc | apply pw_below_drewN | apply below_drew1 | refine below_set ?_ (IsS69.ge HI1.out) | refine below_set ?_ GE344.out) | exact HB.out)) hb); have n4_ := Aside0.mk (hbox); have n5_ := Aside0.mk ((by rw [hg]; exact (keep_size (w := w) (g := g) (row := none) (by repeat (first | (with_reducible first | exact HK.out | apply KeepBut.set_ | apply keep_drewN | apply keep_drew | apply keep_alloc | refine keep_far ?_ GW344.out _) | exact HK.out))) : w.heap.size ≤ gb345)); have n6_ := Aside0.mk ((Nat.le_trans HW0.out (by rw [hg]; exact (keep_size (w := w) (g := g) (row := none) (by repeat (first | (with_reducible first | exact HK.out | apply KeepBut.set_ | apply keep_drewN | apply keep_drew | apply keep_alloc | refine keep_far ?_ GW344.out _) | exact HK.out))) : w.heap.size ≤ gb345) : w0.heap.size ≤ gb345)); have n7_ := Aside0.mk ((by rw [hg]; exact Nat.ne_of_lt (blk_lt (g := gb344) (o := .cells #[.int .i64 0, .int .i64 0] 23 (0, 0)) (by (with_reducible repeat (first | refine blk_drewN ?_ _ | refine blk_drew ?_ | refine blk_alloc ?_ _)); exact BK344.out)) : gb344 ≠ gb345)); have n8_ := Aside0.mk ((by rw [hg]; exact Nat.ne_of_gt (blk_lt (g := gb344) (o := .cells #[.int .i64 0, .int .i64 0] 23 (0, 0)) (by (with_reducible repeat (first | refine blk_drewN ?_ _ | refine blk_drew ?_ | refine blk_alloc ?_ _)); exact BK344.out)) : gb345 ≠ gb344)); have n9_ := Aside0.mk ((by rw [hg]; exact Nat.ne_of_lt (IsS69.lt (show IsS69 w0 _ g l0 0 0 from by repeat (first | (with_reducible first | exact HI1.out | apply IsS69.alloc | apply IsS69.drewN | apply IsS69.drew | apply IsS69.set_1 | apply IsS69.set_2 | refine IsS69.far ?_ NB1_344.out _) | exact HI1.out))) : g ≠ gb345)); have n10_ := Aside0.mk ((by rw [hg]; exact Nat.ne_of_gt (IsS69.lt (show IsS69 w0 _ g l0 0 0 from by repeat (first | (with_reducible first | exact HI1.out | apply IsS69.alloc | apply IsS69.drewN | apply IsS69.drew | apply IsS69.set_1 | apply IsS69.set_2 | refine IsS69.far ?_ NB1_344.out _) | exact HI1.out))) : gb345 ≠ g)); clear HI1; clear BK344; clear HK; clear HB; have HI1 := n0_; have BK344 := n1_; have HK := n2_; have HB := n3_; have BK345 := n4_; have GW345 := n5_; have GE345 := n6_; have NB344_345 := n7_; have NB345_344 := n8_; have NB1_345 := n9_; have NB345_1 := n10_; clear n0_ n1_ n2_ n3_ n4_ n5_ n6_ n7_ n8_ n9_ n10_; clear hb hbox hg) | ((with_reducible refine gate_callee (f := 48) rfl ?_); refine goesL_ (some 10) rfl rfl Try.func48 (by kernel_rfl) rfl #[.pointer (some ⟨g, 0, none⟩)] rfl (by (try simp only [List.map_toArray, List.map_cons, List.map_nil]); first | done | rfl | (simp only [List.length_drop, List.length_take]; rfl)) ?_; (with_reducible refine (spec_l1Cur_train.calls g l0 0 0 t346 t347 t348 t349 w0 _ ?side1 ?side2 A3.out).mono ?_); (case side1 => repeat (first | (with_reducible first | exact HI1.out | apply IsS69.alloc | apply IsS69.drewN | apply IsS69.drew | apply IsS69.set_1 | apply IsS69.set_2 | refine IsS69.far ?_ NB1_344.out _ | refine IsS69.far ?_ NB1_345.out _) | exact HI1.out)); (case side2 => repeat (first | (with_reducible first | exact HB.out | apply below_alloc | apply pw_below_drewN | apply below_drew1 | refine below_set ?_ (IsS69.ge HI1.out) | refine below_set ?_ GE344.out | refine below_set ?_ GE345.out) | exact HB.out)); rintro e w8 ⟨rfl, hi, hb, hk⟩; refine ⟨_, rfl, ?_⟩; have n0_ := Aside0.mk (KeepBut.blk hk (g' := gb344) (o := .cells #[.int .i64 0, .int .i64 0] 23 (0, 0)) (by (with_reducible repeat (first | refine blk_drewN ?_ _ | refine blk_drew ?_ | refine blk_alloc ?_ _)); exact BK344.out) NB344_1.out (by simp)); have n1_ := Aside0.mk (KeepBut.blk hk (g' := gb345) (o := .cells #[.int .i64 0, .int .i64 0] 23 (0, 0)) (by (with_reducible repeat (first | refine blk_drewN ?_ _ | refine blk_drew ?_ | refine blk_alloc ?_ _)); exact BK345.out) NB345_1.out (by simp)); have n2_ := Aside0.mk (KeepBut.trans (by repeat (first | (with_reducible first | exact HK.out | apply KeepBut.set_ | apply keep_drewN | apply keep_drew | apply keep_alloc | refine keep_far ?_ GW344.out _ | refine keep_far ?_ GW345.out _) | exact HK.out)) hk (.inl rfl)); have n3_ := Aside0.mk (hb); have n4_ := Aside0.mk (hi); clear BK344; clear BK345; clear HK; clear HB; clear HI1; have BK344 := n0_; have BK345 := n1_; have HK := n2_; have HB := n3_; have HI1 := n4_; clear n0_ n1_ n2_ n3_ n4_; (try clear hb); (try clear hb2); (try clear hk); (try clear hi)) | ((with_reducible refine gate_callee (f := 48) rfl ?_); refine goesL_ (some 12) rfl rfl Try.func48 (by kernel_rfl) rfl #[.pointer (some ⟨g, 0, none⟩)] rfl (by (try simp only [List.map_toArray, List.map_cons, List.map_nil]); first | done | rfl | (simp only [List.length_drop, List.length_take]; rfl)) ?_; (with_reducible refine (spec_l1Cur_train.calls g l0 t348 t349 t350 t351 t352 t353 w0 _ ?side1 ?side2 A4.out).mono ?_); (case side1 => repeat (first | (with_reducible first | exact HI1.out | apply IsS69.alloc | apply IsS69.drewN | apply IsS69.drew | apply IsS69.set_1 | apply IsS69.set_2 | refine IsS69.far ?_ NB1_344.out _ | refine IsS69.far ?_ NB1_345.out _) | exact HI1.out)); (case side2 => repeat (first | (with_reducible first | exact HB.out | apply below_alloc | apply pw_below_drewN | apply below_drew1 | refine below_set ?_ (IsS69.ge HI1.out) | refine below_set ?_ GE344.out | refine below_set ?_ GE345.out) | exact HB.out)); rintro e w9 ⟨rfl, hi, hb, hk⟩; refine ⟨_, rfl, ?_⟩; have n0_ := Aside0.mk (KeepBut.blk hk (g' := gb344) (o := .cells #[.int .i64 0, .int .i64 0] 23 (0, 0)) (by (with_reducible repeat (first | refine blk_drewN ?_ _ | refine blk_drew ?_ | refine blk_alloc ?_ _)); exact BK344.out) NB344_1.out (by simp)); have n1_ := Aside0.mk (KeepBut.blk hk (g' := gb345) (o := .cells #[.int .i64 0, .int .i64 0] 23 (0, 0)) (by (with_reducible repeat (first | refine blk_drewN ?_ _ | refine blk_drew ?_ | refine blk_alloc ?_ _)); exact BK345.out) NB345_1.out (by simp)); have n2_ := Aside0.mk (KeepBut.trans (by repeat (first | (with_reducible first | exact HK.out | apply KeepBut.set_ | apply keep_drewN | apply keep_drew | apply keep_alloc | refine keep_far ?_ GW344.out _ | refine keep_far ?_ GW345.out _) | exact HK.out)) hk (.inl rfl)); have n3_ := Aside0.mk (hb); have n4_ := Aside0.mk (hi); clear BK344; clear BK345; clear HK; clear HB; clear HI1; have BK344 := n0_; have BK345 := n1_; have HK := n2_; have HB := n3_; have HI1 := n4_; clear n0_ n1_ n2_ n3_ n4_; (try clear hb); (try clear hb2); (try clear hk); (try clear hi)) | ((with_reducible refine gate_callee (f := 49) rfl ?_); refine goesL_ (some 14) rfl rfl Try.func49 (by kernel_rfl) rfl #[.pointer (some ⟨g, 0, none⟩)] rfl (by (try simp only [List.map_toArray, List.map_cons, List.map_nil]); first | done | rfl | (simp only [List.length_drop, List.length_take]; rfl)) ?_; (with_reducible refine (spec_l1Cur_way.calls g l0 t352 t353 t354 t355 t356 w0 _ ?side1 ?side2 A5.out).mono ?_); (case side1 => repeat (first | (with_reducible first | exact HI1.out | apply IsS69.alloc | apply IsS69.drewN | apply IsS69.drew | apply IsS69.set_1 | apply IsS69.set_2 | refine IsS69.far ?_ NB1_344.out _ | refine IsS69.far ?_ NB1_345.out _) | exact HI1.out)); (case side2 => repeat (first | (with_reducible first | exact HB.out | apply below_alloc | apply pw_below_drewN | apply below_drew1 | refine below_set ?_ (IsS69.ge HI1.out) | refine below_set ?_ GE344.out | refine below_set ?_ GE345.out) | exact HB.out)); rintro e w10 ⟨rfl, hi, hb, hk⟩; refine ⟨_, rfl, ?_⟩; have n0_ := Aside0.mk (KeepBut.blk hk (g' := gb344) (o := .cells #[.int .i64 0, .int .i64 0] 23 (0, 0)) (by (with_reducible repeat (first | refine blk_drewN ?_ _ | refine blk_drew ?_ | refine blk_alloc ?_ _)); exact BK344.out) NB344_1.out (by simp)); have n1_ := Aside0.mk (KeepBut.blk hk (g' := gb345) (o := .cells #[.int .i64 0, .int .i64 0] 23 (0, 0)) (by (with_reducible repeat (first | refine blk_drewN ?_ _ | refine blk_drew ?_ | refine blk_alloc ?_ _)); exact BK345.out) NB345_1.out (by simp)); have n2_ := Aside0.mk (KeepBut.trans (by repeat (first | (with_reducible first | exact HK.out | apply KeepBut.set_ | apply keep_drewN | apply keep_drew | apply keep_alloc | refine keep_far ?_ GW344.out _ | refine keep_far ?_ GW345.out _) | exact HK.out)) hk (.inl rfl)); have n3_ := Aside0.mk (hb); have n4_ := Aside0.mk (hi); clear BK344; clear BK345; clear HK; clear HB; clear HI1; have BK344 := n0_; have BK345 := n1_; have HK := n2_; have HB := n3_; have HI1 := n4_; clear n0_ n1_ n2_ n3_ n4_; (try clear hb); (try clear hb2); (try clear hk); (try clear hi); have hnb11 := NB344_345.out; have hnc11 := NB345_344.out; have hnb12 := NB344_1.out; have hnc12 := NB1_344.out; have hcz13_0 : w10.cell? ⟨gb344, 0, none⟩ = some (.int .i64 0) := (blk_cell BK344.out 0).trans rfl; have hcz13_1 : w10.cell? ⟨gb344, 1, none⟩ = some (.int .i64 0) := (blk_cell BK344.out 1).trans rfl; have hfz13_0 := blk_frozen BK344.out 0; have hfz13_1 := blk_frozen BK344.out 1; have hnb14 := NB345_1.out; have hnc14 := NB1_345.out; have hcz15_0 : w10.cell? ⟨gb345, 0, none⟩ = some (.int .i64 0) := (blk_cell BK345.out 0).trans rfl; have hcz15_1 : w10.cell? ⟨gb345, 1, none⟩ = some (.int .i64 0) := (blk_cell BK345.out 1).trans rfl; have hfz15_0 := blk_frozen BK345.out 0; have hfz15_1 := blk_frozen BK345.out 1))
  refine bodyPost_ret (results_list (rs := [.cell 2 23, .cell 3 23, .tmp 4]) rfl (by simp) (.cell gb344 23 #[.int .i64 t346, .int .i64 t347] (0, 0) _ rfl (by (with_reducible repeat (first | refine blk_drewN ?_ _ | refine blk_drew ?_ | refine blk_alloc ?_ _)); refine blk_far ?_ NB344_345.out _; (with_reducible repeat (first | refine blk_drewN ?_ _ | refine blk_drew ?_ | refine blk_alloc ?_ _)); refine blk_far ?_ NB344_345.out _; (with_reducible repeat (first | refine blk_drewN ?_ _ | refine blk_drew ?_ | refine blk_alloc ?_ _)); refine blk_put (cs := #[.int .i64 t346, .int .i64 0]) ?_ 1 _ rfl; (with_reducible repeat (first | refine blk_drewN ?_ _ | refine blk_drew ?_ | refine blk_alloc ?_ _)); refine blk_put (cs := #[.int .i64 0, .int .i64 0]) ?_ 0 _ rfl; (with_reducible repeat (first | refine blk_drewN ?_ _ | refine blk_drew ?_ | refine blk_alloc ?_ _)); exact BK344.out) Try.underlying23 rfl (by kernel_rfl) (.cell gb345 23 #[.int .i64 t350, .int .i64 t351] (0, 0) _ rfl (by (with_reducible repeat (first | refine blk_drewN ?_ _ | refine blk_drew ?_ | refine blk_alloc ?_ _)); refine blk_put (cs := #[.int .i64 t350, .int .i64 0]) ?_ 1 _ rfl; (with_reducible repeat (first | refine blk_drewN ?_ _ | refine blk_drew ?_ | refine blk_alloc ?_ _)); refine blk_put (cs := #[.int .i64 0, .int .i64 0]) ?_ 0 _ rfl; (with_reducible repeat (first | refine blk_drewN ?_ _ | refine blk_drew ?_ | refine blk_alloc ?_ _)); refine blk_far ?_ NB345_344.out _; (with_reducible repeat (first | refine blk_drewN ?_ _ | refine blk_drew ?_ | refine blk_alloc ?_ _)); refine blk_far ?_ NB345_344.out _; (with_reducible repeat (first | refine blk_drewN ?_ _ | refine blk_drew ?_ | refine blk_alloc ?_ _)); exact BK345.out) Try.underlying23 rfl (by kernel_rfl) (.tmp .nil)))) rfl ?_
  exact ⟨by first | rfl | (simp [errW_none, errW_some] <;> rfl) | (simp [*, errW_none, errW_some] <;> rfl), by repeat (first | (with_reducible first | exact HI1.out | apply IsS69.alloc | apply IsS69.drewN | apply IsS69.drew | apply IsS69.set_1 | apply IsS69.set_2 | refine IsS69.far ?_ NB1_344.out _ | refine IsS69.far ?_ NB1_345.out _) | exact HI1.out), by repeat (first | (with_reducible first | exact HB.out | apply below_alloc | apply pw_below_drewN | apply below_drew1 | refine below_set ?_ (IsS69.ge HI1.out) | refine below_set ?_ GE344.out | refine below_set ?_ GE345.out) | exact HB.out), by repeat (first | (with_reducible first | exact HK.out | apply KeepBut.set_ | apply keep_drewN | apply keep_drew | apply keep_alloc | refine keep_far ?_ GW344.out _ | refine keep_far ?_ GW345.out _) | exact HK.out)⟩

/-! ### spec_DrawCountTrainsMet: function 26 -/
def spec_DrawCountTrainsMet.i.f (l0 : List Int) (s1_0 : List Int) (s1_1 : Int) (s1_2 : Int) : Option (Int × Int × Bool × Int × Int) := (spec_l1Cur_among.f s1_0 s1_1 s1_2 (([1, 2, 3, 7, 12, 60, 10000, 10001, 0] : List Int))).bind fun bt360 => ((spec_l1Cur_among.f s1_0 bt360.2.1 bt360.2.2 (([1, 2, 3, 5, 12, 60, 10000, 10001, 0] : List Int))).bind fun bt366 => ((spec_l1Cur_one.f s1_0 bt366.2.1 bt366.2.2 2).bind fun bt369 => (some (bt360.1, bt366.1, bt369.1, bt369.2.1, bt369.2.2))))
def spec_DrawCountTrainsMet.f (l0 : List Int) : Option (Int × Int × Bool) := (spec_DrawCountTrainsMet.i.f l0 l0 0 0).bind fun b => some (b.1, b.2.1, b.2.2.1)
set_option maxHeartbeats 8000000 in
set_option maxRecDepth 100000 in
theorem spec_DrawCountTrainsMet.calls (A0 : Option Addr) (c0 : Nat) (l0 : List Int) (r1 : Int) (r2 : Int) (r3 : Bool) (wz_ : World) (hr0 : Kd.C (Kd.int .u8) wz_ A0 l0.length l0) (hc0 : l0.length ≤ c0) (h : spec_DrawCountTrainsMet.f l0 = some (r1, r2, r3)) :
    Calls Try.prog 26 #[.slice A0 l0.length c0] wz_ fun e w' => e = .returned (.tuple #[.int .i64 r1, .int .i64 r2, .bool r3]) ∧ Below wz_.heap.size wz_ w' := by
  obtain ⟨b_, hb0_, h⟩ := Option.bind_eq_some_iff.mp h
  obtain ⟨r1z_, r2z_, r3z_, r4, r5⟩ := b_
  simp only [Option.some.injEq, Prod.mk.injEq] at h
  obtain ⟨hq0_, hq1_, hq2_⟩ := h
  obtain rfl := hq0_.symm
  obtain rfl := hq1_.symm
  obtain rfl := hq2_.symm
  suffices hh_ : ∀ (w0 w : World) (g : Nat), w0 = wz_ → g = wz_.heap.size → w = wz_.alloc (.cells #[.slice A0 l0.length c0, .int .i64 0, .int .u64 0] 69 (0, 0)) → Calls Try.prog 26 #[.slice A0 l0.length c0] wz_ fun e w' => e = .returned (.tuple #[.int .i64 r1, .int .i64 r2, .bool r3]) ∧ IsS69 w0 w' g l0 r4 r5 ∧ Below w0.heap.size w0 w' ∧ KeepBut w w' g none by
    refine (hh_ wz_ _ _ rfl rfl rfl).mono ?_
    rintro e w' ⟨he_, _, hb_, _⟩
    exact ⟨he_, hb_⟩
  intro w0 w g HW0_ HG_ HW_
  have hI : IsS69 w0 w g l0 0 0 := by rw [HG_, HW_, HW0_]; exact IsS69.new _ _ _ c0 _ _ _ (Below.refl _ _) hr0
  have hB : Below w0.heap.size w0 w := by rw [HW0_, HW_]; exact below_alloc (Below.refl _ _) _
  have hf0 : ∀ ad, A0 = some ad → 0 < l0.length → ad.block ≠ g := by
    intro ad hA_ hn_ he_
    obtain ⟨ad2_, e2_, hx_⟩ := Kd.at_int hr0 0 (by omega) (by omega)
    rw [hA_] at e2_
    injection e2_ with e2_
    subst e2_
    have hlt_ := World.block_lt_of_cell? wz_ _ hx_
    rw [add_block, he_, HG_] at hlt_
    omega
  have hr0' : Kd.C (Kd.int .u8) w A0 l0.length l0 := by rw [HW_]; exact Kd.C_alloc hr0 _
  clear hr0
  have hr0 := hr0'
  clear hr0'
  have HWZ := Aside0.mk HW_
  have HGZ := Aside0.mk HG_
  clear HW_ HG_ HW0_
  have h := hb0_
  clear hb0_
  have HR0 := Aside0.mk hr0
  have HC0 := Aside0.mk hc0
  clear hr0 hc0
  have HI1 := Aside0.mk hI
  have HK := Aside0.mk (KeepBut.refl w g none)
  have HL := Aside0.mk hB.size
  clear hI
  have HW0 := Aside0.mk hB.size
  have HB := Aside0.mk hB
  clear hB
  have H : ((spec_l1Cur_among.f l0 0 0 (([1, 2, 3, 7, 12, 60, 10000, 10001, 0] : List Int))).bind fun bt360 => ((spec_l1Cur_among.f l0 bt360.2.1 bt360.2.2 (([1, 2, 3, 5, 12, 60, 10000, 10001, 0] : List Int))).bind fun bt366 => ((spec_l1Cur_one.f l0 bt366.2.1 bt366.2.2 2).bind fun bt369 => (some (bt360.1, bt366.1, bt369.1, bt369.2.1, bt369.2.2))))) = some (r1, r2, r3, r4, r5) := h
  clear h
  obtain ⟨y357, hy357⟩ : ∃ y_ : List Int, y_ = (([1, 2, 3, 7, 12, 60, 10000, 10001, 0] : List Int)) := ⟨_, rfl⟩
  replace H : ((spec_l1Cur_among.f l0 0 0 y357).bind fun bt360 => ((spec_l1Cur_among.f l0 bt360.2.1 bt360.2.2 (([1, 2, 3, 5, 12, 60, 10000, 10001, 0] : List Int))).bind fun bt366 => ((spec_l1Cur_one.f l0 bt366.2.1 bt366.2.2 2).bind fun bt369 => (some (bt360.1, bt366.1, bt369.1, bt369.2.1, bt369.2.2))))) = some (r1, r2, r3, r4, r5) := by first | (rw [hy357]; with_reducible exact H) | (have H2_ := (Option.bind_some _ _).symm.trans H; rw [hy357]; with_reducible exact H2_) | (have H2_ := (Option.bind_some _ _).symm.trans H; with_reducible exact H2_) | with_reducible exact H | (rw [hy357]; exact H) | exact H
  have Ny357 := Aside0.mk hy357
  clear hy357
  replace H := Option.bind_eq_some_iff.mp H
  obtain ⟨⟨t360, t361, t362⟩, A30, H⟩ := H
  replace H : ((spec_l1Cur_among.f l0 t361 t362 (([1, 2, 3, 5, 12, 60, 10000, 10001, 0] : List Int))).bind fun bt366 => ((spec_l1Cur_one.f l0 bt366.2.1 bt366.2.2 2).bind fun bt369 => (some (t360, bt366.1, bt369.1, bt369.2.1, bt369.2.2)))) = some (r1, r2, r3, r4, r5) := H
  have A3 := Aside0.mk A30
  clear A30
  obtain ⟨y363, hy363⟩ : ∃ y_ : List Int, y_ = (([1, 2, 3, 5, 12, 60, 10000, 10001, 0] : List Int)) := ⟨_, rfl⟩
  replace H : ((spec_l1Cur_among.f l0 t361 t362 y363).bind fun bt366 => ((spec_l1Cur_one.f l0 bt366.2.1 bt366.2.2 2).bind fun bt369 => (some (t360, bt366.1, bt369.1, bt369.2.1, bt369.2.2)))) = some (r1, r2, r3, r4, r5) := by first | (rw [hy363]; with_reducible exact H) | (have H2_ := (Option.bind_some _ _).symm.trans H; rw [hy363]; with_reducible exact H2_) | (have H2_ := (Option.bind_some _ _).symm.trans H; with_reducible exact H2_) | with_reducible exact H | (rw [hy363]; exact H) | exact H
  have Ny363 := Aside0.mk hy363
  clear hy363
  replace H := Option.bind_eq_some_iff.mp H
  obtain ⟨⟨t366, t367, t368⟩, A40, H⟩ := H
  replace H : ((spec_l1Cur_one.f l0 t367 t368 2).bind fun bt369 => (some (t360, t366, bt369.1, bt369.2.1, bt369.2.2))) = some (r1, r2, r3, r4, r5) := H
  have A4 := Aside0.mk A40
  clear A40
  replace H := Option.bind_eq_some_iff.mp H
  obtain ⟨⟨t369, t370, t371⟩, A50, H⟩ := H
  replace H : (some (t360, t366, t369, t370, t371)) = some (r1, r2, r3, r4, r5) := H
  have A5 := Aside0.mk A50
  clear A50
  simp only [Option.some.injEq, Prod.mk.injEq] at H
  obtain ⟨rfl, rfl, rfl, rfl, rfl⟩ := H
  go_enter Try.func26, Try.ntmps26
  go_upto_region 2 with (fail)
  rw [← HWZ.out, ← HGZ.out]
  go_wp2_with (first | ((with_reducible refine gate_dst (N := 10) rfl ?_); refine Kd.R_lit (Kd.int .i64) _ 3 ?hg (N := 10) ?hd (xs := ([1, 2, 3, 7, 12, 60, 10000, 10001, 0] : List Int)) (inner := [.int .i64 1, .int .i64 2, .int .i64 3, .int .i64 7, .int .i64 12, .int .i64 60, .int .i64 10000, .int .i64 10001, .int .i64 0]) (ok := fun _ => True) (okp := fun _ => True) ?hr ?hp (fun _ hk => hk) trivial (Below.refl _ _) (Nat.le_refl _) (by simp) ?_; (case hd => rfl); (case hg => rfl); (case hr => first | (go_simp; done) | (go_simp; rfl)); (case hp => exact (Reps.one (show Kd.M (Kd.int .i64) _ _ _ 1 [.int .i64 1] from rfl) (Reps.one (show Kd.M (Kd.int .i64) _ _ _ 2 [.int .i64 2] from rfl) (Reps.one (show Kd.M (Kd.int .i64) _ _ _ 3 [.int .i64 3] from rfl) (Reps.one (show Kd.M (Kd.int .i64) _ _ _ 7 [.int .i64 7] from rfl) (Reps.one (show Kd.M (Kd.int .i64) _ _ _ 12 [.int .i64 12] from rfl) (Reps.one (show Kd.M (Kd.int .i64) _ _ _ 60 [.int .i64 60] from rfl) (Reps.one (show Kd.M (Kd.int .i64) _ _ _ 10000 [.int .i64 10000] from rfl) (Reps.one (show Kd.M (Kd.int .i64) _ _ _ 10001 [.int .i64 10001] from rfl) (Reps.one (show Kd.M (Kd.int .i64) _ _ _ 0 [.int .i64 0] from rfl) (Reps.none _ _))))))))))); intro v358 w6 ho7 hb hg_ hnew_; clear hg_ hnew_; (first | rw [← Ny357.out] at ho7 | (simp only [Int.reduceToNat] at ho7; rw [← Ny357.out] at ho7)); have n0_ := Aside0.mk (Kd.R_lower ho7 (keep_size (w := w) (g := g) (row := none) (by repeat (first | (with_reducible first | exact HK.out | apply KeepBut.set_ | apply keep_drewN | apply keep_drew | apply keep_alloc) | exact HK.out)))); have n1_ := Aside0.mk (IsS69.below (by repeat (first | (with_reducible first | exact HI1.out | apply IsS69.alloc | apply IsS69.drewN | apply IsS69.drew | apply IsS69.set_1 | apply IsS69.set_2) | exact HI1.out)) hb); have n2_ := Aside0.mk (KeepBut.trans (by repeat (first | (with_reducible first | exact HK.out | apply KeepBut.set_ | apply keep_drewN | apply keep_drew | apply keep_alloc) | exact HK.out)) (KeepBut.of_below hb g none) (.inl rfl)); have n3_ := Aside0.mk (below_step (by repeat (first | (with_reducible first | exact HB.out | apply below_alloc | apply pw_below_drewN | apply below_drew1 | refine below_set ?_ (IsS69.ge HI1.out)) | exact HB.out)) hb); clear HI1; clear HK; clear HB; have HO359 := n0_; have HI1 := n1_; have HK := n2_; have HB := n3_; clear n0_ n1_ n2_ n3_; clear hb ho7; obtain ⟨Ao8, co8, eo8⟩ := Kd.R_slice HO359.out; subst eo8) | ((with_reducible refine gate_callee (f := 50) rfl ?_); refine goesL_ (some 11) rfl rfl Try.func50 (by kernel_rfl) rfl #[.pointer (some ⟨g, 0, none⟩), .slice Ao8 y357.length co8] rfl (by (try simp only [List.map_toArray, List.map_cons, List.map_nil]); first | done | rfl | (simp only [List.length_drop, List.length_take]; rfl)) ?_; (with_reducible refine (spec_l1Cur_among.calls g l0 0 0 _ _ y357 t360 t361 t362 w0 _ ?side1 ?side2 ?side3 ?side4 ?side5 A3.out).mono ?_); (case side1 => repeat (first | (with_reducible first | exact HI1.out | apply IsS69.alloc | apply IsS69.drewN | apply IsS69.drew | apply IsS69.set_1 | apply IsS69.set_2) | exact HI1.out)); (case side2 => repeat (first | (with_reducible first | exact HB.out | apply below_alloc | apply pw_below_drewN | apply below_drew1 | refine below_set ?_ (IsS69.ge HI1.out)) | exact HB.out)); (case side3 => repeat (first | exact (Kd.R_reads' HO359.out).2.2 | (with_reducible refine Kd.C_alloc ?_ _) | (with_reducible refine Kd.C_drewN ?_ _) | (with_reducible refine Kd.C_drew ?_))); (case side4 => exact (Kd.R_reads' HO359.out).2.1); (case side5 => exact far_slice (IsS69.own_ne HI1.out HO359.out (by decide))); rintro e w9 ⟨rfl, hi, hb, hk⟩; refine ⟨_, rfl, ?_⟩; have n0_ := Aside0.mk (Kd.R_mono (Kd.R_keep (IsS69.apart (show IsS69 w0 _ g l0 0 0 from by repeat (first | (with_reducible first | exact HI1.out | apply IsS69.alloc | apply IsS69.drewN | apply IsS69.drew | apply IsS69.set_1 | apply IsS69.set_2) | exact HI1.out)) (kd_to HO359) (by decide)) hk (fun _ h => h.2)) (fun _ h => h.1)); have n1_ := Aside0.mk (KeepBut.trans (by repeat (first | (with_reducible first | exact HK.out | apply KeepBut.set_ | apply keep_drewN | apply keep_drew | apply keep_alloc) | exact HK.out)) hk (.inl rfl)); have n2_ := Aside0.mk (hb); have n3_ := Aside0.mk (hi); clear HO359; clear HK; clear HB; clear HI1; have HO359 := n0_; have HK := n1_; have HB := n2_; have HI1 := n3_; clear n0_ n1_ n2_ n3_; (try clear hb); (try clear hb2); (try clear hk); (try clear hi)) | ((with_reducible refine gate_dst (N := 13) rfl ?_); refine Kd.R_lit (Kd.int .i64) _ 3 ?hg (N := 13) ?hd (xs := ([1, 2, 3, 5, 12, 60, 10000, 10001, 0] : List Int)) (inner := [.int .i64 1, .int .i64 2, .int .i64 3, .int .i64 5, .int .i64 12, .int .i64 60, .int .i64 10000, .int .i64 10001, .int .i64 0]) (ok := fun _ => True) (okp := fun _ => True) ?hr ?hp (fun _ hk => hk) trivial (Below.refl _ _) (Nat.le_refl _) (by simp) ?_; (case hd => rfl); (case hg => rfl); (case hr => first | (go_simp; done) | (go_simp; rfl)); (case hp => exact (Reps.one (show Kd.M (Kd.int .i64) _ _ _ 1 [.int .i64 1] from rfl) (Reps.one (show Kd.M (Kd.int .i64) _ _ _ 2 [.int .i64 2] from rfl) (Reps.one (show Kd.M (Kd.int .i64) _ _ _ 3 [.int .i64 3] from rfl) (Reps.one (show Kd.M (Kd.int .i64) _ _ _ 5 [.int .i64 5] from rfl) (Reps.one (show Kd.M (Kd.int .i64) _ _ _ 12 [.int .i64 12] from rfl) (Reps.one (show Kd.M (Kd.int .i64) _ _ _ 60 [.int .i64 60] from rfl) (Reps.one (show Kd.M (Kd.int .i64) _ _ _ 10000 [.int .i64 10000] from rfl) (Reps.one (show Kd.M (Kd.int .i64) _ _ _ 10001 [.int .i64 10001] from rfl) (Reps.one (show Kd.M (Kd.int .i64) _ _ _ 0 [.int .i64 0] from rfl) (Reps.none _ _))))))))))); intro v364 w10 ho11 hb hg_ hnew_; clear hg_ hnew_; (first | rw [← Ny363.out] at ho11 | (simp only [Int.reduceToNat] at ho11; rw [← Ny363.out] at ho11)); have n0_ := Aside0.mk (Kd.R_elder' (kd_to HO359) (Kd.R_base ho11) hb); have n1_ := Aside0.mk (Kd.R_lower (Kd.R_new' ho11 (Kd.R_lt (kd_to HO359))) (keep_size (w := w) (g := g) (row := none) (by repeat (first | (with_reducible first | exact HK.out | apply KeepBut.set_ | apply keep_drewN | apply keep_drew | apply keep_alloc) | exact HK.out)))); have n2_ := Aside0.mk (IsS69.below (by repeat (first | (with_reducible first | exact HI1.out | apply IsS69.alloc | apply IsS69.drewN | apply IsS69.drew | apply IsS69.set_1 | apply IsS69.set_2) | exact HI1.out)) hb); have n3_ := Aside0.mk (KeepBut.trans (by repeat (first | (with_reducible first | exact HK.out | apply KeepBut.set_ | apply keep_drewN | apply keep_drew | apply keep_alloc) | exact HK.out)) (KeepBut.of_below hb g none) (.inl rfl)); have n4_ := Aside0.mk (below_step (by repeat (first | (with_reducible first | exact HB.out | apply below_alloc | apply pw_below_drewN | apply below_drew1 | refine below_set ?_ (IsS69.ge HI1.out)) | exact HB.out)) hb); clear HO359; clear HI1; clear HK; clear HB; have HO359 := n0_; have HO365 := n1_; have HI1 := n2_; have HK := n3_; have HB := n4_; clear n0_ n1_ n2_ n3_ n4_; clear hb ho11; obtain ⟨Ao12, co12, eo12⟩ := Kd.R_slice HO365.out; subst eo12) | ((with_reducible refine gate_callee (f := 50) rfl ?_); refine goesL_ (some 14) rfl rfl Try.func50 (by kernel_rfl) rfl #[.pointer (some ⟨g, 0, none⟩), .slice Ao12 y363.length co12] rfl (by (try simp only [List.map_toArray, List.map_cons, List.map_nil]); first | done | rfl | (simp only [List.length_drop, List.length_take]; rfl)) ?_; (with_reducible refine (spec_l1Cur_among.calls g l0 t361 t362 _ _ y363 t366 t367 t368 w0 _ ?side1 ?side2 ?side3 ?side4 ?side5 A4.out).mono ?_); (case side1 => repeat (first | (with_reducible first | exact HI1.out | apply IsS69.alloc | apply IsS69.drewN | apply IsS69.drew | apply IsS69.set_1 | apply IsS69.set_2) | exact HI1.out)); (case side2 => repeat (first | (with_reducible first | exact HB.out | apply below_alloc | apply pw_below_drewN | apply below_drew1 | refine below_set ?_ (IsS69.ge HI1.out)) | exact HB.out)); (case side3 => repeat (first | exact (Kd.R_reads' HO365.out).2.2 | (with_reducible refine Kd.C_alloc ?_ _) | (with_reducible refine Kd.C_drewN ?_ _) | (with_reducible refine Kd.C_drew ?_))); (case side4 => exact (Kd.R_reads' HO365.out).2.1); (case side5 => exact far_slice (IsS69.own_ne HI1.out HO365.out (by decide))); rintro e w13 ⟨rfl, hi, hb, hk⟩; refine ⟨_, rfl, ?_⟩; have n0_ := Aside0.mk (Kd.R_mono (Kd.R_keep (IsS69.apart (show IsS69 w0 _ g l0 t361 t362 from by repeat (first | (with_reducible first | exact HI1.out | apply IsS69.alloc | apply IsS69.drewN | apply IsS69.drew | apply IsS69.set_1 | apply IsS69.set_2) | exact HI1.out)) (kd_to HO359) (by decide)) hk (fun _ h => h.2)) (fun _ h => h.1)); have n1_ := Aside0.mk (Kd.R_mono (Kd.R_keep (IsS69.apart (show IsS69 w0 _ g l0 t361 t362 from by repeat (first | (with_reducible first | exact HI1.out | apply IsS69.alloc | apply IsS69.drewN | apply IsS69.drew | apply IsS69.set_1 | apply IsS69.set_2) | exact HI1.out)) (kd_to HO365) (by decide)) hk (fun _ h => h.2)) (fun _ h => h.1)); have n2_ := Aside0.mk (KeepBut.trans (by repeat (first | (with_reducible first | exact HK.out | apply KeepBut.set_ | apply keep_drewN | apply keep_drew | apply keep_alloc) | exact HK.out)) hk (.inl rfl)); have n3_ := Aside0.mk (hb); have n4_ := Aside0.mk (hi); clear HO359; clear HO365; clear HK; clear HB; clear HI1; have HO359 := n0_; have HO365 := n1_; have HK := n2_; have HB := n3_; have HI1 := n4_; clear n0_ n1_ n2_ n3_ n4_; (try clear hb); (try clear hb2); (try clear hk); (try clear hi)) | ((with_reducible refine gate_callee (f := 51) rfl ?_); refine goesL_ (some 16) rfl rfl Try.func51 (by kernel_rfl) rfl #[.pointer (some ⟨g, 0, none⟩), .int .i64 2] rfl (by (try simp only [List.map_toArray, List.map_cons, List.map_nil]); first | done | rfl | (simp only [List.length_drop, List.length_take]; rfl)) ?_; (with_reducible refine (spec_l1Cur_one.calls g l0 t367 t368 2 t369 t370 t371 w0 _ ?side1 ?side2 A5.out).mono ?_); (case side1 => repeat (first | (with_reducible first | exact HI1.out | apply IsS69.alloc | apply IsS69.drewN | apply IsS69.drew | apply IsS69.set_1 | apply IsS69.set_2) | exact HI1.out)); (case side2 => repeat (first | (with_reducible first | exact HB.out | apply below_alloc | apply pw_below_drewN | apply below_drew1 | refine below_set ?_ (IsS69.ge HI1.out)) | exact HB.out)); rintro e w14 ⟨rfl, hi, hb, hk⟩; refine ⟨_, rfl, ?_⟩; have n0_ := Aside0.mk (Kd.R_mono (Kd.R_keep (IsS69.apart (show IsS69 w0 _ g l0 t367 t368 from by repeat (first | (with_reducible first | exact HI1.out | apply IsS69.alloc | apply IsS69.drewN | apply IsS69.drew | apply IsS69.set_1 | apply IsS69.set_2) | exact HI1.out)) (kd_to HO359) (by decide)) hk (fun _ h => h.2)) (fun _ h => h.1)); have n1_ := Aside0.mk (Kd.R_mono (Kd.R_keep (IsS69.apart (show IsS69 w0 _ g l0 t367 t368 from by repeat (first | (with_reducible first | exact HI1.out | apply IsS69.alloc | apply IsS69.drewN | apply IsS69.drew | apply IsS69.set_1 | apply IsS69.set_2) | exact HI1.out)) (kd_to HO365) (by decide)) hk (fun _ h => h.2)) (fun _ h => h.1)); have n2_ := Aside0.mk (KeepBut.trans (by repeat (first | (with_reducible first | exact HK.out | apply KeepBut.set_ | apply keep_drewN | apply keep_drew | apply keep_alloc) | exact HK.out)) hk (.inl rfl)); have n3_ := Aside0.mk (hb); have n4_ := Aside0.mk (hi); clear HO359; clear HO365; clear HK; clear HB; clear HI1; have HO359 := n0_; have HO365 := n1_; have HK := n2_; have HB := n3_; have HI1 := n4_; clear n0_ n1_ n2_ n3_ n4_; (try clear hb); (try clear hb2); (try clear hk); (try clear hi)))
  go_ret3
  exact ⟨by first | rfl | (simp [errW_none, errW_some] <;> rfl) | (simp [*, errW_none, errW_some] <;> rfl), by repeat (first | (with_reducible first | exact HI1.out | apply IsS69.alloc | apply IsS69.drewN | apply IsS69.drew | apply IsS69.set_1 | apply IsS69.set_2) | exact HI1.out), by repeat (first | (with_reducible first | exact HB.out | apply below_alloc | apply pw_below_drewN | apply below_drew1 | refine below_set ?_ (IsS69.ge HI1.out)) | exact HB.out), by repeat (first | (with_reducible first | exact HK.out | apply KeepBut.set_ | apply keep_drewN | apply keep_drew | apply keep_alloc) | exact HK.out)⟩

/-! ### spec_DrawMetAt: function 27 -/
def spec_DrawMetAt.i.f (l0 : List Int) (s1_0 : List Int) (s1_1 : Int) (s1_2 : Int) : Option (Int × Int × Int × Int × Int) := (spec_DrawCountTrainsMet.f l0).bind fun bt372 => ((spec_l1Cur_pick.f s1_0 s1_1 s1_2 9).bind fun bt375 => ((spec_l1Cur_pick.f s1_0 bt375.2.1 bt375.2.2 9).bind fun bt378 => (some (bt372.1, bt372.2.1, wrap64 (bt375.1 - (wrap64 (Int.tdiv bt378.1 8))), bt378.2.1, bt378.2.2))))
def spec_DrawMetAt.f (l0 : List Int) : Option (Int × Int × Int) := (spec_DrawMetAt.i.f l0 l0 0 0).bind fun b => some (b.1, b.2.1, b.2.2.1)
set_option maxHeartbeats 8000000 in
set_option maxRecDepth 100000 in
theorem spec_DrawMetAt.calls (A0 : Option Addr) (c0 : Nat) (l0 : List Int) (r1 : Int) (r2 : Int) (r3 : Int) (wz_ : World) (hr0 : Kd.C (Kd.int .u8) wz_ A0 l0.length l0) (hc0 : l0.length ≤ c0) (h : spec_DrawMetAt.f l0 = some (r1, r2, r3)) :
    Calls Try.prog 27 #[.slice A0 l0.length c0] wz_ fun e w' => e = .returned (.tuple #[.int .i64 r1, .int .i64 r2, .int .i64 r3]) ∧ Below wz_.heap.size wz_ w' := by
  obtain ⟨b_, hb0_, h⟩ := Option.bind_eq_some_iff.mp h
  obtain ⟨r1z_, r2z_, r3z_, r4, r5⟩ := b_
  simp only [Option.some.injEq, Prod.mk.injEq] at h
  obtain ⟨hq0_, hq1_, hq2_⟩ := h
  obtain rfl := hq0_.symm
  obtain rfl := hq1_.symm
  obtain rfl := hq2_.symm
  suffices hh_ : ∀ (w0 w : World) (g : Nat), w0 = wz_ → g = wz_.heap.size → w = wz_.alloc (.cells #[.slice A0 l0.length c0, .int .i64 0, .int .u64 0] 69 (0, 0)) → Calls Try.prog 27 #[.slice A0 l0.length c0] wz_ fun e w' => e = .returned (.tuple #[.int .i64 r1, .int .i64 r2, .int .i64 r3]) ∧ IsS69 w0 w' g l0 r4 r5 ∧ Below w0.heap.size w0 w' ∧ KeepBut w w' g none by
    refine (hh_ wz_ _ _ rfl rfl rfl).mono ?_
    rintro e w' ⟨he_, _, hb_, _⟩
    exact ⟨he_, hb_⟩
  intro w0 w g HW0_ HG_ HW_
  have hI : IsS69 w0 w g l0 0 0 := by rw [HG_, HW_, HW0_]; exact IsS69.new _ _ _ c0 _ _ _ (Below.refl _ _) hr0
  have hB : Below w0.heap.size w0 w := by rw [HW0_, HW_]; exact below_alloc (Below.refl _ _) _
  have hf0 : ∀ ad, A0 = some ad → 0 < l0.length → ad.block ≠ g := by
    intro ad hA_ hn_ he_
    obtain ⟨ad2_, e2_, hx_⟩ := Kd.at_int hr0 0 (by omega) (by omega)
    rw [hA_] at e2_
    injection e2_ with e2_
    subst e2_
    have hlt_ := World.block_lt_of_cell? wz_ _ hx_
    rw [add_block, he_, HG_] at hlt_
    omega
  have hr0' : Kd.C (Kd.int .u8) w A0 l0.length l0 := by rw [HW_]; exact Kd.C_alloc hr0 _
  clear hr0
  have hr0 := hr0'
  clear hr0'
  have HWZ := Aside0.mk HW_
  have HGZ := Aside0.mk HG_
  clear HW_ HG_ HW0_
  have h := hb0_
  clear hb0_
  have HR0 := Aside0.mk hr0
  have HC0 := Aside0.mk hc0
  clear hr0 hc0
  have HI1 := Aside0.mk hI
  have HK := Aside0.mk (KeepBut.refl w g none)
  have HL := Aside0.mk hB.size
  clear hI
  have HW0 := Aside0.mk hB.size
  have HB := Aside0.mk hB
  clear hB
  have H : ((spec_DrawCountTrainsMet.f l0).bind fun bt372 => ((spec_l1Cur_pick.f l0 0 0 9).bind fun bt375 => ((spec_l1Cur_pick.f l0 bt375.2.1 bt375.2.2 9).bind fun bt378 => (some (bt372.1, bt372.2.1, wrap64 (bt375.1 - (wrap64 (Int.tdiv bt378.1 8))), bt378.2.1, bt378.2.2))))) = some (r1, r2, r3, r4, r5) := h
  clear h
  replace H := Option.bind_eq_some_iff.mp H
  obtain ⟨⟨t372, t373, t374⟩, A30, H⟩ := H
  replace H : ((spec_l1Cur_pick.f l0 0 0 9).bind fun bt375 => ((spec_l1Cur_pick.f l0 bt375.2.1 bt375.2.2 9).bind fun bt378 => (some (t372, t373, wrap64 (bt375.1 - (wrap64 (Int.tdiv bt378.1 8))), bt378.2.1, bt378.2.2)))) = some (r1, r2, r3, r4, r5) := H
  have A3 := Aside0.mk A30
  clear A30
  replace H := Option.bind_eq_some_iff.mp H
  obtain ⟨⟨t375, t376, t377⟩, A40, H⟩ := H
  replace H : ((spec_l1Cur_pick.f l0 t376 t377 9).bind fun bt378 => (some (t372, t373, wrap64 (t375 - (wrap64 (Int.tdiv bt378.1 8))), bt378.2.1, bt378.2.2))) = some (r1, r2, r3, r4, r5) := H
  have A4 := Aside0.mk A40
  clear A40
  replace H := Option.bind_eq_some_iff.mp H
  obtain ⟨⟨t378, t379, t380⟩, A50, H⟩ := H
  replace H : (some (t372, t373, wrap64 (t375 - (wrap64 (Int.tdiv t378 8))), t379, t380)) = some (r1, r2, r3, r4, r5) := H
  have A5 := Aside0.mk A50
  clear A50
  simp only [Option.some.injEq, Prod.mk.injEq] at H
  obtain ⟨rfl, rfl, rfl, rfl, rfl⟩ := H
  go_enter Try.func27, Try.ntmps27
  go_upto_region 2 with (fail)
  rw [← HWZ.out, ← HGZ.out]
  go_wp2_with (first | ((with_reducible refine gate_callee (f := 26) rfl ?_); refine goesL_ (some 14) rfl rfl Try.func26 (by kernel_rfl) rfl #[.slice A0 l0.length c0] rfl (by (try simp only [List.map_toArray, List.map_cons, List.map_nil]); first | done | rfl | (simp only [List.length_drop, List.length_take]; rfl)) ?_; (with_reducible refine (spec_DrawCountTrainsMet.calls _ _ l0 t372 t373 t374 _ ?side1 ?side2 A3.out).mono ?_); (case side1 => exact Kd.C_keep 0 HR0.out (by repeat (first | (with_reducible first | exact HK.out | apply KeepBut.set_ | apply keep_drewN | apply keep_drew | apply keep_alloc) | exact HK.out)) hf0); (case side2 => exact HC0.out); rintro e w6 ⟨rfl, hb⟩; refine ⟨_, rfl, ?_⟩; have n0_ := Aside0.mk (IsS69.below (by repeat (first | (with_reducible first | exact HI1.out | apply IsS69.alloc | apply IsS69.drewN | apply IsS69.drew | apply IsS69.set_1 | apply IsS69.set_2) | exact HI1.out)) hb); have n1_ := Aside0.mk (KeepBut.trans (by repeat (first | (with_reducible first | exact HK.out | apply KeepBut.set_ | apply keep_drewN | apply keep_drew | apply keep_alloc) | exact HK.out)) (KeepBut.of_below hb g none) (.inl rfl)); have n2_ := Aside0.mk (below_step (by repeat (first | (with_reducible first | exact HB.out | apply below_alloc | apply pw_below_drewN | apply below_drew1 | refine below_set ?_ (IsS69.ge HI1.out)) | exact HB.out)) hb); clear HI1; clear HK; clear HB; have HI1 := n0_; have HK := n1_; have HB := n2_; clear n0_ n1_ n2_; (try clear hb); (try clear hb2); (try clear hk); (try clear hi)) | ((with_reducible refine gate_callee (f := 52) rfl ?_); refine goesL_ (some 21) rfl rfl Try.func52 (by kernel_rfl) rfl #[.pointer (some ⟨g, 0, none⟩), .int .i64 9] rfl (by (try simp only [List.map_toArray, List.map_cons, List.map_nil]); first | done | rfl | (simp only [List.length_drop, List.length_take]; rfl)) ?_; (with_reducible refine (spec_l1Cur_pick.calls g l0 0 0 9 t375 t376 t377 w0 _ ?side1 ?side2 A4.out).mono ?_); (case side1 => repeat (first | (with_reducible first | exact HI1.out | apply IsS69.alloc | apply IsS69.drewN | apply IsS69.drew | apply IsS69.set_1 | apply IsS69.set_2) | exact HI1.out)); (case side2 => repeat (first | (with_reducible first | exact HB.out | apply below_alloc | apply pw_below_drewN | apply below_drew1 | refine below_set ?_ (IsS69.ge HI1.out)) | exact HB.out)); rintro e w7 ⟨rfl, hi, hb, hk⟩; refine ⟨_, rfl, ?_⟩; have n0_ := Aside0.mk (KeepBut.trans (by repeat (first | (with_reducible first | exact HK.out | apply KeepBut.set_ | apply keep_drewN | apply keep_drew | apply keep_alloc) | exact HK.out)) hk (.inl rfl)); have n1_ := Aside0.mk (hb); have n2_ := Aside0.mk (hi); clear HK; clear HB; clear HI1; have HK := n0_; have HB := n1_; have HI1 := n2_; clear n0_ n1_ n2_; (try clear hb); (try clear hb2); (try clear hk); (try clear hi)) | ((with_reducible refine gate_callee (f := 52) rfl ?_); refine goesL_ (some 23) rfl rfl Try.func52 (by kernel_rfl) rfl #[.pointer (some ⟨g, 0, none⟩), .int .i64 9] rfl (by (try simp only [List.map_toArray, List.map_cons, List.map_nil]); first | done | rfl | (simp only [List.length_drop, List.length_take]; rfl)) ?_; (with_reducible refine (spec_l1Cur_pick.calls g l0 t376 t377 9 t378 t379 t380 w0 _ ?side1 ?side2 A5.out).mono ?_); (case side1 => repeat (first | (with_reducible first | exact HI1.out | apply IsS69.alloc | apply IsS69.drewN | apply IsS69.drew | apply IsS69.set_1 | apply IsS69.set_2) | exact HI1.out)); (case side2 => repeat (first | (with_reducible first | exact HB.out | apply below_alloc | apply pw_below_drewN | apply below_drew1 | refine below_set ?_ (IsS69.ge HI1.out)) | exact HB.out)); rintro e w8 ⟨rfl, hi, hb, hk⟩; refine ⟨_, rfl, ?_⟩; have n0_ := Aside0.mk (KeepBut.trans (by repeat (first | (with_reducible first | exact HK.out | apply KeepBut.set_ | apply keep_drewN | apply keep_drew | apply keep_alloc) | exact HK.out)) hk (.inl rfl)); have n1_ := Aside0.mk (hb); have n2_ := Aside0.mk (hi); clear HK; clear HB; clear HI1; have HK := n0_; have HB := n1_; have HI1 := n2_; clear n0_ n1_ n2_; (try clear hb); (try clear hb2); (try clear hk); (try clear hi)))
  go_ret3
  exact ⟨by first | rfl | (simp [errW_none, errW_some] <;> rfl) | (simp [*, errW_none, errW_some] <;> rfl), by repeat (first | (with_reducible first | exact HI1.out | apply IsS69.alloc | apply IsS69.drewN | apply IsS69.drew | apply IsS69.set_1 | apply IsS69.set_2) | exact HI1.out), by repeat (first | (with_reducible first | exact HB.out | apply below_alloc | apply pw_below_drewN | apply below_drew1 | refine below_set ?_ (IsS69.ge HI1.out)) | exact HB.out), by repeat (first | (with_reducible first | exact HK.out | apply KeepBut.set_ | apply keep_drewN | apply keep_drew | apply keep_alloc) | exact HK.out)⟩

/-! ### spec_l1Cur_trains: function 66 -/
mutual
def spec_l1Cur_trains.l0 : Nat → List (S23) → Int → List Int → Int → Int → Option ((List (S23)) × Int × Int)
  | 0, _, _, _, _, _ => none
  | k + 1, x3, x4, x1000, x1001, x1002 => if x4 > 0 then ((spec_l1Cur_train.f x1000 x1001 x1002).bind fun bt384 => (if x3.length < 8796093022208 then (spec_l1Cur_trains.l0 k (x3 ++ [(⟨bt384.1, bt384.2.1⟩ : S23)]) (wrap64 (x4 - 1)) x1000 bt384.2.2.1 bt384.2.2.2) else (none))) else ((spec_l1Cur_one.f x1000 x1001 x1002 14).bind fun bt391 => (if bt391.1 = true then (spec_l1Cur_trains.l1 k x3 x1000 bt391.2.1 bt391.2.2) else (some (x3, bt391.2.1, bt391.2.2))))
def spec_l1Cur_trains.l1 : Nat → List (S23) → List Int → Int → Int → Option ((List (S23)) × Int × Int)
  | 0, _, _, _, _ => none
  | k + 1, x3, x1000, x1001, x1002 => (spec_l1Cur_pick.f x1000 x1001 x1002 2).bind fun bt394 => (if (x3.length : Int) < (wrap64 (12 + bt394.1)) then (if x3.length < 8796093022208 then (spec_l1Cur_trains.l1 k (x3 ++ [(⟨10, 3⟩ : S23)]) x1000 bt394.2.1 bt394.2.2) else (none)) else (some (x3, bt394.2.1, bt394.2.2)))
end
def spec_l1Cur_trains.f (k : Nat) (s0_0 : List Int) (s0_1 : Int) (s0_2 : Int) : Option ((List (S23)) × Int × Int) := (spec_l1Cur_pick.f s0_0 s0_1 s0_2 6).bind fun bt381 => (spec_l1Cur_trains.l0 k ([] : List (S23)) bt381.1 s0_0 bt381.2.1 bt381.2.2)
set_option maxHeartbeats 8000000 in
set_option maxRecDepth 100000 in
theorem spec_l1Cur_trains.calls (k : Nat) (g : Nat) (s0_0 : List Int) (s0_1 : Int) (s0_2 : Int) (r1 : List (S23)) (r2 : Int) (r3 : Int) (w0 w : World) (hI : IsS69 w0 w g s0_0 s0_1 s0_2) (hB : Below w0.heap.size w0 w) (h : spec_l1Cur_trains.f k s0_0 s0_1 s0_2 = some (r1, r2, r3)) :
    Calls Try.prog 66 #[.pointer (some ⟨g, 0, none⟩)] w fun e w' => ∃ v0_ : Value, e = .returned (v0_) ∧ Kd.R k23 23 w' w.heap.size (fun _ => True) v0_ r1 ∧ IsS69 w0 w' g s0_0 r2 r3 ∧ Below w0.heap.size w0 w' ∧ KeepBut w w' g none := by
  have hu23 := Try.underlying23
  have HI0 := Aside0.mk hI
  have HK := Aside0.mk (KeepBut.refl w g none)
  have HL := Aside0.mk hB.size
  clear hI
  have HW0 := Aside0.mk hB.size
  have HB := Aside0.mk hB
  clear hB
  have H : ((spec_l1Cur_pick.f s0_0 s0_1 s0_2 6).bind fun bt381 => (spec_l1Cur_trains.l0 k ([] : List (S23)) bt381.1 s0_0 bt381.2.1 bt381.2.2)) = some (r1, r2, r3) := h
  clear h
  replace H := Option.bind_eq_some_iff.mp H
  obtain ⟨⟨t381, t382, t383⟩, A20, H⟩ := H
  replace H : (spec_l1Cur_trains.l0 k ([] : List (S23)) t381 s0_0 t382 t383) = some (r1, r2, r3) := H
  have A2 := Aside0.mk A20
  clear A20
  have H' := Aside0.mk H
  clear H
  go_enter Try.func66, Try.ntmps66
  go_wp2_with (first | ((with_reducible refine gate_callee (f := 52) rfl ?_); refine goesL_ (some 6) rfl rfl Try.func52 (by kernel_rfl) rfl #[.pointer (some ⟨g, 0, none⟩), .int .i64 6] rfl (by (try simp only [List.map_toArray, List.map_cons, List.map_nil]); first | done | rfl | (simp only [List.length_drop, List.length_take]; rfl)) ?_; (with_reducible refine (spec_l1Cur_pick.calls g s0_0 s0_1 s0_2 6 t381 t382 t383 w0 _ ?side1 ?side2 A2.out).mono ?_); (case side1 => repeat (first | (with_reducible first | exact HI0.out | apply IsS69.alloc | apply IsS69.drewN | apply IsS69.drew | apply IsS69.set_1 | apply IsS69.set_2) | exact HI0.out)); (case side2 => repeat (first | (with_reducible first | exact HB.out | apply below_alloc | apply pw_below_drewN | apply below_drew1 | refine below_set ?_ (IsS69.ge HI0.out)) | exact HB.out)); rintro e w3 ⟨rfl, hi, hb, hk⟩; refine ⟨_, rfl, ?_⟩; have n0_ := Aside0.mk (KeepBut.trans (by repeat (first | (with_reducible first | exact HK.out | apply KeepBut.set_ | apply keep_drewN | apply keep_drew | apply keep_alloc) | exact HK.out)) hk (.inl rfl)); have n1_ := Aside0.mk (hb); have n2_ := Aside0.mk (hi); clear HK; clear HB; clear HI0; have HK := n0_; have HB := n1_; have HI0 := n2_; clear n0_ n1_ n2_; (try clear hb); (try clear hb2); (try clear hk); (try clear hi)))
  go_loopg [3, 4] k (fun kq v3 v4 w' => ∃ (x3_1 : List (S23)) (x4_1 : Int) (x1001_1 : Int) (x1002_1 : Int), v4 = .int .i64 x4_1 ∧ Aside0 (spec_l1Cur_trains.l0 kq x3_1 x4_1 s0_0 x1001_1 x1002_1 = some (r1, r2, r3)) ∧ Aside0 (kq ≤ k) ∧ Aside0 (Kd.R k23 23 w' w.heap.size (fun _ => True) v3 x3_1) ∧ Aside0 (IsS69 w0 w' g s0_0 x1001_1 x1002_1) ∧ Aside0 (KeepBut w w' g none) ∧ Aside0 (Below w0.heap.size w0 w'))
  case atStart => exact ⟨(([] : List (S23))), (t381), (t382), (t383), (by first | rfl | (simp; done) | (simp [*]; done)), H', ⟨Nat.le_refl _⟩, ⟨by first | exact Kd.R_nil _ _ _ _ _ | exact Kd.N_nil _ _ _ _ _ | exact Kd.V_nil _ _ _ _ _ | exact Kd.Q_nil _ _ _ _ _ | exact Kd.S_nil _ _ _ _ _⟩, ⟨by repeat (first | (with_reducible first | exact HI0.out | apply IsS69.alloc | apply IsS69.drewN | apply IsS69.drew | apply IsS69.set_1 | apply IsS69.set_2) | exact HI0.out)⟩, ⟨by repeat (first | (with_reducible first | exact HK.out | apply KeepBut.set_ | apply keep_drewN | apply keep_drew | apply keep_alloc) | exact HK.out)⟩, ⟨by repeat (first | (with_reducible first | exact HB.out | apply below_alloc | apply pw_below_drewN | apply below_drew1 | refine below_set ?_ (IsS69.ge HI0.out)) | exact HB.out)⟩⟩
  case round =>
    clear H'
    try clear p2
    obtain ⟨x3_1, x4_1, x1001_1, x1002_1, rfl, HA, HK1, HO_3, HI0, HK, HB⟩ := hrel
    cases gk with
    | zero => exact absurd HA.out (by simp [spec_l1Cur_trains.l0])
    | succ k1 =>
      have H := HA.out
      clear HA
      simp only [spec_l1Cur_trains.l0] at H
      by_cases c4 : x4_1 > 0
      · rw [if_pos c4] at H
        have c4b0 : decide (0 < x4_1) = true := decide_eq_true c4
        clear c4
        replace H := Option.bind_eq_some_iff.mp H
        obtain ⟨⟨t384, t385, t386, t387⟩, A50, H⟩ := H
        replace H : (if x3_1.length < 8796093022208 then (spec_l1Cur_trains.l0 k1 (x3_1 ++ [(⟨t384, t385⟩ : S23)]) (wrap64 (x4_1 - 1)) s0_0 t386 t387) else (none)) = some (r1, r2, r3) := H
        have A5 := Aside0.mk A50
        clear A50
        by_cases c6 : x3_1.length < 8796093022208
        · rw [if_pos c6] at H
          have LMc6 := Aside0.mk c6
          clear c6
          obtain ⟨y388, hy388⟩ : ∃ y_ : List (S23), y_ = (x3_1 ++ [(⟨t384, t385⟩ : S23)]) := ⟨_, rfl⟩
          replace H : (spec_l1Cur_trains.l0 k1 y388 (wrap64 (x4_1 - 1)) s0_0 t386 t387) = some (r1, r2, r3) := by first | (rw [hy388]; with_reducible exact H) | (have H2_ := (Option.bind_some _ _).symm.trans H; rw [hy388]; with_reducible exact H2_) | (have H2_ := (Option.bind_some _ _).symm.trans H; with_reducible exact H2_) | with_reducible exact H | (rw [hy388]; exact H) | exact H
          have Ny388 := Aside0.mk hy388
          clear hy388
          have H' := Aside0.mk H
          clear H
          go_wp2_with (first | ((with_reducible refine gate_callee (f := 48) rfl ?_); refine goesL_ (some 13) rfl rfl Try.func48 (by kernel_rfl) rfl #[.pointer (some ⟨g, 0, none⟩)] rfl (by (try simp only [List.map_toArray, List.map_cons, List.map_nil]); first | done | rfl | (simp only [List.length_drop, List.length_take]; rfl)) ?_; (with_reducible refine (spec_l1Cur_train.calls g s0_0 x1001_1 x1002_1 t384 t385 t386 t387 w0 _ ?side1 ?side2 A5.out).mono ?_); (case side1 => repeat (first | (with_reducible first | exact HI0.out | apply IsS69.alloc | apply IsS69.drewN | apply IsS69.drew | apply IsS69.set_1 | apply IsS69.set_2) | exact HI0.out)); (case side2 => repeat (first | (with_reducible first | exact HB.out | apply below_alloc | apply pw_below_drewN | apply below_drew1 | refine below_set ?_ (IsS69.ge HI0.out)) | exact HB.out)); rintro e w7 ⟨rfl, hi, hb, hk⟩; refine ⟨_, rfl, ?_⟩; have n0_ := Aside0.mk (Kd.R_mono (Kd.R_keep (IsS69.apart (show IsS69 w0 _ g s0_0 x1001_1 x1002_1 from by repeat (first | (with_reducible first | exact HI0.out | apply IsS69.alloc | apply IsS69.drewN | apply IsS69.drew | apply IsS69.set_1 | apply IsS69.set_2) | exact HI0.out)) (kd_to HO_3) (by decide)) hk (fun _ h => h.2)) (fun _ h => h.1)); have n1_ := Aside0.mk (KeepBut.trans (by repeat (first | (with_reducible first | exact HK.out | apply KeepBut.set_ | apply keep_drewN | apply keep_drew | apply keep_alloc) | exact HK.out)) hk (.inl rfl)); have n2_ := Aside0.mk (hb); have n3_ := Aside0.mk (hi); clear HO_3; clear HK; clear HB; clear HI0; have HO_3 := n0_; have HK := n1_; have HB := n2_; have HI0 := n3_; clear n0_ n1_ n2_ n3_; (try clear hb); (try clear hb2); (try clear hk); (try clear hi)) | ((with_reducible refine gate_builtin (b := .append) (xs := #[.tmp 11, .tmp 14]) rfl ?_); at_builtin; refine Kd.R_append k23 w.heap.size rfl (.tmp 11) (.tmp 14) 24 23 (.agg #[(.int .i64 0), (.int .i64 0)]) 16 rfl Try.underlying24 info23 rfl (by decide) (by omega) u3 x3_1 (⟨t384, t385⟩ : S23) [.int .i64 t384, .int .i64 t385] (fun _ => True) (fun _ => False) rfl rfl ?aP (fun _ hk => hk.elim) ?aF ?aO (Below.refl _ _) ?aS ?aL ?_; (case aP => exact k23_mkM _ _ _ (⟨t384, t385⟩ : S23)); (case aF => exact (fun _ _ => trivial)); (case aO => exact (kd_to HO_3)); (case aS => exact (keep_size (w := w) (g := g) (row := none) (by repeat (first | (with_reducible first | exact HK.out | apply KeepBut.set_ | apply keep_drewN | apply keep_drew | apply keep_alloc) | exact HK.out)))); (case aL => have := LMc6.out; omega); intro v389 w8 ho hb hg hat; rw [← Ny388.out] at ho; have n0_ := Aside0.mk (IsS69.grown (by repeat (first | (with_reducible first | exact HI0.out | apply IsS69.alloc | apply IsS69.drewN | apply IsS69.drew | apply IsS69.set_1 | apply IsS69.set_2) | exact HI0.out)) hg (IsS69.own_ne HI0.out HO_3.out (by decide))); have n1_ := Aside0.mk (below_weaken (by repeat (first | (with_reducible first | exact HB.out | apply below_alloc | apply pw_below_drewN | apply below_drew1 | refine below_set ?_ (IsS69.ge HI0.out)) | exact HB.out)) HL.out hb); have n2_ := Aside0.mk (KeepBut.trans (by repeat (first | (with_reducible first | exact HK.out | apply KeepBut.set_ | apply keep_drewN | apply keep_drew | apply keep_alloc) | exact HK.out)) (KeepBut.of_grown hg g) (Kd.R_base2 HO_3.out)); have n3_ := Aside0.mk (ho); clear HI0; clear HB; clear HK; clear HO_3; have HI0 := n0_; have HB := n1_; have HK := n2_; have HO390 := n3_; clear n0_ n1_ n2_ n3_; clear ho hb hg hat))
          go_roundg k1
          case measure => have := HK1.out; omega
          case rel => exact ⟨(y388), (wrap64 (x4_1 - 1)), (t386), (t387), (by first | rfl | (simp; done) | (simp [*]; done)), H', ⟨by have := HK1.out; omega⟩, ⟨by (with_reducible repeat (first | apply Kd.R_alloc | apply Kd.R_drewN | apply Kd.R_drew)); exact HO390.out⟩, ⟨by repeat (first | (with_reducible first | exact HI0.out | apply IsS69.alloc | apply IsS69.drewN | apply IsS69.drew | apply IsS69.set_1 | apply IsS69.set_2) | exact HI0.out)⟩, ⟨by repeat (first | (with_reducible first | exact HK.out | apply KeepBut.set_ | apply keep_drewN | apply keep_drew | apply keep_alloc) | exact HK.out)⟩, ⟨by repeat (first | (with_reducible first | exact HB.out | apply below_alloc | apply pw_below_drewN | apply below_drew1 | refine below_set ?_ (IsS69.ge HI0.out)) | exact HB.out)⟩⟩
        · rw [if_neg c6] at H
          exact absurd H (by simp)
      · rw [if_neg c4] at H
        have c4b0 : decide (0 < x4_1) = false := decide_eq_false c4
        clear c4
        replace H := Option.bind_eq_some_iff.mp H
        obtain ⟨⟨t391, t392, t393⟩, A90, H⟩ := H
        replace H : (if t391 = true then (spec_l1Cur_trains.l1 k1 x3_1 s0_0 t392 t393) else (some (x3_1, t392, t393))) = some (r1, r2, r3) := H
        have A9 := Aside0.mk A90
        clear A90
        by_cases c10 : t391 = true
        · subst c10
          have H1 : (spec_l1Cur_trains.l1 k1 x3_1 s0_0 t392 t393) = some (r1, r2, r3) := by rw [if_pos rfl] at H; exact H
          clear H
          have H := H1
          clear H1
          have H' := Aside0.mk H
          clear H
          go_wp2_with (first | ((with_reducible refine gate_callee (f := 51) rfl ?_); refine goesL_ (some 17) rfl rfl Try.func51 (by kernel_rfl) rfl #[.pointer (some ⟨g, 0, none⟩), .int .i64 14] rfl (by (try simp only [List.map_toArray, List.map_cons, List.map_nil]); first | done | rfl | (simp only [List.length_drop, List.length_take]; rfl)) ?_; (with_reducible refine (spec_l1Cur_one.calls g s0_0 x1001_1 x1002_1 14 true t392 t393 w0 _ ?side1 ?side2 A9.out).mono ?_); (case side1 => repeat (first | (with_reducible first | exact HI0.out | apply IsS69.alloc | apply IsS69.drewN | apply IsS69.drew | apply IsS69.set_1 | apply IsS69.set_2) | exact HI0.out)); (case side2 => repeat (first | (with_reducible first | exact HB.out | apply below_alloc | apply pw_below_drewN | apply below_drew1 | refine below_set ?_ (IsS69.ge HI0.out)) | exact HB.out)); rintro e w11 ⟨rfl, hi, hb, hk⟩; refine ⟨_, rfl, ?_⟩; have n0_ := Aside0.mk (Kd.R_mono (Kd.R_keep (IsS69.apart (show IsS69 w0 _ g s0_0 x1001_1 x1002_1 from by repeat (first | (with_reducible first | exact HI0.out | apply IsS69.alloc | apply IsS69.drewN | apply IsS69.drew | apply IsS69.set_1 | apply IsS69.set_2) | exact HI0.out)) (kd_to HO_3) (by decide)) hk (fun _ h => h.2)) (fun _ h => h.1)); have n1_ := Aside0.mk (KeepBut.trans (by repeat (first | (with_reducible first | exact HK.out | apply KeepBut.set_ | apply keep_drewN | apply keep_drew | apply keep_alloc) | exact HK.out)) hk (.inl rfl)); have n2_ := Aside0.mk (hb); have n3_ := Aside0.mk (hi); clear HO_3; clear HK; clear HB; clear HI0; have HO_3 := n0_; have HK := n1_; have HB := n2_; have HI0 := n3_; clear n0_ n1_ n2_ n3_; (try clear hb); (try clear hb2); (try clear hk); (try clear hi)))
          (try simp only [Act.put, List.setIfInBounds_toArray, List.set_cons_zero, List.set_cons_succ])
          go_loopg [3] k1 (fun kq v3 w' => ∃ (x3_2 : List (S23)) (x1001_2 : Int) (x1002_2 : Int), Aside0 (spec_l1Cur_trains.l1 kq x3_2 s0_0 x1001_2 x1002_2 = some (r1, r2, r3)) ∧ Aside0 (kq ≤ k1) ∧ Aside0 (Kd.R k23 23 w' w.heap.size (fun _ => True) v3 x3_2) ∧ Aside0 (IsS69 w0 w' g s0_0 x1001_2 x1002_2) ∧ Aside0 (KeepBut w w' g none) ∧ Aside0 (Below w0.heap.size w0 w'))
          case atStart => exact ⟨(x3_1), (t392), (t393), H', ⟨Nat.le_refl _⟩, ⟨by (with_reducible repeat (first | apply Kd.R_alloc | apply Kd.R_drewN | apply Kd.R_drew)); exact HO_3.out⟩, ⟨by repeat (first | (with_reducible first | exact HI0.out | apply IsS69.alloc | apply IsS69.drewN | apply IsS69.drew | apply IsS69.set_1 | apply IsS69.set_2) | exact HI0.out)⟩, ⟨by repeat (first | (with_reducible first | exact HK.out | apply KeepBut.set_ | apply keep_drewN | apply keep_drew | apply keep_alloc) | exact HK.out)⟩, ⟨by repeat (first | (with_reducible first | exact HB.out | apply below_alloc | apply pw_below_drewN | apply below_drew1 | refine below_set ?_ (IsS69.ge HI0.out)) | exact HB.out)⟩⟩
          case round =>
            clear H'
            try clear c1
            try clear p2
            try clear c4
            try clear c4b0
            try clear c5
            try clear c6
            try clear p6
            try clear c10
            try clear p2
            obtain ⟨x3_2, x1001_2, x1002_2, HA, HK2, HO_3, HI0, HK, HB⟩ := hrel
            cases gk with
            | zero => exact absurd HA.out (by simp [spec_l1Cur_trains.l1])
            | succ k2 =>
              have H := HA.out
              clear HA
              simp only [spec_l1Cur_trains.l1] at H
              replace H := Option.bind_eq_some_iff.mp H
              obtain ⟨⟨t394, t395, t396⟩, A120, H⟩ := H
              replace H : (if (x3_2.length : Int) < (wrap64 (12 + t394)) then (if x3_2.length < 8796093022208 then (spec_l1Cur_trains.l1 k2 (x3_2 ++ [(⟨10, 3⟩ : S23)]) s0_0 t395 t396) else (none)) else (some (x3_2, t395, t396))) = some (r1, r2, r3) := H
              have A12 := Aside0.mk A120
              clear A120
              by_cases c13 : (x3_2.length : Int) < (wrap64 (12 + t394))
              · rw [if_pos c13] at H
                have c13b0 : decide ((x3_2.length : Int) < (wrap64 (12 + t394))) = true := decide_eq_true c13
                clear c13
                by_cases c14 : x3_2.length < 8796093022208
                · rw [if_pos c14] at H
                  have LMc14 := Aside0.mk c14
                  clear c14
                  obtain ⟨y397, hy397⟩ : ∃ y_ : List (S23), y_ = (x3_2 ++ [(⟨10, 3⟩ : S23)]) := ⟨_, rfl⟩
                  replace H : (spec_l1Cur_trains.l1 k2 y397 s0_0 t395 t396) = some (r1, r2, r3) := by first | (rw [hy397]; with_reducible exact H) | (have H2_ := (Option.bind_some _ _).symm.trans H; rw [hy397]; with_reducible exact H2_) | (have H2_ := (Option.bind_some _ _).symm.trans H; with_reducible exact H2_) | with_reducible exact H | (rw [hy397]; exact H) | exact H
                  have Ny397 := Aside0.mk hy397
                  clear hy397
                  have H' := Aside0.mk H
                  clear H
                  obtain ⟨Ao15, co15, eo15⟩ := Kd.R_slice HO_3.out
                  subst eo15
                  go_wp2_with (first | ((with_reducible refine gate_callee (f := 52) rfl ?_); refine goesL_ (some 21) rfl rfl Try.func52 (by kernel_rfl) rfl #[.pointer (some ⟨g, 0, none⟩), .int .i64 2] rfl (by (try simp only [List.map_toArray, List.map_cons, List.map_nil]); first | done | rfl | (simp only [List.length_drop, List.length_take]; rfl)) ?_; (with_reducible refine (spec_l1Cur_pick.calls g s0_0 x1001_2 x1002_2 2 t394 t395 t396 w0 _ ?side1 ?side2 A12.out).mono ?_); (case side1 => repeat (first | (with_reducible first | exact HI0.out | apply IsS69.alloc | apply IsS69.drewN | apply IsS69.drew | apply IsS69.set_1 | apply IsS69.set_2) | exact HI0.out)); (case side2 => repeat (first | (with_reducible first | exact HB.out | apply below_alloc | apply pw_below_drewN | apply below_drew1 | refine below_set ?_ (IsS69.ge HI0.out)) | exact HB.out)); rintro e w16 ⟨rfl, hi, hb, hk⟩; refine ⟨_, rfl, ?_⟩; have n0_ := Aside0.mk (Kd.R_mono (Kd.R_keep (IsS69.apart (show IsS69 w0 _ g s0_0 x1001_2 x1002_2 from by repeat (first | (with_reducible first | exact HI0.out | apply IsS69.alloc | apply IsS69.drewN | apply IsS69.drew | apply IsS69.set_1 | apply IsS69.set_2) | exact HI0.out)) (kd_to HO_3) (by decide)) hk (fun _ h => h.2)) (fun _ h => h.1)); have n1_ := Aside0.mk (KeepBut.trans (by repeat (first | (with_reducible first | exact HK.out | apply KeepBut.set_ | apply keep_drewN | apply keep_drew | apply keep_alloc) | exact HK.out)) hk (.inl rfl)); have n2_ := Aside0.mk (hb); have n3_ := Aside0.mk (hi); clear HO_3; clear HK; clear HB; clear HI0; have HO_3 := n0_; have HK := n1_; have HB := n2_; have HI0 := n3_; clear n0_ n1_ n2_ n3_; (try clear hb); (try clear hb2); (try clear hk); (try clear hi)) | ((with_reducible refine gate_builtin (b := .append) (xs := #[.tmp 24, .tmp 26]) rfl ?_); at_builtin; refine Kd.R_append k23 w.heap.size rfl (.tmp 24) (.tmp 26) 24 23 (.agg #[(.int .i64 0), (.int .i64 0)]) 16 rfl Try.underlying24 info23 rfl (by decide) (by omega) (.slice Ao15 x3_2.length co15) x3_2 (⟨10, 3⟩ : S23) [.int .i64 10, .int .i64 3] (fun _ => True) (fun _ => False) rfl rfl ?aP (fun _ hk => hk.elim) ?aF ?aO (Below.refl _ _) ?aS ?aL ?_; (case aP => exact k23_mkM _ _ _ (⟨10, 3⟩ : S23)); (case aF => exact (fun _ _ => trivial)); (case aO => exact (kd_to HO_3)); (case aS => exact (keep_size (w := w) (g := g) (row := none) (by repeat (first | (with_reducible first | exact HK.out | apply KeepBut.set_ | apply keep_drewN | apply keep_drew | apply keep_alloc) | exact HK.out)))); (case aL => have := LMc14.out; omega); intro v398 w17 ho hb hg hat; rw [← Ny397.out] at ho; have n0_ := Aside0.mk (IsS69.grown (by repeat (first | (with_reducible first | exact HI0.out | apply IsS69.alloc | apply IsS69.drewN | apply IsS69.drew | apply IsS69.set_1 | apply IsS69.set_2) | exact HI0.out)) hg (IsS69.own_ne HI0.out HO_3.out (by decide))); have n1_ := Aside0.mk (below_weaken (by repeat (first | (with_reducible first | exact HB.out | apply below_alloc | apply pw_below_drewN | apply below_drew1 | refine below_set ?_ (IsS69.ge HI0.out)) | exact HB.out)) HL.out hb); have n2_ := Aside0.mk (KeepBut.trans (by repeat (first | (with_reducible first | exact HK.out | apply KeepBut.set_ | apply keep_drewN | apply keep_drew | apply keep_alloc) | exact HK.out)) (KeepBut.of_grown hg g) (Kd.R_base2 HO_3.out)); have n3_ := Aside0.mk (ho); clear HI0; clear HB; clear HK; clear HO_3; have HI0 := n0_; have HB := n1_; have HK := n2_; have HO399 := n3_; clear n0_ n1_ n2_ n3_; clear ho hb hg hat))
                  go_roundg k2
                  case measure => have := HK1.out; have := HK2.out; omega
                  case rel => exact ⟨(y397), (t395), (t396), H', ⟨by have := HK1.out; have := HK2.out; omega⟩, ⟨by (with_reducible repeat (first | apply Kd.R_alloc | apply Kd.R_drewN | apply Kd.R_drew)); exact HO399.out⟩, ⟨by repeat (first | (with_reducible first | exact HI0.out | apply IsS69.alloc | apply IsS69.drewN | apply IsS69.drew | apply IsS69.set_1 | apply IsS69.set_2) | exact HI0.out)⟩, ⟨by repeat (first | (with_reducible first | exact HK.out | apply KeepBut.set_ | apply keep_drewN | apply keep_drew | apply keep_alloc) | exact HK.out)⟩, ⟨by repeat (first | (with_reducible first | exact HB.out | apply below_alloc | apply pw_below_drewN | apply below_drew1 | refine below_set ?_ (IsS69.ge HI0.out)) | exact HB.out)⟩⟩
                · rw [if_neg c14] at H
                  exact absurd H (by simp)
              · rw [if_neg c13] at H
                have c13b0 : decide ((x3_2.length : Int) < (wrap64 (12 + t394))) = false := decide_eq_false c13
                clear c13
                simp only [Option.some.injEq, Prod.mk.injEq] at H
                obtain ⟨rfl, rfl, rfl⟩ := H
                obtain ⟨Ao18, co18, eo18⟩ := Kd.R_slice HO_3.out
                subst eo18
                go_wp2_with (first | ((with_reducible refine gate_callee (f := 52) rfl ?_); refine goesL_ (some 21) rfl rfl Try.func52 (by kernel_rfl) rfl #[.pointer (some ⟨g, 0, none⟩), .int .i64 2] rfl (by (try simp only [List.map_toArray, List.map_cons, List.map_nil]); first | done | rfl | (simp only [List.length_drop, List.length_take]; rfl)) ?_; (with_reducible refine (spec_l1Cur_pick.calls g s0_0 x1001_2 x1002_2 2 t394 t395 t396 w0 _ ?side1 ?side2 A12.out).mono ?_); (case side1 => repeat (first | (with_reducible first | exact HI0.out | apply IsS69.alloc | apply IsS69.drewN | apply IsS69.drew | apply IsS69.set_1 | apply IsS69.set_2) | exact HI0.out)); (case side2 => repeat (first | (with_reducible first | exact HB.out | apply below_alloc | apply pw_below_drewN | apply below_drew1 | refine below_set ?_ (IsS69.ge HI0.out)) | exact HB.out)); rintro e w19 ⟨rfl, hi, hb, hk⟩; refine ⟨_, rfl, ?_⟩; have n0_ := Aside0.mk (Kd.R_mono (Kd.R_keep (IsS69.apart (show IsS69 w0 _ g s0_0 x1001_2 x1002_2 from by repeat (first | (with_reducible first | exact HI0.out | apply IsS69.alloc | apply IsS69.drewN | apply IsS69.drew | apply IsS69.set_1 | apply IsS69.set_2) | exact HI0.out)) (kd_to HO_3) (by decide)) hk (fun _ h => h.2)) (fun _ h => h.1)); have n1_ := Aside0.mk (KeepBut.trans (by repeat (first | (with_reducible first | exact HK.out | apply KeepBut.set_ | apply keep_drewN | apply keep_drew | apply keep_alloc) | exact HK.out)) hk (.inl rfl)); have n2_ := Aside0.mk (hb); have n3_ := Aside0.mk (hi); clear HO_3; clear HK; clear HB; clear HI0; have HO_3 := n0_; have HK := n1_; have HB := n2_; have HI0 := n3_; clear n0_ n1_ n2_ n3_; (try clear hb); (try clear hb2); (try clear hk); (try clear hi)))
                go_ret
                exact ⟨_, by first | rfl | (simp [errW_none, errW_some] <;> rfl) | (simp [*, errW_none, errW_some] <;> rfl), by (with_reducible repeat (first | apply Kd.R_alloc | apply Kd.R_drewN | apply Kd.R_drew)); exact HO_3.out, by repeat (first | (with_reducible first | exact HI0.out | apply IsS69.alloc | apply IsS69.drewN | apply IsS69.drew | apply IsS69.set_1 | apply IsS69.set_2) | exact HI0.out), by repeat (first | (with_reducible first | exact HB.out | apply below_alloc | apply pw_below_drewN | apply below_drew1 | refine below_set ?_ (IsS69.ge HI0.out)) | exact HB.out), by repeat (first | (with_reducible first | exact HK.out | apply KeepBut.set_ | apply keep_drewN | apply keep_drew | apply keep_alloc) | exact HK.out)⟩
        · replace c10 := Bool.eq_false_iff.mpr c10
          subst c10
          have H1 : (some (x3_1, t392, t393)) = some (r1, r2, r3) := by rw [if_neg (show ¬ (false = true) by decide)] at H; exact H
          clear H
          have H := H1
          clear H1
          simp only [Option.some.injEq, Prod.mk.injEq] at H
          obtain ⟨rfl, rfl, rfl⟩ := H
          go_wp2_with (first | ((with_reducible refine gate_callee (f := 51) rfl ?_); refine goesL_ (some 17) rfl rfl Try.func51 (by kernel_rfl) rfl #[.pointer (some ⟨g, 0, none⟩), .int .i64 14] rfl (by (try simp only [List.map_toArray, List.map_cons, List.map_nil]); first | done | rfl | (simp only [List.length_drop, List.length_take]; rfl)) ?_; (with_reducible refine (spec_l1Cur_one.calls g s0_0 x1001_1 x1002_1 14 false t392 t393 w0 _ ?side1 ?side2 A9.out).mono ?_); (case side1 => repeat (first | (with_reducible first | exact HI0.out | apply IsS69.alloc | apply IsS69.drewN | apply IsS69.drew | apply IsS69.set_1 | apply IsS69.set_2) | exact HI0.out)); (case side2 => repeat (first | (with_reducible first | exact HB.out | apply below_alloc | apply pw_below_drewN | apply below_drew1 | refine below_set ?_ (IsS69.ge HI0.out)) | exact HB.out)); rintro e w20 ⟨rfl, hi, hb, hk⟩; refine ⟨_, rfl, ?_⟩; have n0_ := Aside0.mk (Kd.R_mono (Kd.R_keep (IsS69.apart (show IsS69 w0 _ g s0_0 x1001_1 x1002_1 from by repeat (first | (with_reducible first | exact HI0.out | apply IsS69.alloc | apply IsS69.drewN | apply IsS69.drew | apply IsS69.set_1 | apply IsS69.set_2) | exact HI0.out)) (kd_to HO_3) (by decide)) hk (fun _ h => h.2)) (fun _ h => h.1)); have n1_ := Aside0.mk (KeepBut.trans (by repeat (first | (with_reducible first | exact HK.out | apply KeepBut.set_ | apply keep_drewN | apply keep_drew | apply keep_alloc) | exact HK.out)) hk (.inl rfl)); have n2_ := Aside0.mk (hb); have n3_ := Aside0.mk (hi); clear HO_3; clear HK; clear HB; clear HI0; have HO_3 := n0_; have HK := n1_; have HB := n2_; have HI0 := n3_; clear n0_ n1_ n2_ n3_; (try clear hb); (try clear hb2); (try clear hk); (try clear hi)))
          go_ret
          exact ⟨_, by first | rfl | (simp [errW_none, errW_some] <;> rfl) | (simp [*, errW_none, errW_some] <;> rfl), by (with_reducible repeat (first | apply Kd.R_alloc | apply Kd.R_drewN | apply Kd.R_drew)); exact HO_3.out, by repeat (first | (with_reducible first | exact HI0.out | apply IsS69.alloc | apply IsS69.drewN | apply IsS69.drew | apply IsS69.set_1 | apply IsS69.set_2) | exact HI0.out), by repeat (first | (with_reducible first | exact HB.out | apply below_alloc | apply pw_below_drewN | apply below_drew1 | refine below_set ?_ (IsS69.ge HI0.out)) | exact HB.out), by repeat (first | (with_reducible first | exact HK.out | apply KeepBut.set_ | apply keep_drewN | apply keep_drew | apply keep_alloc) | exact HK.out)⟩

/-! ### spec_DrawFitsSiding: function 53 -/
def spec_DrawFitsSiding.i.f (k : Nat) (l0 : List Int) (s1_0 : List Int) (s1_1 : Int) (s1_2 : Int) : Option ((List (S23)) × Int × Int × Int) := (spec_l1Cur_trains.f k s1_0 s1_1 s1_2).bind fun bt400 => ((spec_l1Cur_way.f s1_0 bt400.2.1 bt400.2.2).bind fun bt405 => (some (bt400.1, bt405.1, bt405.2.1, bt405.2.2)))
def spec_DrawFitsSiding.f (k : Nat) (l0 : List Int) : Option (List (S23) × Int) := (spec_DrawFitsSiding.i.f k l0 l0 0 0).bind fun b => some (b.1, b.2.1)
set_option maxHeartbeats 8000000 in
set_option maxRecDepth 100000 in
theorem spec_DrawFitsSiding.calls (k : Nat) (A0 : Option Addr) (c0 : Nat) (l0 : List Int) (r1 : List (S23)) (r2 : Int) (wz_ : World) (hr0 : Kd.C (Kd.int .u8) wz_ A0 l0.length l0) (hc0 : l0.length ≤ c0) (h : spec_DrawFitsSiding.f k l0 = some (r1, r2)) :
    Calls Try.prog 53 #[.slice A0 l0.length c0] wz_ fun e w' => ∃ v0_ : Value, e = .returned (.tuple #[v0_, .int .i64 r2]) ∧ Kd.R k23 23 w' wz_.heap.size (fun _ => True) v0_ r1 ∧ Below wz_.heap.size wz_ w' := by
  obtain ⟨b_, hb0_, h⟩ := Option.bind_eq_some_iff.mp h
  obtain ⟨r1z_, r2z_, r3, r4⟩ := b_
  simp only [Option.some.injEq, Prod.mk.injEq] at h
  obtain ⟨hq0_, hq1_⟩ := h
  obtain rfl := hq0_.symm
  obtain rfl := hq1_.symm
  suffices hh_ : ∀ (w0 w : World) (g : Nat), w0 = wz_ → g = wz_.heap.size → w = wz_.alloc (.cells #[.slice A0 l0.length c0, .int .i64 0, .int .u64 0] 69 (0, 0)) → Calls Try.prog 53 #[.slice A0 l0.length c0] wz_ fun e w' => ∃ v0_ : Value, e = .returned (.tuple #[v0_, .int .i64 r2]) ∧ Kd.R k23 23 w' w.heap.size (fun _ => True) v0_ r1 ∧ IsS69 w0 w' g l0 r3 r4 ∧ Below w0.heap.size w0 w' ∧ KeepBut w w' g none by
    refine (hh_ wz_ _ _ rfl rfl rfl).mono ?_
    rintro e w' ⟨v0_, he_, hr0_, _, hb_, _⟩
    exact ⟨v0_, he_, Kd.R_lower hr0_ (by simp), hb_⟩
  intro w0 w g HW0_ HG_ HW_
  have hI : IsS69 w0 w g l0 0 0 := by rw [HG_, HW_, HW0_]; exact IsS69.new _ _ _ c0 _ _ _ (Below.refl _ _) hr0
  have hB : Below w0.heap.size w0 w := by rw [HW0_, HW_]; exact below_alloc (Below.refl _ _) _
  have hf0 : ∀ ad, A0 = some ad → 0 < l0.length → ad.block ≠ g := by
    intro ad hA_ hn_ he_
    obtain ⟨ad2_, e2_, hx_⟩ := Kd.at_int hr0 0 (by omega) (by omega)
    rw [hA_] at e2_
    injection e2_ with e2_
    subst e2_
    have hlt_ := World.block_lt_of_cell? wz_ _ hx_
    rw [add_block, he_, HG_] at hlt_
    omega
  have hr0' : Kd.C (Kd.int .u8) w A0 l0.length l0 := by rw [HW_]; exact Kd.C_alloc hr0 _
  clear hr0
  have hr0 := hr0'
  clear hr0'
  have HWZ := Aside0.mk HW_
  have HGZ := Aside0.mk HG_
  clear HW_ HG_ HW0_
  have h := hb0_
  clear hb0_
  have HR0 := Aside0.mk hr0
  have HC0 := Aside0.mk hc0
  clear hr0 hc0
  have HI1 := Aside0.mk hI
  have HK := Aside0.mk (KeepBut.refl w g none)
  have HL := Aside0.mk hB.size
  clear hI
  have HW0 := Aside0.mk hB.size
  have HB := Aside0.mk hB
  clear hB
  have H : ((spec_l1Cur_trains.f k l0 0 0).bind fun bt400 => ((spec_l1Cur_way.f l0 bt400.2.1 bt400.2.2).bind fun bt405 => (some (bt400.1, bt405.1, bt405.2.1, bt405.2.2)))) = some (r1, r2, r3, r4) := h
  clear h
  replace H := Option.bind_eq_some_iff.mp H
  obtain ⟨⟨t400, t403, t404⟩, A30, H⟩ := H
  replace H : ((spec_l1Cur_way.f l0 t403 t404).bind fun bt405 => (some (t400, bt405.1, bt405.2.1, bt405.2.2))) = some (r1, r2, r3, r4) := H
  have A3 := Aside0.mk A30
  clear A30
  replace H := Option.bind_eq_some_iff.mp H
  obtain ⟨⟨t405, t406, t407⟩, A40, H⟩ := H
  replace H : (some (t400, t405, t406, t407)) = some (r1, r2, r3, r4) := H
  have A4 := Aside0.mk A40
  clear A40
  simp only [Option.some.injEq, Prod.mk.injEq] at H
  obtain ⟨rfl, rfl, rfl, rfl⟩ := H
  go_enter Try.func53, Try.ntmps53
  go_upto_region 2 with (fail)
  rw [← HWZ.out, ← HGZ.out]
  go_wp2_with (first | ((with_reducible refine gate_callee (f := 66) rfl ?_); refine goesL_ (some 9) rfl rfl Try.func66 (by kernel_rfl) rfl #[.pointer (some ⟨g, 0, none⟩)] rfl (by (try simp only [List.map_toArray, List.map_cons, List.map_nil]); first | done | rfl | (simp only [List.length_drop, List.length_take]; rfl)) ?_; (with_reducible refine (spec_l1Cur_trains.calls k g l0 0 0 t400 t403 t404 w0 _ ?side1 ?side2 A3.out).mono ?_); (case side1 => repeat (first | (with_reducible first | exact HI1.out | apply IsS69.alloc | apply IsS69.drewN | apply IsS69.drew | apply IsS69.set_1 | apply IsS69.set_2) | exact HI1.out)); (case side2 => repeat (first | (with_reducible first | exact HB.out | apply below_alloc | apply pw_below_drewN | apply below_drew1 | refine below_set ?_ (IsS69.ge HI1.out)) | exact HB.out)); rintro e w5 ⟨v401, rfl, ho0, hi, hb, hk⟩; refine ⟨_, rfl, ?_⟩; have n0_ := Aside0.mk (Kd.R_lower ho0 (keep_size (w := w) (g := g) (row := none) (by repeat (first | (with_reducible first | exact HK.out | apply KeepBut.set_ | apply keep_drewN | apply keep_drew | apply keep_alloc) | exact HK.out)))); have n1_ := Aside0.mk (KeepBut.trans (by repeat (first | (with_reducible first | exact HK.out | apply KeepBut.set_ | apply keep_drewN | apply keep_drew | apply keep_alloc) | exact HK.out)) hk (.inl rfl)); have n2_ := Aside0.mk (hb); have n3_ := Aside0.mk (hi); clear HK; clear HB; clear HI1; have HO402 := n0_; have HK := n1_; have HB := n2_; have HI1 := n3_; clear n0_ n1_ n2_ n3_; (try clear hb); (try clear hb2); (try clear hk); (try clear hi); (try clear ho0)) | ((with_reducible refine gate_callee (f := 49) rfl ?_); refine goesL_ (some 11) rfl rfl Try.func49 (by kernel_rfl) rfl #[.pointer (some ⟨g, 0, none⟩)] rfl (by (try simp only [List.map_toArray, List.map_cons, List.map_nil]); first | done | rfl | (simp only [List.length_drop, List.length_take]; rfl)) ?_; (with_reducible refine (spec_l1Cur_way.calls g l0 t403 t404 t405 t406 t407 w0 _ ?side1 ?side2 A4.out).mono ?_); (case side1 => repeat (first | (with_reducible first | exact HI1.out | apply IsS69.alloc | apply IsS69.drewN | apply IsS69.drew | apply IsS69.set_1 | apply IsS69.set_2) | exact HI1.out)); (case side2 => repeat (first | (with_reducible first | exact HB.out | apply below_alloc | apply pw_below_drewN | apply below_drew1 | refine below_set ?_ (IsS69.ge HI1.out)) | exact HB.out)); rintro e w6 ⟨rfl, hi, hb, hk⟩; refine ⟨_, rfl, ?_⟩; have n0_ := Aside0.mk (Kd.R_mono (Kd.R_keep (IsS69.apart (show IsS69 w0 _ g l0 t403 t404 from by repeat (first | (with_reducible first | exact HI1.out | apply IsS69.alloc | apply IsS69.drewN | apply IsS69.drew | apply IsS69.set_1 | apply IsS69.set_2) | exact HI1.out)) (kd_to HO402) (by decide)) hk (fun _ h => h.2)) (fun _ h => h.1)); have n1_ := Aside0.mk (KeepBut.trans (by repeat (first | (with_reducible first | exact HK.out | apply KeepBut.set_ | apply keep_drewN | apply keep_drew | apply keep_alloc) | exact HK.out)) hk (.inl rfl)); have n2_ := Aside0.mk (hb); have n3_ := Aside0.mk (hi); clear HO402; clear HK; clear HB; clear HI1; have HO402 := n0_; have HK := n1_; have HB := n2_; have HI1 := n3_; clear n0_ n1_ n2_ n3_; (try clear hb); (try clear hb2); (try clear hk); (try clear hi)))
  go_ret2
  exact ⟨_, by first | rfl | (simp [errW_none, errW_some] <;> rfl) | (simp [*, errW_none, errW_some] <;> rfl), by (with_reducible repeat (first | apply Kd.R_alloc | apply Kd.R_drewN | apply Kd.R_drew)); exact HO402.out, by repeat (first | (with_reducible first | exact HI1.out | apply IsS69.alloc | apply IsS69.drewN | apply IsS69.drew | apply IsS69.set_1 | apply IsS69.set_2) | exact HI1.out), by repeat (first | (with_reducible first | exact HB.out | apply below_alloc | apply pw_below_drewN | apply below_drew1 | refine below_set ?_ (IsS69.ge HI1.out)) | exact HB.out), by repeat (first | (with_reducible first | exact HK.out | apply KeepBut.set_ | apply keep_drewN | apply keep_drew | apply keep_alloc) | exact HK.out)⟩

/-! ### spec_DrawMostInSiding: function 28 -/
def spec_DrawMostInSiding.f (k : Nat) (l0 : List Int) : Option ((List (S23)) × Int) := (spec_DrawFitsSiding.f k l0).bind fun bt408 => (some (bt408.1, bt408.2))
set_option maxHeartbeats 8000000 in
set_option maxRecDepth 100000 in
theorem spec_DrawMostInSiding.calls (k : Nat) (A0 : Option Addr) (c0 : Nat) (l0 : List Int) (r1 : List (S23)) (r2 : Int) (w : World) (hr0 : Kd.C (Kd.int .u8) w A0 l0.length l0) (hc0 : l0.length ≤ c0) (h : spec_DrawMostInSiding.f k l0 = some (r1, r2)) :
    Calls Try.prog 28 #[.slice A0 l0.length c0] w fun e w' => ∃ v0_ : Value, e = .returned (.tuple #[v0_, .int .i64 r2]) ∧ Kd.R k23 23 w' w.heap.size (fun _ => True) v0_ r1 ∧ Below w.heap.size w w' := by
  have HR0 := Aside0.mk hr0
  have HC0 := Aside0.mk hc0
  clear hr0 hc0
  have HB := Aside0.mk (Below.refl w.heap.size w)
  have H : ((spec_DrawFitsSiding.f k l0).bind fun bt408 => (some (bt408.1, bt408.2))) = some (r1, r2) := h
  clear h
  replace H := Option.bind_eq_some_iff.mp H
  obtain ⟨⟨t408, t409⟩, A20, H⟩ := H
  replace H : (some (t408, t409)) = some (r1, r2) := H
  have A2 := Aside0.mk A20
  clear A20
  simp only [Option.some.injEq, Prod.mk.injEq] at H
  obtain ⟨rfl, rfl⟩ := H
  go_enter Try.func28, Try.ntmps28
  go_wp2_with (first | ((with_reducible refine gate_callee (f := 53) rfl ?_); refine goesL_ (some 5) rfl rfl Try.func53 (by kernel_rfl) rfl #[.slice A0 l0.length c0] rfl (by (try simp only [List.map_toArray, List.map_cons, List.map_nil]); first | done | rfl | (simp only [List.length_drop, List.length_take]; rfl)) ?_; (with_reducible refine (spec_DrawFitsSiding.calls k _ _ l0 t408 t409 _ ?side1 ?side2 A2.out).mono ?_); (case side1 => repeat (first | exact HR0.out | (with_reducible refine Kd.C_alloc ?_ _) | (with_reducible refine Kd.C_drewN ?_ _) | (with_reducible refine Kd.C_drew ?_))); (case side2 => exact HC0.out); rintro e w3 ⟨v410, rfl, ho0, hb⟩; refine ⟨_, rfl, ?_⟩; have n0_ := Aside0.mk (Kd.R_lower ho0 (below_size (below_to HB))); have n1_ := Aside0.mk (below_step (below_to HB) hb); clear HB; have HO411 := n0_; have HB := n1_; clear n0_ n1_; (try clear hb); (try clear hb2); (try clear hk); (try clear hi); (try clear ho0)))
  go_ret2
  exact ⟨_, by first | rfl | (simp [errW_none, errW_some] <;> rfl) | (simp [*, errW_none, errW_some] <;> rfl), by (with_reducible repeat (first | apply Kd.R_alloc | apply Kd.R_drewN | apply Kd.R_drew)); exact HO411.out, by repeat (first | (with_reducible first | exact HB.out | apply below_alloc | apply pw_below_drewN | apply below_drew1) | exact HB.out)⟩

end Go.Proofs.Ytnbmplhcbliclaa.QP
