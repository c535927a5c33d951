import Derived.Test.YtbhnpccbjgbcbaaGreatDoorQDx12
namespace Go.Proofs.YtbhnpccbjgbcbaaGreatDoor.QD
open Go.Proofs.YtbhnpccbjgbcbaaGreatDoor.X Go.RowKit Go.Proofs.YtbhnpccbjgbcbaaGreatDoorW.PrintWords Go.Proofs.YtbhnpccbjgbcbaaGreatDoorW.PrintLast Go.Proofs.YtbhnpccbjgbcbaaGreatDoorW.PrintMore
set_option maxHeartbeats 8000000
set_option maxRecDepth 100000
attribute [local go_sem] max2_int min2_int max_two min_two max_three min_three max_four min_four
set_option linter.unusedVariables false
set_option linter.unusedSimpArgs false
def spec_DrawPlaceOnLegs.i.f (k : Nat) (l0 : List Int) (s1_0 : List Int) (s1_1 : Int) (s1_2 : Int) : Option ((List (S37)) × Int × Int × Int × Int) := (spec_l1Cur_legs.f k s1_0 s1_1 s1_2).bind fun bt459 => ((spec_l1Cur_one.f s1_0 bt459.2.1 bt459.2.2 10).bind fun bt464 => (if bt464.1 = true then ((spec_l1Cur_among.f s1_0 bt464.2.1 bt464.2.2 (([(-1), 0, 100000, 100001] : List Int))).bind fun bt470 => ((spec_l1Cur_among.f s1_0 bt470.2.1 bt470.2.2 (([0, 1, 1000, 1001] : List Int))).bind fun bt476 => (some (bt459.1, bt470.1, bt476.1, bt476.2.1, bt476.2.2)))) else ((spec_l1Cur_pick.f s1_0 bt464.2.1 bt464.2.2 60).bind fun bt479 => ((spec_l1Cur_pick.f s1_0 bt479.2.1 bt479.2.2 6).bind fun bt482 => (some (bt459.1, bt479.1, wrap64 (1 + bt482.1), bt482.2.1, bt482.2.2))))))
def spec_DrawPlaceOnLegs.f (k : Nat) (l0 : List Int) : Option (List (S37) × Int × Int) := (spec_DrawPlaceOnLegs.i.f k l0 l0 0 0).bind fun b => some (b.1, b.2.1, b.2.2.1)
theorem spec_DrawPlaceOnLegs.calls (k : Nat) (A0 : Option Addr) (c0 : Nat) (l0 : List Int) (r1 : List (S37)) (r2 : Int) (r3 : Int) (wz_ : World) (hr0 : Kd.C (Kd.int .u8) wz_ A0 l0.length l0) (hc0 : l0.length ≤ c0) (h : spec_DrawPlaceOnLegs.f k l0 = some (r1, r2, r3)) :
  Calls Tryz.prog 34 #[.slice A0 l0.length c0] wz_ fun e w' => ∃ Aa : Value, e = .returned (.tuple #[Aa, .int .i64 r2, .int .i64 r3]) ∧ Kd.R k37 37 w' wz_.heap.size (fun _ => True) Aa r1 ∧ Below wz_.heap.size wz_ w' := by
 obtain ⟨b_, hb0_, h⟩ := Option.bind_eq_some_iff.mp h
 obtain ⟨r1z_, r2z_, r3z_, r4, r5⟩ := b_
 simp only [Option.some.injEq, Prod.mk.injEq] at h
 obtain ⟨hq0_, hq1_, hq2_⟩ := h
 obtain rfl := hq0_.symm
 obtain rfl := hq1_.symm
 obtain rfl := hq2_.symm
 suffices hh_ : ∀ (w0 w : World) (g : Nat), w0 = wz_ → g = wz_.heap.size → w = wz_.alloc (.cells #[.slice A0 l0.length c0, .int .i64 0, .int .u64 0] 75 (0, 0)) → Calls Tryz.prog 34 #[.slice A0 l0.length c0] wz_ fun e w' => ∃ Aa : Value, e = .returned (.tuple #[Aa, .int .i64 r2, .int .i64 r3]) ∧ Kd.R k37 37 w' w.heap.size (fun _ => True) Aa r1 ∧ IsS75 w0 w' g l0 r4 r5 ∧ Below w0.heap.size w0 w' ∧ KeepBut w w' g none by
  refine (hh_ wz_ _ _ rfl rfl rfl).mono ?_
  rintro e w' ⟨Aa, he_, hr0_, _, hb_, _⟩
  exact ⟨Aa, he_, Kd.R_lower hr0_ (by simp), hb_⟩
 intro w0 w g HW0_ HG_ HW_
 have hI : IsS75 w0 w g l0 0 0 := by rw [HG_, HW_, HW0_]; exact IsS75.new _ _ _ c0 _ _ _ (Below.refl _ _) hr0
 have hB : Below w0.heap.size w0 w := by rw [HW0_, HW_]; exact below_alloc (Below.refl _ _) _
 have hf0 : ∀ ad, A0 = some ad → 0 < l0.length → ad.block ≠ g := by
  intro ad hA_ hn_ he_
  obtain ⟨ad2_, e2_, hx_⟩ := Kd.at_int hr0 0 (by omega) (by omega)
  rw [hA_] at e2_
  injection e2_ with e2_
  subst e2_
  have hlt_ := World.block_lt_of_cell? wz_ _ hx_
  rw [add_block, he_, HG_] at hlt_
  omega
 have hr0' : Kd.C (Kd.int .u8) w A0 l0.length l0 := by rw [HW_]; exact Kd.C_alloc hr0 _
 clear hr0
 have hr0 := hr0'
 clear hr0'
 have HWZ := Aside0.mk HW_
 have HGZ := Aside0.mk HG_
 clear HW_ HG_ HW0_
 have h := hb0_
 clear hb0_
 have HR0 := Aside0.mk hr0
 have HC0 := Aside0.mk hc0
 clear hr0 hc0
 have HI1 := Aside0.mk hI
 have HK := Aside0.mk (KeepBut.refl w g none)
 have HL := Aside0.mk hB.size
 clear hI
 have HW0 := Aside0.mk hB.size
 have HB := Aside0.mk hB
 clear hB
 have H := h
 unfold spec_DrawPlaceOnLegs.f at H
 clear h
 replace H := Option.bind_eq_some_iff.mp H
 obtain ⟨⟨t459, t462, t463⟩, A30, H⟩ := H
 (try dsimp only at H)
 have A3 := Aside0.mk A30
 clear A30
 replace H := Option.bind_eq_some_iff.mp H
 obtain ⟨⟨t464, t465, t466⟩, A40, H⟩ := H
 (try dsimp only at H)
 have A4 := Aside0.mk A40
 clear A40
 by_cases c5 : t464 = true
 rotate_left
 ·replace c5 := Bool.eq_false_iff.mpr c5
  subst c5
  rw [if_neg ft_] at H
  replace H := Option.bind_eq_some_iff.mp H
  obtain ⟨⟨t479, t480, t481⟩, A180, H⟩ := H
  (try dsimp only at H)
  have A18 := Aside0.mk A180
  clear A180
  replace H := Option.bind_eq_some_iff.mp H
  obtain ⟨⟨t482, t483, t484⟩, A190, H⟩ := H
  (try dsimp only at H)
  have A19 := Aside0.mk A190
  clear A190
  simp only [Option.some.injEq, Prod.mk.injEq] at H
  obtain ⟨rfl, rfl, rfl, rfl, rfl⟩ := H
  go_enter Tryz.func34, Tryz.ntmps34
  go_upto_region 2 with (fail)
  rw [← HWZ.out, ← HGZ.out]
  go_wp2_with (first | ((with_reducible refine gate_callee (f := 64) rfl ?_); refine goesL_ (some 11) rfl rfl Tryz.func64 (by kernel_rfl) rfl #[.pointer (some ⟨g, 0, none⟩)] rfl am_ ?_; (with_reducible refine (spec_l1Cur_legs.calls k g l0 0 0 t459 t462 t463 w0 _ ?side1 ?side2 A3.out).mono ?_); (case side1 => exact IsS75.to HI1); (case side2 => exact below_to1 HB (IsS75.ge HI1.out)); rintro e w20 ⟨v460, rfl, ho0, hi, hb, hk⟩; refine ⟨_, rfl, ?_⟩; have HO461 := Aside0.mk (Kd.R_lower ho0 (keep_size (w := w) (g := g) (row := none) (keep_to HK))); replace HK := Aside0.mk (KeepBut.trans (keep_to HK) hk (.inl rfl)); replace HB := Aside0.mk (hb); replace HI1 := Aside0.mk (hi); clear hb hk hi; (try clear ho0)) | ((with_reducible refine gate_callee (f := 65) rfl ?_); refine goesL_ (some 13) rfl rfl Tryz.func65 (by kernel_rfl) rfl #[.pointer (some ⟨g, 0, none⟩), .int .i64 10] rfl am_ ?_; (with_reducible refine (spec_l1Cur_one.calls g l0 t462 t463 10 false t465 t466 w0 _ ?side1 ?side2 A4.out).mono ?_); (case side1 => exact IsS75.to HI1); (case side2 => exact below_to1 HB (IsS75.ge HI1.out)); rintro e w21 ⟨rfl, hi, hb, hk⟩; refine ⟨_, rfl, ?_⟩; replace HO461 := Aside0.mk (Kd.R_mono (Kd.R_keep (IsS75.apart (IsS75.to HI1) (kd_to HO461) (by decide)) hk (fun _ h => h.2)) (fun _ h => h.1)); replace HK := Aside0.mk (KeepBut.trans (keep_to HK) hk (.inl rfl)); replace HB := Aside0.mk (hb); replace HI1 := Aside0.mk (hi); clear hb hk hi) | ((with_reducible refine gate_callee (f := 67) rfl ?_); refine goesL_ (some 23) rfl rfl Tryz.func67 (by kernel_rfl) rfl #[.pointer (some ⟨g, 0, none⟩), .int .i64 60] rfl am_ ?_; (with_reducible refine (spec_l1Cur_pick.calls g l0 t465 t466 60 t479 t480 t481 w0 _ ?side1 ?side2 A18.out).mono ?_); (case side1 => exact IsS75.to HI1); (case side2 => exact below_to1 HB (IsS75.ge HI1.out)); rintro e w22 ⟨rfl, hi, hb, hk⟩; refine ⟨_, rfl, ?_⟩; replace HO461 := Aside0.mk (Kd.R_mono (Kd.R_keep (IsS75.apart (IsS75.to HI1) (kd_to HO461) (by decide)) hk (fun _ h => h.2)) (fun _ h => h.1)); replace HK := Aside0.mk (KeepBut.trans (keep_to HK) hk (.inl rfl)); replace HB := Aside0.mk (hb); replace HI1 := Aside0.mk (hi); clear hb hk hi) | ((with_reducible refine gate_callee (f := 67) rfl ?_); refine goesL_ (some 25) rfl rfl Tryz.func67 (by kernel_rfl) rfl #[.pointer (some ⟨g, 0, none⟩), .int .i64 6] rfl am_ ?_; (with_reducible refine (spec_l1Cur_pick.calls g l0 t480 t481 6 t482 t483 t484 w0 _ ?side1 ?side2 A19.out).mono ?_); (case side1 => exact IsS75.to HI1); (case side2 => exact below_to1 HB (IsS75.ge HI1.out)); rintro e w23 ⟨rfl, hi, hb, hk⟩; refine ⟨_, rfl, ?_⟩; replace HO461 := Aside0.mk (Kd.R_mono (Kd.R_keep (IsS75.apart (IsS75.to HI1) (kd_to HO461) (by decide)) hk (fun _ h => h.2)) (fun _ h => h.1)); replace HK := Aside0.mk (KeepBut.trans (keep_to HK) hk (.inl rfl)); replace HB := Aside0.mk (hb); replace HI1 := Aside0.mk (hi); clear hb hk hi))
  go_ret3
  exact ⟨_, rtE_, kd_to HO461, by repeat (first | (with_reducible first | exact HI1.out | apply IsS75.alloc | apply IsS75.drewN | apply IsS75.drew | apply IsS75.set_1 | apply IsS75.set_2) | exact HI1.out), by repeat (first | (with_reducible first | exact HB.out | apply below_alloc | apply pw_below_drewN | apply below_drew1 | refine below_set ?_ (IsS75.ge HI1.out)) | exact HB.out), by repeat (first | (with_reducible first | exact HK.out | apply KeepBut.set_ | apply keep_drewN | apply keep_drew | apply keep_alloc) | exact HK.out)⟩
 subst c5
 rw [if_pos rfl] at H
 obtain ⟨y467, hy467⟩ : ∃ y_ : List Int, y_ = (([(-1), 0, 100000, 100001] : List Int)) := ⟨_, rfl⟩
 replace H : ((spec_l1Cur_among.f l0 t465 t466 y467).bind fun bt470 => ((spec_l1Cur_among.f l0 bt470.2.1 bt470.2.2 (([0, 1, 1000, 1001] : List Int))).bind fun bt476 => (some (t459, bt470.1, bt476.1, bt476.2.1, bt476.2.2)))) = some (r1, r2, r3, r4, r5) := by first | (rw [hy467]; with_reducible exact H) | (have H2_ := (Option.bind_some _ _).symm.trans H; rw [hy467]; with_reducible exact H2_) | (have H2_ := (Option.bind_some _ _).symm.trans H; with_reducible exact H2_) | with_reducible exact H | (rw [hy467]; exact H) | exact H
 have Ny467 := Aside0.mk hy467
 clear hy467
 replace H := Option.bind_eq_some_iff.mp H
 obtain ⟨⟨t470, t471, t472⟩, A60, H⟩ := H
 (try dsimp only at H)
 have A6 := Aside0.mk A60
 clear A60
 obtain ⟨y473, hy473⟩ : ∃ y_ : List Int, y_ = (([0, 1, 1000, 1001] : List Int)) := ⟨_, rfl⟩
 replace H : ((spec_l1Cur_among.f l0 t471 t472 y473).bind fun bt476 => (some (t459, t470, bt476.1, bt476.2.1, bt476.2.2))) = some (r1, r2, r3, r4, r5) := by first | (rw [hy473]; with_reducible exact H) | (have H2_ := (Option.bind_some _ _).symm.trans H; rw [hy473]; with_reducible exact H2_) | (have H2_ := (Option.bind_some _ _).symm.trans H; with_reducible exact H2_) | with_reducible exact H | (rw [hy473]; exact H) | exact H
 have Ny473 := Aside0.mk hy473
 clear hy473
 replace H := Option.bind_eq_some_iff.mp H
 obtain ⟨⟨t476, t477, t478⟩, A70, H⟩ := H
 (try dsimp only at H)
 have A7 := Aside0.mk A70
 clear A70
 simp only [Option.some.injEq, Prod.mk.injEq] at H
 obtain ⟨rfl, rfl, rfl, rfl, rfl⟩ := H
 go_enter Tryz.func34, Tryz.ntmps34
 go_upto_region 2 with (fail)
 rw [← HWZ.out, ← HGZ.out]
 go_wp2_with (first | ((with_reducible refine gate_callee (f := 64) rfl ?_); refine goesL_ (some 11) rfl rfl Tryz.func64 (by kernel_rfl) rfl #[.pointer (some ⟨g, 0, none⟩)] rfl am_ ?_; (with_reducible refine (spec_l1Cur_legs.calls k g l0 0 0 t459 t462 t463 w0 _ ?side1 ?side2 A3.out).mono ?_); (case side1 => exact IsS75.to HI1); (case side2 => exact below_to1 HB (IsS75.ge HI1.out)); rintro e w8 ⟨v460, rfl, ho0, hi, hb, hk⟩; refine ⟨_, rfl, ?_⟩; have HO461 := Aside0.mk (Kd.R_lower ho0 (keep_size (w := w) (g := g) (row := none) (keep_to HK))); replace HK := Aside0.mk (KeepBut.trans (keep_to HK) hk (.inl rfl)); replace HB := Aside0.mk (hb); replace HI1 := Aside0.mk (hi); clear hb hk hi; (try clear ho0)) | ((with_reducible refine gate_callee (f := 65) rfl ?_); refine goesL_ (some 13) rfl rfl Tryz.func65 (by kernel_rfl) rfl #[.pointer (some ⟨g, 0, none⟩), .int .i64 10] rfl am_ ?_; (with_reducible refine (spec_l1Cur_one.calls g l0 t462 t463 10 true t465 t466 w0 _ ?side1 ?side2 A4.out).mono ?_); (case side1 => exact IsS75.to HI1); (case side2 => exact below_to1 HB (IsS75.ge HI1.out)); rintro e w9 ⟨rfl, hi, hb, hk⟩; refine ⟨_, rfl, ?_⟩; replace HO461 := Aside0.mk (Kd.R_mono (Kd.R_keep (IsS75.apart (IsS75.to HI1) (kd_to HO461) (by decide)) hk (fun _ h => h.2)) (fun _ h => h.1)); replace HK := Aside0.mk (KeepBut.trans (keep_to HK) hk (.inl rfl)); replace HB := Aside0.mk (hb); replace HI1 := Aside0.mk (hi); clear hb hk hi) | ((with_reducible refine gate_dst (N := 16) rfl ?_); refine Kd.R_lit (Kd.int .i64) _ 3 ?hg (N := 16) ?hd (xs := ([(-1), 0, 100000, 100001] : List Int)) (inner := [.int .i64 (-1), .int .i64 0, .int .i64 100000, .int .i64 100001]) (ok := fun _ => True) (okp := fun _ => True) ?hr ?hp (fun _ hk => hk) trivial (Below.refl _ _) (Nat.le_refl _) (by simp) ?_; (case hd => rfl); (case hg => rfl); (case hr => first | (go_simp; done) | (go_simp; rfl)); (case hp => exact (Reps.one (show Kd.M (Kd.int .i64) _ _ _ (-1) [.int .i64 (-1)] from rfl) (Reps.one (show Kd.M (Kd.int .i64) _ _ _ 0 [.int .i64 0] from rfl) (Reps.one (show Kd.M (Kd.int .i64) _ _ _ 100000 [.int .i64 100000] from rfl) (Reps.one (show Kd.M (Kd.int .i64) _ _ _ 100001 [.int .i64 100001] from rfl) (Reps.none _ _)))))); intro v468 w10 ho11 hb hg_ hnew_; clear hg_ hnew_; (first | rw [← Ny467.out] at ho11 | (simp only [Int.reduceToNat] at ho11; rw [← Ny467.out] at ho11)); have n0_ := Aside0.mk (Kd.R_below (kd_to HO461) hb); have n1_ := Aside0.mk (Kd.R_lower ho11 (keep_size (w := w) (g := g) (row := none) (keep_to HK))); have n2_ := Aside0.mk (IsS75.below (IsS75.to HI1) hb); have n3_ := Aside0.mk (KeepBut.trans (keep_to HK) (KeepBut.of_below hb g none) (.inl rfl)); have n4_ := Aside0.mk (below_step (below_to1 HB (IsS75.ge HI1.out)) hb); clear HO461; clear HI1; clear HK; clear HB; have HO461 := n0_; have HO469 := n1_; have HI1 := n2_; have HK := n3_; have HB := n4_; clear n0_ n1_ n2_ n3_ n4_; clear hb ho11; obtain ⟨Ao12, co12, eo12⟩ := Kd.R_slice HO469.out; subst eo12) | ((with_reducible refine gate_callee (f := 66) rfl ?_); refine goesL_ (some 17) rfl rfl Tryz.func66 (by kernel_rfl) rfl #[.pointer (some ⟨g, 0, none⟩), .slice Ao12 y467.length co12] rfl am_ ?_; (with_reducible refine (spec_l1Cur_among.calls g l0 t465 t466 _ _ y467 t470 t471 t472 w0 _ ?side1 ?side2 ?side3 ?side4 ?side5 A6.out).mono ?_); (case side1 => exact IsS75.to HI1); (case side2 => exact below_to1 HB (IsS75.ge HI1.out)); (case side3 => exact cR_ HO469); (case side4 => exact (Kd.R_reads' HO469.out).2.1); (case side5 => exact far_slice (IsS75.own_ne HI1.out HO469.out (by decide))); rintro e w13 ⟨rfl, hi, hb, hk⟩; refine ⟨_, rfl, ?_⟩; replace HO461 := Aside0.mk (Kd.R_mono (Kd.R_keep (IsS75.apart (IsS75.to HI1) (kd_to HO461) (by decide)) hk (fun _ h => h.2)) (fun _ h => h.1)); replace HO469 := Aside0.mk (Kd.R_mono (Kd.R_keep (IsS75.apart (IsS75.to HI1) (kd_to HO469) (by decide)) hk (fun _ h => h.2)) (fun _ h => h.1)); replace HK := Aside0.mk (KeepBut.trans (keep_to HK) hk (.inl rfl)); replace HB := Aside0.mk (hb); replace HI1 := Aside0.mk (hi); clear hb hk hi) | ((with_reducible refine gate_dst (N := 19) rfl ?_); refine Kd.R_lit (Kd.int .i64) _ 3 ?hg (N := 19) ?hd (xs := ([0, 1, 1000, 1001] : List Int)) (inner := [.int .i64 0, .int .i64 1, .int .i64 1000, .int .i64 1001]) (ok := fun _ => True) (okp := fun _ => True) ?hr ?hp (fun _ hk => hk) trivial (Below.refl _ _) (Nat.le_refl _) (by simp) ?_; (case hd => rfl); (case hg => rfl); (case hr => first | (go_simp; done) | (go_simp; rfl)); (case hp => exact (Reps.one (show Kd.M (Kd.int .i64) _ _ _ 0 [.int .i64 0] from rfl) (Reps.one (show Kd.M (Kd.int .i64) _ _ _ 1 [.int .i64 1] from rfl) (Reps.one (show Kd.M (Kd.int .i64) _ _ _ 1000 [.int .i64 1000] from rfl) (Reps.one (show Kd.M (Kd.int .i64) _ _ _ 1001 [.int .i64 1001] from rfl) (Reps.none _ _)))))); intro v474 w14 ho15 hb hg_ hnew_; clear hg_ hnew_; (first | rw [← Ny473.out] at ho15 | (simp only [Int.reduceToNat] at ho15; rw [← Ny473.out] at ho15)); have n0_ := Aside0.mk (Kd.R_below (kd_to HO461) hb); have n1_ := Aside0.mk (Kd.R_elder' (kd_to HO469) (Kd.R_base ho15) hb); have n2_ := Aside0.mk (Kd.R_lower (Kd.R_new' ho15 (Kd.R_lt (kd_to HO469))) (keep_size (w := w) (g := g) (row := none) (keep_to HK))); have n3_ := Aside0.mk (IsS75.below (IsS75.to HI1) hb); have n4_ := Aside0.mk (KeepBut.trans (keep_to HK) (KeepBut.of_below hb g none) (.inl rfl)); have n5_ := Aside0.mk (below_step (below_to1 HB (IsS75.ge HI1.out)) hb); clear HO461; clear HO469; clear HI1; clear HK; clear HB; have HO461 := n0_; have HO469 := n1_; have HO475 := n2_; have HI1 := n3_; have HK := n4_; have HB := n5_; clear n0_ n1_ n2_ n3_ n4_ n5_; clear hb ho15; obtain ⟨Ao16, co16, eo16⟩ := Kd.R_slice HO475.out; subst eo16) | ((with_reducible refine gate_callee (f := 66) rfl ?_); refine goesL_ (some 20) rfl rfl Tryz.func66 (by kernel_rfl) rfl #[.pointer (some ⟨g, 0, none⟩), .slice Ao16 y473.length co16] rfl am_ ?_; (with_reducible refine (spec_l1Cur_among.calls g l0 t471 t472 _ _ y473 t476 t477 t478 w0 _ ?side1 ?side2 ?side3 ?side4 ?side5 A7.out).mono ?_); (case side1 => exact IsS75.to HI1); (case side2 => exact below_to1 HB (IsS75.ge HI1.out)); (case side3 => exact cR_ HO475); (case side4 => exact (Kd.R_reads' HO475.out).2.1); (case side5 => exact far_slice (IsS75.own_ne HI1.out HO475.out (by decide))); rintro e w17 ⟨rfl, hi, hb, hk⟩; refine ⟨_, rfl, ?_⟩; replace HO461 := Aside0.mk (Kd.R_mono (Kd.R_keep (IsS75.apart (IsS75.to HI1) (kd_to HO461) (by decide)) hk (fun _ h => h.2)) (fun _ h => h.1)); replace HO469 := Aside0.mk (Kd.R_mono (Kd.R_keep (IsS75.apart (IsS75.to HI1) (kd_to HO469) (by decide)) hk (fun _ h => h.2)) (fun _ h => h.1)); replace HO475 := Aside0.mk (Kd.R_mono (Kd.R_keep (IsS75.apart (IsS75.to HI1) (kd_to HO475) (by decide)) hk (fun _ h => h.2)) (fun _ h => h.1)); replace HK := Aside0.mk (KeepBut.trans (keep_to HK) hk (.inl rfl)); replace HB := Aside0.mk (hb); replace HI1 := Aside0.mk (hi); clear hb hk hi))
 go_ret3
 exact ⟨_, rtE_, kd_to HO461, by repeat (first | (with_reducible first | exact HI1.out | apply IsS75.alloc | apply IsS75.drewN | apply IsS75.drew | apply IsS75.set_1 | apply IsS75.set_2) | exact HI1.out), by repeat (first | (with_reducible first | exact HB.out | apply below_alloc | apply pw_below_drewN | apply below_drew1 | refine below_set ?_ (IsS75.ge HI1.out)) | exact HB.out), by repeat (first | (with_reducible first | exact HK.out | apply KeepBut.set_ | apply keep_drewN | apply keep_drew | apply keep_alloc) | exact HK.out)⟩
def spec_l1Cur_team.l0 : Nat → List Int → List Int → Int → List Int → Int → Int → Option (List Int × List Int × Int × Int)
 | 0, _, _, _, _, _, _ => none
 | k + 1, x4, x5, x6, x1000, x1001, x1002 => if x6 > 0 then ((spec_l1Cur_pick.f x1000 x1001 x1002 20).bind fun bt488 => (if x4.length < 17592186044416 then ((spec_l1Cur_pick.f x1000 bt488.2.1 bt488.2.2 9).bind fun bt494 => (if x5.length < 17592186044416 then (spec_l1Cur_team.l0 k (x4 ++ [wrap64 (1 + bt488.1)]) (x5 ++ [wrap64 (1 + bt494.1)]) (wrap64 (x6 - 1)) x1000 bt494.2.1 bt494.2.2) else (none))) else (none))) else ((spec_l1Cur_one.f x1000 x1001 x1002 10).bind fun bt500 => (if bt500.1 = true then ((spec_l1Cur_among.f x1000 bt500.2.1 bt500.2.2 (([0, 1, 101] : List Int))).bind fun bt506 => (if x5.length < 17592186044416 then (some (x4, (x5 ++ [bt506.1]), bt506.2.1, bt506.2.2)) else (none))) else (some (x4, x5, bt500.2.1, bt500.2.2))))
def spec_l1Cur_team.f (k : Nat) (s0_0 : List Int) (s0_1 : Int) (s0_2 : Int) : Option (List Int × List Int × Int × Int) := (spec_l1Cur_pick.f s0_0 s0_1 s0_2 4).bind fun bt485 => (spec_l1Cur_team.l0 k ([] : List Int) ([] : List Int) (wrap64 (1 + bt485.1)) s0_0 bt485.2.1 bt485.2.2)
theorem spec_l1Cur_team.calls (k : Nat) (g : Nat) (s0_0 : List Int) (s0_1 : Int) (s0_2 : Int) (r1 : List Int) (r2 : List Int) (r3 : Int) (r4 : Int) (w0 w : World) (hI : IsS75 w0 w g s0_0 s0_1 s0_2) (hB : Below w0.heap.size w0 w) (h : spec_l1Cur_team.f k s0_0 s0_1 s0_2 = some (r1, r2, r3, r4)) :
  Calls Tryz.prog 87 #[.pointer (some ⟨g, 0, none⟩)] w fun e w' => ∃ Aa Ab : Value, e = .returned (.tuple #[Aa, Ab]) ∧ Kd.R (Kd.int .i64) 3 w' w.heap.size (fun k_ => some k_ ≠ (Ab : Value).ownBlock) Aa r1 ∧ Kd.R (Kd.int .i64) 3 w' w.heap.size (fun k_ => some k_ ≠ (Aa : Value).ownBlock) Ab r2 ∧ IsS75 w0 w' g s0_0 r3 r4 ∧ Below w0.heap.size w0 w' ∧ KeepBut w w' g none := by
 have HI0 := Aside0.mk hI
 have HK := Aside0.mk (KeepBut.refl w g none)
 have HL := Aside0.mk hB.size
 clear hI
 have HW0 := Aside0.mk hB.size
 have HB := Aside0.mk hB
 clear hB
 have H := h
 unfold spec_l1Cur_team.f at H
 clear h
 replace H := Option.bind_eq_some_iff.mp H
 obtain ⟨⟨t485, t486, t487⟩, A20, H⟩ := H
 (try dsimp only at H)
 have A2 := Aside0.mk A20
 clear A20
 have H' := Aside0.mk H
 clear H
 go_enter Tryz.func87, Tryz.ntmps87
 go_wp2_with (first | ((with_reducible refine gate_callee (f := 67) rfl ?_); refine goesL_ (some 8) rfl rfl Tryz.func67 (by kernel_rfl) rfl #[.pointer (some ⟨g, 0, none⟩), .int .i64 4] rfl am_ ?_; (with_reducible refine (spec_l1Cur_pick.calls g s0_0 s0_1 s0_2 4 t485 t486 t487 w0 _ ?side1 ?side2 A2.out).mono ?_); (case side1 => exact IsS75.to HI0); (case side2 => exact below_to1 HB (IsS75.ge HI0.out)); rintro e w3 ⟨rfl, hi, hb, hk⟩; refine ⟨_, rfl, ?_⟩; replace HK := Aside0.mk (KeepBut.trans (keep_to HK) hk (.inl rfl)); replace HB := Aside0.mk (hb); replace HI0 := Aside0.mk (hi); clear hb hk hi))
 go_loopg [4, 5, 6] k (fun kq v4 v5 v6 w' => ∃ (x4_1 : List Int) (x5_1 : List Int) (x6_1 : Int) (x1001_1 : Int) (x1002_1 : Int), v6 = .int .i64 x6_1 ∧ Aside0 (spec_l1Cur_team.l0 kq x4_1 x5_1 x6_1 s0_0 x1001_1 x1002_1 = some (r1, r2, r3, r4)) ∧ Aside0 (kq ≤ k) ∧ Aside0 (Kd.R (Kd.int .i64) 3 w' w.heap.size (fun k_ => some k_ ≠ (v5 : Value).ownBlock) v4 x4_1) ∧ Aside0 (Kd.R (Kd.int .i64) 3 w' w.heap.size (fun k_ => some k_ ≠ (v4 : Value).ownBlock) v5 x5_1) ∧ Aside0 (IsS75 w0 w' g s0_0 x1001_1 x1002_1) ∧ Aside0 (KeepBut w w' g none) ∧ Aside0 (Below w0.heap.size w0 w'))
 case atStart => exact ⟨(([] : List Int)), (([] : List Int)), (wrap64 (1 + t485)), (t486), (t487), rt_, H', ⟨Nat.le_refl _⟩, ⟨by first | exact Kd.R_nil _ _ _ _ _ | exact Kd.N_nil _ _ _ _ _ | exact Kd.V_nil _ _ _ _ _ | exact Kd.Q_nil _ _ _ _ _ | exact Kd.S_nil _ _ _ _ _⟩, ⟨by first | exact Kd.R_nil _ _ _ _ _ | exact Kd.N_nil _ _ _ _ _ | exact Kd.V_nil _ _ _ _ _ | exact Kd.Q_nil _ _ _ _ _ | exact Kd.S_nil _ _ _ _ _⟩, ⟨by repeat (first | (with_reducible first | exact HI0.out | apply IsS75.alloc | apply IsS75.drewN | apply IsS75.drew | apply IsS75.set_1 | apply IsS75.set_2) | exact HI0.out)⟩, ⟨keep_to HK⟩, ⟨below_to1 HB (IsS75.ge HI0.out)⟩⟩
 clear H'
 try clear p2
 obtain ⟨x4_1, x5_1, x6_1, x1001_1, x1002_1, rfl, HA, HK1, HO_4, HO_5, HI0, HK, HB⟩ := hrel
 cases gk with
 | zero => exact absurd HA.out (by simp [spec_l1Cur_team.l0])
 | succ k1 =>
  have H := HA.out
  clear HA
  simp only [spec_l1Cur_team.l0] at H
  by_cases c4 : x6_1 > 0
  ·rw [if_pos c4] at H
   have c4b0 := decide_eq_true c4
   clear c4
   replace H := Option.bind_eq_some_iff.mp H
   obtain ⟨⟨t488, t489, t490⟩, A50, H⟩ := H
   (try dsimp only at H)
   have A5 := Aside0.mk A50
   clear A50
   by_cases c6 : x4_1.length < 17592186044416
   rotate_left
   ·rw [if_neg c6] at H
    cases H
   rw [if_pos c6] at H
   have LMc6 := Aside0.mk c6
   clear c6
   obtain ⟨y491, hy491⟩ : ∃ y_ : List Int, y_ = (x4_1 ++ [wrap64 (1 + t488)]) := ⟨_, rfl⟩
   replace H : ((spec_l1Cur_pick.f s0_0 t489 t490 9).bind fun bt494 => (if x5_1.length < 17592186044416 then (spec_l1Cur_team.l0 k1 y491 (x5_1 ++ [wrap64 (1 + bt494.1)]) (wrap64 (x6_1 - 1)) s0_0 bt494.2.1 bt494.2.2) else (none))) = some (r1, r2, r3, r4) := by first | (rw [hy491]; with_reducible exact H) | (have H2_ := (Option.bind_some _ _).symm.trans H; rw [hy491]; with_reducible exact H2_) | (have H2_ := (Option.bind_some _ _).symm.trans H; with_reducible exact H2_) | with_reducible exact H | (rw [hy491]; exact H) | exact H
   have Ny491 := Aside0.mk hy491
   clear hy491
   replace H := Option.bind_eq_some_iff.mp H
   obtain ⟨⟨t494, t495, t496⟩, A70, H⟩ := H
   (try dsimp only at H)
   have A7 := Aside0.mk A70
   clear A70
   by_cases c8 : x5_1.length < 17592186044416
   ·rw [if_pos c8] at H
    have LMc8 := Aside0.mk c8
    clear c8
    obtain ⟨y497, hy497⟩ : ∃ y_ : List Int, y_ = (x5_1 ++ [wrap64 (1 + t494)]) := ⟨_, rfl⟩
    replace H : (spec_l1Cur_team.l0 k1 y491 y497 (wrap64 (x6_1 - 1)) s0_0 t495 t496) = some (r1, r2, r3, r4) := by first | (rw [hy497]; with_reducible exact H) | (have H2_ := (Option.bind_some _ _).symm.trans H; rw [hy497]; with_reducible exact H2_) | (have H2_ := (Option.bind_some _ _).symm.trans H; with_reducible exact H2_) | with_reducible exact H | (rw [hy497]; exact H) | exact H
    have Ny497 := Aside0.mk hy497
    clear hy497
    have H' := Aside0.mk H
    clear H
    go_wp2_with (first | ((with_reducible refine gate_callee (f := 67) rfl ?_); refine goesL_ (some 16) rfl rfl Tryz.func67 (by kernel_rfl) rfl #[.pointer (some ⟨g, 0, none⟩), .int .i64 20] rfl am_ ?_; (with_reducible refine (spec_l1Cur_pick.calls g s0_0 x1001_1 x1002_1 20 t488 t489 t490 w0 _ ?side1 ?side2 A5.out).mono ?_); (case side1 => exact IsS75.to HI0); (case side2 => exact below_to1 HB (IsS75.ge HI0.out)); rintro e w9 ⟨rfl, hi, hb, hk⟩; refine ⟨_, rfl, ?_⟩; replace HO_4 := Aside0.mk (Kd.R_mono (Kd.R_keep (IsS75.apart (IsS75.to HI0) (kd_to HO_4) (by decide)) hk (fun _ h => h.2)) (fun _ h => h.1)); replace HO_5 := Aside0.mk (Kd.R_mono (Kd.R_keep (IsS75.apart (IsS75.to HI0) (kd_to HO_5) (by decide)) hk (fun _ h => h.2)) (fun _ h => h.1)); replace HK := Aside0.mk (KeepBut.trans (keep_to HK) hk (.inl rfl)); replace HB := Aside0.mk (hb); replace HI0 := Aside0.mk (hi); clear hb hk hi) | ((with_reducible refine gate_builtin (b := .append) (xs := #[.tmp 14, .tmp 18]) rfl ?_); at_builtin; refine Kd.R_append (Kd.int .i64) w.heap.size rfl (.tmp 14) (.tmp 18) 23 3 (.int .i64 0) 8 rfl Tryz.underlying23 info3 rfl (by decide) (by omega) u4 x4_1 (wrap64 (1 + t488)) [.int .i64 (wrap64 (1 + t488))] (fun k_ => some k_ ≠ (u5 : Value).ownBlock) (fun _ => False) rfl rfl ?aP (fun _ hk => hk.elim) ?aF ?aO (Below.refl _ _) ?aS ?aL ?_; (case aP => exact rfl); (case aF => exact (fun k_ hk => Kd.fresh' (Kd.R_lt (kd_to HO_5)) k_ hk)); (case aO => exact (kd_to HO_4)); (case aS => exact (keep_size (w := w) (g := g) (row := none) (keep_to HK))); (case aL => have := LMc6.out; omega); intro v492 w10 ho hb hg hat; rw [← Ny491.out] at ho; have n0_ := Aside0.mk (Kd.R_after (ok := (fun _ => True)) (by (with_reducible repeat (first | apply Kd.R_alloc | apply Kd.R_drewN | apply Kd.R_drew)); exact Kd.R_mono HO_5.out (fun _ hk => ⟨trivial, hk⟩)) hg hat); have n1_ := Aside0.mk (IsS75.grown (IsS75.to HI0) hg (IsS75.own_ne HI0.out HO_4.out (by decide))); have n2_ := Aside0.mk (below_weaken (below_to1 HB (IsS75.ge HI0.out)) HL.out hb); have n3_ := Aside0.mk (KeepBut.trans (keep_to HK) (KeepBut.of_grown hg g) (Kd.R_base2 HO_4.out)); have n4_ := Aside0.mk (ho); clear HO_5; clear HI0; clear HB; clear HK; clear HO_4; have HO_5 := n0_; have HI0 := n1_; have HB := n2_; have HK := n3_; have HO493 := n4_; clear n0_ n1_ n2_ n3_ n4_; clear ho hb hg hat) | ((with_reducible refine gate_callee (f := 67) rfl ?_); refine goesL_ (some 22) rfl rfl Tryz.func67 (by kernel_rfl) rfl #[.pointer (some ⟨g, 0, none⟩), .int .i64 9] rfl am_ ?_; (with_reducible refine (spec_l1Cur_pick.calls g s0_0 t489 t490 9 t494 t495 t496 w0 _ ?side1 ?side2 A7.out).mono ?_); (case side1 => exact IsS75.to HI0); (case side2 => exact below_to1 HB (IsS75.ge HI0.out)); rintro e w11 ⟨rfl, hi, hb, hk⟩; refine ⟨_, rfl, ?_⟩; replace HO_5 := Aside0.mk (Kd.R_mono (Kd.R_keep (IsS75.apart (IsS75.to HI0) (kd_to HO_5) (by decide)) hk (fun _ h => h.2)) (fun _ h => h.1)); replace HO493 := Aside0.mk (Kd.R_mono (Kd.R_keep (IsS75.apart (IsS75.to HI0) (kd_to HO493) (by decide)) hk (fun _ h => h.2)) (fun _ h => h.1)); replace HK := Aside0.mk (KeepBut.trans (keep_to HK) hk (.inl rfl)); replace HB := Aside0.mk (hb); replace HI0 := Aside0.mk (hi); clear hb hk hi) | ((with_reducible refine gate_builtin (b := .append) (xs := #[.tmp 20, .tmp 24]) rfl ?_); at_builtin; refine Kd.R_append (Kd.int .i64) w.heap.size rfl (.tmp 20) (.tmp 24) 23 3 (.int .i64 0) 8 rfl Tryz.underlying23 info3 rfl (by decide) (by omega) u5 x5_1 (wrap64 (1 + t494)) [.int .i64 (wrap64 (1 + t494))] (fun k_ => some k_ ≠ (v492 : Value).ownBlock) (fun _ => False) rfl rfl ?aP (fun _ hk => hk.elim) ?aF ?aO (Below.refl _ _) ?aS ?aL ?_; (case aP => exact rfl); (case aF => exact (fun k_ hk => Kd.fresh' (Kd.R_lt (kd_to HO493)) k_ hk)); (case aO => exact (by (with_reducible repeat (first | apply Kd.R_alloc | apply Kd.R_drewN | apply Kd.R_drew)); exact Kd.R_mono HO_5.out (fun _ hk => hk.2))); (case aS => exact (keep_size (w := w) (g := g) (row := none) (keep_to HK))); (case aL => have := LMc8.out; omega); intro v498 w12 ho hb hg hat; rw [← Ny497.out] at ho; have n0_ := Aside0.mk (IsS75.grown (IsS75.to HI0) hg (IsS75.own_ne HI0.out HO_5.out (by decide))); have n1_ := Aside0.mk (Kd.R_after (ok := (fun _ => True)) (by (with_reducible repeat (first | apply Kd.R_alloc | apply Kd.R_drewN | apply Kd.R_drew)); exact Kd.R_mono HO493.out (fun _ hk => ⟨trivial, hk⟩)) hg hat); have n2_ := Aside0.mk (below_weaken (below_to1 HB (IsS75.ge HI0.out)) HL.out hb); have n3_ := Aside0.mk (KeepBut.trans (keep_to HK) (KeepBut.of_grown hg g) (Kd.R_base2 HO_5.out)); have n4_ := Aside0.mk (ho); clear HI0; clear HO493; clear HB; clear HK; clear HO_5; have HI0 := n0_; have HO493 := n1_; have HB := n2_; have HK := n3_; have HO499 := n4_; clear n0_ n1_ n2_ n3_ n4_; clear ho hb hg hat))
    go_roundg k1
    case measure => have := HK1.out; omega
    case rel => exact ⟨(y491), (y497), (wrap64 (x6_1 - 1)), (t495), (t496), rt_, H', ⟨by have := HK1.out; omega⟩, ⟨by (with_reducible repeat (first | apply Kd.R_alloc | apply Kd.R_drewN | apply Kd.R_drew)); exact Kd.R_mono HO493.out (fun _ hk => hk.2)⟩, ⟨kd_to HO499⟩, ⟨by repeat (first | (with_reducible first | exact HI0.out | apply IsS75.alloc | apply IsS75.drewN | apply IsS75.drew | apply IsS75.set_1 | apply IsS75.set_2) | exact HI0.out)⟩, ⟨keep_to HK⟩, ⟨below_to1 HB (IsS75.ge HI0.out)⟩⟩
   ·rw [if_neg c8] at H
    cases H
  rw [if_neg c4] at H
  have c4b0 := decide_eq_false c4
  clear c4
  replace H := Option.bind_eq_some_iff.mp H
  obtain ⟨⟨t500, t501, t502⟩, A130, H⟩ := H
  (try dsimp only at H)
  have A13 := Aside0.mk A130
  clear A130
  by_cases c14 : t500 = true
  rotate_left
  ·replace c14 := Bool.eq_false_iff.mpr c14
   subst c14
   rw [if_neg ft_] at H
   simp only [Option.some.injEq, Prod.mk.injEq] at H
   obtain ⟨rfl, rfl, rfl, rfl⟩ := H
   go_wp2_with (first | ((with_reducible refine gate_callee (f := 65) rfl ?_); refine goesL_ (some 27) rfl rfl Tryz.func65 (by kernel_rfl) rfl #[.pointer (some ⟨g, 0, none⟩), .int .i64 10] rfl am_ ?_; (with_reducible refine (spec_l1Cur_one.calls g s0_0 x1001_1 x1002_1 10 false t501 t502 w0 _ ?side1 ?side2 A13.out).mono ?_); (case side1 => exact IsS75.to HI0); (case side2 => exact below_to1 HB (IsS75.ge HI0.out)); rintro e w23 ⟨rfl, hi, hb, hk⟩; refine ⟨_, rfl, ?_⟩; replace HO_4 := Aside0.mk (Kd.R_mono (Kd.R_keep (IsS75.apart (IsS75.to HI0) (kd_to HO_4) (by decide)) hk (fun _ h => h.2)) (fun _ h => h.1)); replace HO_5 := Aside0.mk (Kd.R_mono (Kd.R_keep (IsS75.apart (IsS75.to HI0) (kd_to HO_5) (by decide)) hk (fun _ h => h.2)) (fun _ h => h.1)); replace HK := Aside0.mk (KeepBut.trans (keep_to HK) hk (.inl rfl)); replace HB := Aside0.mk (hb); replace HI0 := Aside0.mk (hi); clear hb hk hi))
   go_ret2
   exact ⟨_, _, rtE_, kd_to HO_4, kd_to HO_5, by repeat (first | (with_reducible first | exact HI0.out | apply IsS75.alloc | apply IsS75.drewN | apply IsS75.drew | apply IsS75.set_1 | apply IsS75.set_2) | exact HI0.out), by repeat (first | (with_reducible first | exact HB.out | apply below_alloc | apply pw_below_drewN | apply below_drew1 | refine below_set ?_ (IsS75.ge HI0.out)) | exact HB.out), by repeat (first | (with_reducible first | exact HK.out | apply KeepBut.set_ | apply keep_drewN | apply keep_drew | apply keep_alloc) | exact HK.out)⟩
  subst c14
  rw [if_pos rfl] at H
  obtain ⟨y503, hy503⟩ : ∃ y_ : List Int, y_ = (([0, 1, 101] : List Int)) := ⟨_, rfl⟩
  replace H : ((spec_l1Cur_among.f s0_0 t501 t502 y503).bind fun bt506 => (if x5_1.length < 17592186044416 then (some (x4_1, (x5_1 ++ [bt506.1]), bt506.2.1, bt506.2.2)) else (none))) = some (r1, r2, r3, r4) := by first | (rw [hy503]; with_reducible exact H) | (have H2_ := (Option.bind_some _ _).symm.trans H; rw [hy503]; with_reducible exact H2_) | (have H2_ := (Option.bind_some _ _).symm.trans H; with_reducible exact H2_) | with_reducible exact H | (rw [hy503]; exact H) | exact H
  have Ny503 := Aside0.mk hy503
  clear hy503
  replace H := Option.bind_eq_some_iff.mp H
  obtain ⟨⟨t506, t507, t508⟩, A150, H⟩ := H
  (try dsimp only at H)
  have A15 := Aside0.mk A150
  clear A150
  by_cases c16 : x5_1.length < 17592186044416
  ·rw [if_pos c16] at H
   have LMc16 := Aside0.mk c16
   clear c16
   obtain ⟨y509, hy509⟩ : ∃ y_ : List Int, y_ = (x5_1 ++ [t506]) := ⟨_, rfl⟩
   replace H : (some (x4_1, y509, t507, t508)) = some (r1, r2, r3, r4) := by first | (rw [hy509]; with_reducible exact H) | (have H2_ := (Option.bind_some _ _).symm.trans H; rw [hy509]; with_reducible exact H2_) | (have H2_ := (Option.bind_some _ _).symm.trans H; with_reducible exact H2_) | with_reducible exact H | (rw [hy509]; exact H) | exact H
   have Ny509 := Aside0.mk hy509
   clear hy509
   simp only [Option.some.injEq, Prod.mk.injEq] at H
   obtain ⟨rfl, rfl, rfl, rfl⟩ := H
   go_wp2_with (first | ((with_reducible refine gate_callee (f := 65) rfl ?_); refine goesL_ (some 27) rfl rfl Tryz.func65 (by kernel_rfl) rfl #[.pointer (some ⟨g, 0, none⟩), .int .i64 10] rfl am_ ?_; (with_reducible refine (spec_l1Cur_one.calls g s0_0 x1001_1 x1002_1 10 true t501 t502 w0 _ ?side1 ?side2 A13.out).mono ?_); (case side1 => exact IsS75.to HI0); (case side2 => exact below_to1 HB (IsS75.ge HI0.out)); rintro e w17 ⟨rfl, hi, hb, hk⟩; refine ⟨_, rfl, ?_⟩; replace HO_4 := Aside0.mk (Kd.R_mono (Kd.R_keep (IsS75.apart (IsS75.to HI0) (kd_to HO_4) (by decide)) hk (fun _ h => h.2)) (fun _ h => h.1)); replace HO_5 := Aside0.mk (Kd.R_mono (Kd.R_keep (IsS75.apart (IsS75.to HI0) (kd_to HO_5) (by decide)) hk (fun _ h => h.2)) (fun _ h => h.1)); replace HK := Aside0.mk (KeepBut.trans (keep_to HK) hk (.inl rfl)); replace HB := Aside0.mk (hb); replace HI0 := Aside0.mk (hi); clear hb hk hi) | ((with_reducible refine gate_dst (N := 30) rfl ?_); refine Kd.R_lit (Kd.int .i64) _ 3 ?hg (N := 30) ?hd (xs := ([0, 1, 101] : List Int)) (inner := [.int .i64 0, .int .i64 1, .int .i64 101]) (ok := fun _ => True) (okp := fun _ => True) ?hr ?hp (fun _ hk => hk) trivial (Below.refl _ _) (Nat.le_refl _) (by simp) ?_; (case hd => rfl); (case hg => rfl); (case hr => first | (go_simp; done) | (go_simp; rfl)); (case hp => exact (Reps.one (show Kd.M (Kd.int .i64) _ _ _ 0 [.int .i64 0] from rfl) (Reps.one (show Kd.M (Kd.int .i64) _ _ _ 1 [.int .i64 1] from rfl) (Reps.one (show Kd.M (Kd.int .i64) _ _ _ 101 [.int .i64 101] from rfl) (Reps.none _ _))))); intro v504 w18 ho19 hb hg_ hnew_; clear hg_ hnew_; (first | rw [← Ny503.out] at ho19 | (simp only [Int.reduceToNat] at ho19; rw [← Ny503.out] at ho19)); have n0_ := Aside0.mk (Kd.R_elder' (kd_to HO_4) (Kd.R_base ho19) hb); have n1_ := Aside0.mk (Kd.R_elder' (kd_to HO_5) (Kd.R_base ho19) hb); have n2_ := Aside0.mk (Kd.R_lower (Kd.R_new' (Kd.R_new' ho19 (Kd.R_lt (kd_to HO_4))) (Kd.R_lt (kd_to HO_5))) (keep_size (w := w) (g := g) (row := none) (keep_to HK))); have n3_ := Aside0.mk (IsS75.below (IsS75.to HI0) hb); have n4_ := Aside0.mk (KeepBut.trans (keep_to HK) (KeepBut.of_below hb g none) (.inl rfl)); have n5_ := Aside0.mk (below_step (below_to1 HB (IsS75.ge HI0.out)) hb); clear HO_4; clear HO_5; clear HI0; clear HK; clear HB; have HO_4 := n0_; have HO_5 := n1_; have HO505 := n2_; have HI0 := n3_; have HK := n4_; have HB := n5_; clear n0_ n1_ n2_ n3_ n4_ n5_; clear hb ho19; obtain ⟨Ao20, co20, eo20⟩ := Kd.R_slice HO505.out; subst eo20) | ((with_reducible refine gate_callee (f := 66) rfl ?_); refine goesL_ (some 31) rfl rfl Tryz.func66 (by kernel_rfl) rfl #[.pointer (some ⟨g, 0, none⟩), .slice Ao20 y503.length co20] rfl am_ ?_; (with_reducible refine (spec_l1Cur_among.calls g s0_0 t501 t502 _ _ y503 t506 t507 t508 w0 _ ?side1 ?side2 ?side3 ?side4 ?side5 A15.out).mono ?_); (case side1 => exact IsS75.to HI0); (case side2 => exact below_to1 HB (IsS75.ge HI0.out)); (case side3 => exact cR_ HO505); (case side4 => exact (Kd.R_reads' HO505.out).2.1); (case side5 => exact far_slice (IsS75.own_ne HI0.out HO505.out (by decide))); rintro e w21 ⟨rfl, hi, hb, hk⟩; refine ⟨_, rfl, ?_⟩; replace HO_4 := Aside0.mk (Kd.R_mono (Kd.R_keep (IsS75.apart (IsS75.to HI0) (kd_to HO_4) (by decide)) hk (fun _ h => h.2)) (fun _ h => h.1)); replace HO_5 := Aside0.mk (Kd.R_mono (Kd.R_keep (IsS75.apart (IsS75.to HI0) (kd_to HO_5) (by decide)) hk (fun _ h => h.2)) (fun _ h => h.1)); replace HO505 := Aside0.mk (Kd.R_mono (Kd.R_keep (IsS75.apart (IsS75.to HI0) (kd_to HO505) (by decide)) hk (fun _ h => h.2)) (fun _ h => h.1)); replace HK := Aside0.mk (KeepBut.trans (keep_to HK) hk (.inl rfl)); replace HB := Aside0.mk (hb); replace HI0 := Aside0.mk (hi); clear hb hk hi) | ((with_reducible refine gate_builtin (b := .append) (xs := #[.tmp 28, .tmp 32]) rfl ?_); at_builtin; refine Kd.R_append (Kd.int .i64) w.heap.size rfl (.tmp 28) (.tmp 32) 23 3 (.int .i64 0) 8 rfl Tryz.underlying23 info3 rfl (by decide) (by omega) u5 x5_1 t506 [.int .i64 t506] (fun k_ => some k_ ≠ (u4 : Value).ownBlock ∧ some k_ ≠ (.slice Ao20 y503.length co20 : Value).ownBlock) (fun _ => False) rfl rfl ?aP (fun _ hk => hk.elim) ?aF ?aO (Below.refl _ _) ?aS ?aL ?_; (case aP => exact rfl); (case aF => exact (fun k_ hk => ⟨Kd.fresh' (Kd.R_lt (kd_to HO_4)) k_ hk, Kd.fresh' (Kd.R_lt (kd_to HO505)) k_ hk⟩)); (case aO => exact (kd_to HO_5)); (case aS => exact (keep_size (w := w) (g := g) (row := none) (keep_to HK))); (case aL => have := LMc16.out; omega); intro v510 w22 ho hb hg hat; rw [← Ny509.out] at ho; have n0_ := Aside0.mk (Kd.R_after (ok := (fun k_ => some k_ ≠ (.slice Ao20 y503.length co20 : Value).ownBlock)) (by (with_reducible repeat (first | apply Kd.R_alloc | apply Kd.R_drewN | apply Kd.R_drew)); exact Kd.R_mono HO_4.out (fun _ hk => ⟨hk.2, hk.1⟩)) hg hat); have n1_ := Aside0.mk (IsS75.grown (IsS75.to HI0) hg (IsS75.own_ne HI0.out HO_5.out (by decide))); have n2_ := Aside0.mk (Kd.R_after (ok := (fun k_ => some k_ ≠ (u4 : Value).ownBlock)) (by (with_reducible repeat (first | apply Kd.R_alloc | apply Kd.R_drewN | apply Kd.R_drew)); exact Kd.R_mono HO505.out (fun _ hk => ⟨hk.1.2, hk.2⟩)) hg hat); have n3_ := Aside0.mk (below_weaken (below_to1 HB (IsS75.ge HI0.out)) HL.out hb); have n4_ := Aside0.mk (KeepBut.trans (keep_to HK) (KeepBut.of_grown hg g) (Kd.R_base2 HO_5.out)); have n5_ := Aside0.mk (ho); clear HO_4; clear HI0; clear HO505; clear HB; clear HK; clear HO_5; have HO_4 := n0_; have HI0 := n1_; have HO505 := n2_; have HB := n3_; have HK := n4_; have HO511 := n5_; clear n0_ n1_ n2_ n3_ n4_ n5_; clear ho hb hg hat))
   go_ret2
   exact ⟨_, _, rtE_, by (with_reducible repeat (first | apply Kd.R_alloc | apply Kd.R_drewN | apply Kd.R_drew)); exact Kd.R_mono HO_4.out (fun _ hk => hk.2), by (with_reducible repeat (first | apply Kd.R_alloc | apply Kd.R_drewN | apply Kd.R_drew)); exact Kd.R_mono HO511.out (fun _ hk => hk.1), by repeat (first | (with_reducible first | exact HI0.out | apply IsS75.alloc | apply IsS75.drewN | apply IsS75.drew | apply IsS75.set_1 | apply IsS75.set_2) | exact HI0.out), by repeat (first | (with_reducible first | exact HB.out | apply below_alloc | apply pw_below_drewN | apply below_drew1 | refine below_set ?_ (IsS75.ge HI0.out)) | exact HB.out), by repeat (first | (with_reducible first | exact HK.out | apply KeepBut.set_ | apply keep_drewN | apply keep_drew | apply keep_alloc) | exact HK.out)⟩
  ·rw [if_neg c16] at H
   cases H
def spec_DrawMeanByTimes.i.f (k : Nat) (l0 : List Int) (s1_0 : List Int) (s1_1 : Int) (s1_2 : Int) : Option (List Int × Int × Int) := (spec_l1Cur_one.f s1_0 s1_1 s1_2 8).bind fun bt512 => (if bt512.1 = true then ((some (([[], (([0] : List Int)), (([101] : List Int)), (([97, 89, 83, 79, 73, 71, 67, 61] : List Int)), (([1, 1, 1, 1, 1, 1, 1, 1, 1] : List Int))] : List (List Int)) : List (List Int))).bind fun y527 => ((spec_l1Cur_pick.f s1_0 bt512.2.1 bt512.2.2 5).bind fun bt530 => (if 0 ≤ bt530.1 then (if bt530.1 < (y527.length : Int) then (some (rd_L2 y527 bt530.1, bt530.2.1, bt530.2.2)) else (none)) else (none)))) else ((spec_l1Cur_team.f k s1_0 bt512.2.1 bt512.2.2).bind fun bt534 => (some (bt534.2.1, bt534.2.2.1, bt534.2.2.2))))
def spec_DrawMeanByTimes.f (k : Nat) (l0 : List Int) : Option (List Int) := (spec_DrawMeanByTimes.i.f k l0 l0 0 0).bind fun b => some (b.1)
theorem spec_DrawMeanByTimes.calls (k : Nat) (A0 : Option Addr) (c0 : Nat) (l0 : List Int) (r1 : List Int) (wz_ : World) (hr0 : Kd.C (Kd.int .u8) wz_ A0 l0.length l0) (hc0 : l0.length ≤ c0) (h : spec_DrawMeanByTimes.f k l0 = some r1) :
  Calls Tryz.prog 68 #[.slice A0 l0.length c0] wz_ fun e w' => ∃ Aa : Value, e = .returned (Aa) ∧ Kd.V (Kd.int .i64) 3 w' wz_.heap.size (fun k_ => (wz_.heap.size ≤ k_)) Aa r1 ∧ Below wz_.heap.size wz_ w' := by
 obtain ⟨b_, hb0_, h⟩ := Option.bind_eq_some_iff.mp h
 obtain ⟨r1z_, r2, r3⟩ := b_
 simp only [Option.some.injEq] at h
 have hq0_ := h
 obtain rfl := hq0_.symm
 suffices hh_ : ∀ (w0 w : World) (g : Nat), w0 = wz_ → g = wz_.heap.size → w = wz_.alloc (.cells #[.slice A0 l0.length c0, .int .i64 0, .int .u64 0] 75 (0, 0)) → Calls Tryz.prog 68 #[.slice A0 l0.length c0] wz_ fun e w' => ∃ Aa : Value, e = .returned (Aa) ∧ Kd.V (Kd.int .i64) 3 w' w.heap.size (fun k_ => (w.heap.size ≤ k_)) Aa r1 ∧ IsS75 w0 w' g l0 r2 r3 ∧ Below w0.heap.size w0 w' ∧ KeepBut w w' g none by
  refine (hh_ wz_ _ _ rfl rfl rfl).mono ?_
  rintro e w' ⟨Aa, he_, hr0_, _, hb_, _⟩
  exact ⟨Aa, he_, Kd.V_lower (base' := wz_.heap.size) (Kd.V_mono hr0_ (fun k_ h_ => Nat.le_trans (by simp) h_)) (by simp), hb_⟩
 intro w0 w g HW0_ HG_ HW_
 have hI : IsS75 w0 w g l0 0 0 := by rw [HG_, HW_, HW0_]; exact IsS75.new _ _ _ c0 _ _ _ (Below.refl _ _) hr0
 have hB : Below w0.heap.size w0 w := by rw [HW0_, HW_]; exact below_alloc (Below.refl _ _) _
 have hf0 : ∀ ad, A0 = some ad → 0 < l0.length → ad.block ≠ g := by
  intro ad hA_ hn_ he_
  obtain ⟨ad2_, e2_, hx_⟩ := Kd.at_int hr0 0 (by omega) (by omega)
  rw [hA_] at e2_
  injection e2_ with e2_
  subst e2_
  have hlt_ := World.block_lt_of_cell? wz_ _ hx_
  rw [add_block, he_, HG_] at hlt_
  omega
 have hr0' : Kd.C (Kd.int .u8) w A0 l0.length l0 := by rw [HW_]; exact Kd.C_alloc hr0 _
 clear hr0
 have hr0 := hr0'
 clear hr0'
 have HWZ := Aside0.mk HW_
 have HGZ := Aside0.mk HG_
 clear HW_ HG_ HW0_
 have h := hb0_
 clear hb0_
 have HR0 := Aside0.mk hr0
 have HC0 := Aside0.mk hc0
 clear hr0 hc0
 have HI1 := Aside0.mk hI
 have HK := Aside0.mk (KeepBut.refl w g none)
 have HL := Aside0.mk hB.size
 clear hI
 have HW0 := Aside0.mk hB.size
 have HB := Aside0.mk hB
 clear hB
 have H := h
 unfold spec_DrawMeanByTimes.f at H
 clear h
 replace H := Option.bind_eq_some_iff.mp H
 obtain ⟨⟨t512, t513, t514⟩, A30, H⟩ := H
 (try dsimp only at H)
 have A3 := Aside0.mk A30
 clear A30
 by_cases c4 : t512 = true
 rotate_left
 ·replace c4 := Bool.eq_false_iff.mpr c4
  subst c4
  rw [if_neg ft_] at H
  replace H := Option.bind_eq_some_iff.mp H
  obtain ⟨⟨t534, t537, t540, t541⟩, A250, H⟩ := H
  (try dsimp only at H)
  have A25 := Aside0.mk A250
  clear A250
  simp only [Option.some.injEq, Prod.mk.injEq] at H
  obtain ⟨rfl, rfl, rfl⟩ := H
  go_enter Tryz.func68, Tryz.ntmps68
  go_upto_region 2 with (fail)
  rw [← HWZ.out, ← HGZ.out]
  go_wp2_with (first | ((with_reducible refine gate_callee (f := 65) rfl ?_); refine goesL_ (some 10) rfl rfl Tryz.func65 (by kernel_rfl) rfl #[.pointer (some ⟨g, 0, none⟩), .int .i64 8] rfl am_ ?_; (with_reducible refine (spec_l1Cur_one.calls g l0 0 0 8 false t513 t514 w0 _ ?side1 ?side2 A3.out).mono ?_); (case side1 => exact IsS75.to HI1); (case side2 => exact below_to1 HB (IsS75.ge HI1.out)); rintro e w26 ⟨rfl, hi, hb, hk⟩; refine ⟨_, rfl, ?_⟩; replace HK := Aside0.mk (KeepBut.trans (keep_to HK) hk (.inl rfl)); replace HB := Aside0.mk (hb); replace HI1 := Aside0.mk (hi); clear hb hk hi) | ((with_reducible refine gate_callee (f := 87) rfl ?_); refine goesL_ (some 22) rfl rfl Tryz.func87 (by kernel_rfl) rfl #[.pointer (some ⟨g, 0, none⟩)] rfl am_ ?_; (with_reducible refine (spec_l1Cur_team.calls k g l0 t513 t514 t534 t537 t540 t541 w0 _ ?side1 ?side2 A25.out).mono ?_); (case side1 => exact IsS75.to HI1); (case side2 => exact below_to1 HB (IsS75.ge HI1.out)); rintro e w27 ⟨v535, v538, rfl, ho0, ho1, hi, hb, hk⟩; refine ⟨_, rfl, ?_⟩; have HO536 := Aside0.mk (Kd.R_lower (Kd.R_newM (M := fun k_ => (w.heap.size ≤ k_)) ho0 (keep_size (w := w) (g := g) (row := none) (keep_to HK)) (fun k_ h_ => h_)) (keep_size (w := w) (g := g) (row := none) (keep_to HK))); have HO539 := Aside0.mk (Kd.R_lower (Kd.R_newM (M := fun k_ => (w.heap.size ≤ k_)) ho1 (keep_size (w := w) (g := g) (row := none) (keep_to HK)) (fun k_ h_ => h_)) (keep_size (w := w) (g := g) (row := none) (keep_to HK))); replace HK := Aside0.mk (KeepBut.trans (keep_to HK) hk (.inl rfl)); replace HB := Aside0.mk (hb); replace HI1 := Aside0.mk (hi); clear hb hk hi; (try clear ho0); (try clear ho1)))
  go_ret
  exact ⟨_, rtE_, Kd.R_V (by (with_reducible repeat (first | apply Kd.R_alloc | apply Kd.R_drewN | apply Kd.R_drew)); exact Kd.R_mono HO539.out (fun _ hk => hk.1)), by repeat (first | (with_reducible first | exact HI1.out | apply IsS75.alloc | apply IsS75.drewN | apply IsS75.drew | apply IsS75.set_1 | apply IsS75.set_2) | exact HI1.out), by repeat (first | (with_reducible first | exact HB.out | apply below_alloc | apply pw_below_drewN | apply below_drew1 | refine below_set ?_ (IsS75.ge HI1.out)) | exact HB.out), by repeat (first | (with_reducible first | exact HK.out | apply KeepBut.set_ | apply keep_drewN | apply keep_drew | apply keep_alloc) | exact HK.out)⟩
 subst c4
 rw [if_pos rfl] at H
 obtain ⟨y515, hy515⟩ : ∃ y_ : List Int, y_ = (([0] : List Int)) := ⟨_, rfl⟩
 replace H : ((some (([[], y515, (([101] : List Int)), (([97, 89, 83, 79, 73, 71, 67, 61] : List Int)), (([1, 1, 1, 1, 1, 1, 1, 1, 1] : List Int))] : List (List Int)) : List (List Int))).bind fun y527 => ((spec_l1Cur_pick.f l0 t513 t514 5).bind fun bt530 => (if 0 ≤ bt530.1 then (if bt530.1 < (y527.length : Int) then (some (rd_L2 y527 bt530.1, bt530.2.1, bt530.2.2)) else (none)) else (none)))) = some (r1, r2, r3) := by first | (rw [hy515]; with_reducible exact H) | (have H2_ := (Option.bind_some _ _).symm.trans H; rw [hy515]; with_reducible exact H2_) | (have H2_ := (Option.bind_some _ _).symm.trans H; with_reducible exact H2_) | with_reducible exact H | (rw [hy515]; exact H) | exact H
 have Ny515 := Aside0.mk hy515
 clear hy515
 obtain ⟨y518, hy518⟩ : ∃ y_ : List Int, y_ = (([101] : List Int)) := ⟨_, rfl⟩
 replace H : ((some (([[], y515, y518, (([97, 89, 83, 79, 73, 71, 67, 61] : List Int)), (([1, 1, 1, 1, 1, 1, 1, 1, 1] : List Int))] : List (List Int)) : List (List Int))).bind fun y527 => ((spec_l1Cur_pick.f l0 t513 t514 5).bind fun bt530 => (if 0 ≤ bt530.1 then (if bt530.1 < (y527.length : Int) then (some (rd_L2 y527 bt530.1, bt530.2.1, bt530.2.2)) else (none)) else (none)))) = some (r1, r2, r3) := by first | (rw [hy518]; with_reducible exact H) | (have H2_ := (Option.bind_some _ _).symm.trans H; rw [hy518]; with_reducible exact H2_) | (have H2_ := (Option.bind_some _ _).symm.trans H; with_reducible exact H2_) | with_reducible exact H | (rw [hy518]; exact H) | exact H
 have Ny518 := Aside0.mk hy518
 clear hy518
 obtain ⟨y521, hy521⟩ : ∃ y_ : List Int, y_ = (([97, 89, 83, 79, 73, 71, 67, 61] : List Int)) := ⟨_, rfl⟩
 replace H : ((some (([[], y515, y518, y521, (([1, 1, 1, 1, 1, 1, 1, 1, 1] : List Int))] : List (List Int)) : List (List Int))).bind fun y527 => ((spec_l1Cur_pick.f l0 t513 t514 5).bind fun bt530 => (if 0 ≤ bt530.1 then (if bt530.1 < (y527.length : Int) then (some (rd_L2 y527 bt530.1, bt530.2.1, bt530.2.2)) else (none)) else (none)))) = some (r1, r2, r3) := by first | (rw [hy521]; with_reducible exact H) | (have H2_ := (Option.bind_some _ _).symm.trans H; rw [hy521]; with_reducible exact H2_) | (have H2_ := (Option.bind_some _ _).symm.trans H; with_reducible exact H2_) | with_reducible exact H | (rw [hy521]; exact H) | exact H
 have Ny521 := Aside0.mk hy521
 clear hy521
 obtain ⟨y524, hy524⟩ : ∃ y_ : List Int, y_ = (([1, 1, 1, 1, 1, 1, 1, 1, 1] : List Int)) := ⟨_, rfl⟩
 replace H : ((some (([[], y515, y518, y521, y524] : List (List Int)) : List (List Int))).bind fun y527 => ((spec_l1Cur_pick.f l0 t513 t514 5).bind fun bt530 => (if 0 ≤ bt530.1 then (if bt530.1 < (y527.length : Int) then (some (rd_L2 y527 bt530.1, bt530.2.1, bt530.2.2)) else (none)) else (none)))) = some (r1, r2, r3) := by first | (rw [hy524]; with_reducible exact H) | (have H2_ := (Option.bind_some _ _).symm.trans H; rw [hy524]; with_reducible exact H2_) | (have H2_ := (Option.bind_some _ _).symm.trans H; with_reducible exact H2_) | with_reducible exact H | (rw [hy524]; exact H) | exact H
 have Ny524 := Aside0.mk hy524
 clear hy524
 obtain ⟨y527, hy527⟩ : ∃ y_ : List (List Int), y_ = (([[], y515, y518, y521, y524] : List (List Int))) := ⟨_, rfl⟩
 replace H : ((spec_l1Cur_pick.f l0 t513 t514 5).bind fun bt530 => (if 0 ≤ bt530.1 then (if bt530.1 < (y527.length : Int) then (some (rd_L2 y527 bt530.1, bt530.2.1, bt530.2.2)) else (none)) else (none))) = some (r1, r2, r3) := by first | (rw [hy527]; with_reducible exact H) | (have H2_ := (Option.bind_some _ _).symm.trans H; rw [hy527]; with_reducible exact H2_) | (have H2_ := (Option.bind_some _ _).symm.trans H; with_reducible exact H2_) | with_reducible exact H | (rw [hy527]; exact H) | exact H
 have Ny527 := Aside0.mk hy527
 clear hy527
 replace H := Option.bind_eq_some_iff.mp H
 obtain ⟨⟨t530, t531, t532⟩, A50, H⟩ := H
 (try dsimp only at H)
 have A5 := Aside0.mk A50
 clear A50
 by_cases c6 : 0 ≤ t530
 ·rw [if_pos c6] at H
  have c6b0 := decide_eq_true c6
  clear c6
  by_cases c7 : t530 < (y527.length : Int)
  ·rw [if_pos c7] at H
   have c7b0 := decide_eq_true c7
   clear c7
   simp only [Option.some.injEq, Prod.mk.injEq] at H
   obtain ⟨rfl, rfl, rfl⟩ := H
   go_enter Tryz.func68, Tryz.ntmps68
   go_upto_region 2 with (fail)
   rw [← HWZ.out, ← HGZ.out]
   go_wp2_with (first | ((with_reducible refine gate_callee (f := 65) rfl ?_); refine goesL_ (some 10) rfl rfl Tryz.func65 (by kernel_rfl) rfl #[.pointer (some ⟨g, 0, none⟩), .int .i64 8] rfl am_ ?_; (with_reducible refine (spec_l1Cur_one.calls g l0 0 0 8 true t513 t514 w0 _ ?side1 ?side2 A3.out).mono ?_); (case side1 => exact IsS75.to HI1); (case side2 => exact below_to1 HB (IsS75.ge HI1.out)); rintro e w8 ⟨rfl, hi, hb, hk⟩; refine ⟨_, rfl, ?_⟩; replace HK := Aside0.mk (KeepBut.trans (keep_to HK) hk (.inl rfl)); replace HB := Aside0.mk (hb); replace HI1 := Aside0.mk (hi); clear hb hk hi) | ((with_reducible refine gate_dst (N := 11) rfl ?_); refine Kd.R_lit (Kd.int .i64) _ 3 ?hg (N := 11) ?hd (xs := ([0] : List Int)) (inner := [.int .i64 0]) (ok := fun _ => True) (okp := fun _ => True) ?hr ?hp (fun _ hk => hk) trivial (Below.refl _ _) (Nat.le_refl _) (by simp) ?_; (case hd => rfl); (case hg => rfl); (case hr => first | (go_simp; done) | (go_simp; rfl)); (case hp => exact (Reps.one (show Kd.M (Kd.int .i64) _ _ _ 0 [.int .i64 0] from rfl) (Reps.none _ _))); intro v516 w9 ho10 hb hg_ hnew_; clear hg_ hnew_; (first | rw [← Ny515.out] at ho10 | (simp only [Int.reduceToNat] at ho10; rw [← Ny515.out] at ho10)); have n0_ := Aside0.mk (Kd.R_lower (Kd.R_newM (M := fun k_ => (w.heap.size ≤ k_)) ho10 (keep_size (w := w) (g := g) (row := none) (keep_to HK)) (fun k_ h_ => h_)) (keep_size (w := w) (g := g) (row := none) (keep_to HK))); have n1_ := Aside0.mk (IsS75.below (IsS75.to HI1) hb); have n2_ := Aside0.mk (KeepBut.trans (keep_to HK) (KeepBut.of_below hb g none) (.inl rfl)); have n3_ := Aside0.mk (below_step (below_to1 HB (IsS75.ge HI1.out)) hb); clear HI1; clear HK; clear HB; have HO517 := n0_; have HI1 := n1_; have HK := n2_; have HB := n3_; clear n0_ n1_ n2_ n3_; clear hb ho10) | ((with_reducible refine gate_dst (N := 12) rfl ?_); refine Kd.R_lit (Kd.int .i64) _ 3 ?hg (N := 12) ?hd (xs := ([101] : List Int)) (inner := [.int .i64 101]) (ok := fun _ => True) (okp := fun _ => True) ?hr ?hp (fun _ hk => hk) trivial (Below.refl _ _) (Nat.le_refl _) (by simp) ?_; (case hd => rfl); (case hg => rfl); (case hr => first | (go_simp; done) | (go_simp; rfl)); (case hp => exact (Reps.one (show Kd.M (Kd.int .i64) _ _ _ 101 [.int .i64 101] from rfl) (Reps.none _ _))); intro v519 w11 ho12 hb hg_ hnew_; clear hg_ hnew_; (first | rw [← Ny518.out] at ho12 | (simp only [Int.reduceToNat] at ho12; rw [← Ny518.out] at ho12)); have n0_ := Aside0.mk (Kd.R_elder' (kd_to HO517) (Kd.R_base ho12) hb); have n1_ := Aside0.mk (Kd.R_lower (Kd.R_new' (Kd.R_newM (M := fun k_ => (w.heap.size ≤ k_)) ho12 (keep_size (w := w) (g := g) (row := none) (keep_to HK)) (fun k_ h_ => h_)) (Kd.R_lt (kd_to HO517))) (keep_size (w := w) (g := g) (row := none) (keep_to HK))); have n2_ := Aside0.mk (IsS75.below (IsS75.to HI1) hb); have n3_ := Aside0.mk (KeepBut.trans (keep_to HK) (KeepBut.of_below hb g none) (.inl rfl)); have n4_ := Aside0.mk (below_step (below_to1 HB (IsS75.ge HI1.out)) hb); clear HO517; clear HI1; clear HK; clear HB; have HO517 := n0_; have HO520 := n1_; have HI1 := n2_; have HK := n3_; have HB := n4_; clear n0_ n1_ n2_ n3_ n4_; clear hb ho12) | ((with_reducible refine gate_dst (N := 13) rfl ?_); refine Kd.R_lit (Kd.int .i64) _ 3 ?hg (N := 13) ?hd (xs := ([97, 89, 83, 79, 73, 71, 67, 61] : List Int)) (inner := [.int .i64 97, .int .i64 89, .int .i64 83, .int .i64 79, .int .i64 73, .int .i64 71, .int .i64 67, .int .i64 61]) (ok := fun _ => True) (okp := fun _ => True) ?hr ?hp (fun _ hk => hk) trivial (Below.refl _ _) (Nat.le_refl _) (by simp) ?_; (case hd => rfl); (case hg => rfl); (case hr => first | (go_simp; done) | (go_simp; rfl)); (case hp => exact (Reps.one (show Kd.M (Kd.int .i64) _ _ _ 97 [.int .i64 97] from rfl) (Reps.one (show Kd.M (Kd.int .i64) _ _ _ 89 [.int .i64 89] from rfl) (Reps.one (show Kd.M (Kd.int .i64) _ _ _ 83 [.int .i64 83] from rfl) (Reps.one (show Kd.M (Kd.int .i64) _ _ _ 79 [.int .i64 79] from rfl) (Reps.one (show Kd.M (Kd.int .i64) _ _ _ 73 [.int .i64 73] from rfl) (Reps.one (show Kd.M (Kd.int .i64) _ _ _ 71 [.int .i64 71] from rfl) (Reps.one (show Kd.M (Kd.int .i64) _ _ _ 67 [.int .i64 67] from rfl) (Reps.one (show Kd.M (Kd.int .i64) _ _ _ 61 [.int .i64 61] from rfl) (Reps.none _ _)))))))))); intro v522 w13 ho14 hb hg_ hnew_; clear hg_ hnew_; (first | rw [← Ny521.out] at ho14 | (simp only [Int.reduceToNat] at ho14; rw [← Ny521.out] at ho14)); have n0_ := Aside0.mk (Kd.R_elder' (kd_to HO517) (Kd.R_base ho14) hb); have n1_ := Aside0.mk (Kd.R_elder' (kd_to HO520) (Kd.R_base ho14) hb); have n2_ := Aside0.mk (Kd.R_lower (Kd.R_new' (Kd.R_new' (Kd.R_newM (M := fun k_ => (w.heap.size ≤ k_)) ho14 (keep_size (w := w) (g := g) (row := none) (keep_to HK)) (fun k_ h_ => h_)) (Kd.R_lt (kd_to HO517))) (Kd.R_lt (kd_to HO520))) (keep_size (w := w) (g := g) (row := none) (keep_to HK))); have n3_ := Aside0.mk (IsS75.below (IsS75.to HI1) hb); have n4_ := Aside0.mk (KeepBut.trans (keep_to HK) (KeepBut.of_below hb g none) (.inl rfl)); have n5_ := Aside0.mk (below_step (below_to1 HB (IsS75.ge HI1.out)) hb); clear HO517; clear HO520; clear HI1; clear HK; clear HB; have HO517 := n0_; have HO520 := n1_; have HO523 := n2_; have HI1 := n3_; have HK := n4_; have HB := n5_; clear n0_ n1_ n2_ n3_ n4_ n5_; clear hb ho14) | ((with_reducible refine gate_dst (N := 14) rfl ?_); refine Kd.R_lit (Kd.int .i64) _ 3 ?hg (N := 14) ?hd (xs := ([1, 1, 1, 1, 1, 1, 1, 1, 1] : List Int)) (inner := [.int .i64 1, .int .i64 1, .int .i64 1, .int .i64 1, .int .i64 1, .int .i64 1, .int .i64 1, .int .i64 1, .int .i64 1]) (ok := fun _ => True) (okp := fun _ => True) ?hr ?hp (fun _ hk => hk) trivial (Below.refl _ _) (Nat.le_refl _) (by simp) ?_; (case hd => rfl); (case hg => rfl); (case hr => first | (go_simp; done) | (go_simp; rfl)); (case hp => exact (Reps.one (show Kd.M (Kd.int .i64) _ _ _ 1 [.int .i64 1] from rfl) (Reps.one (show Kd.M (Kd.int .i64) _ _ _ 1 [.int .i64 1] from rfl) (Reps.one (show Kd.M (Kd.int .i64) _ _ _ 1 [.int .i64 1] from rfl) (Reps.one (show Kd.M (Kd.int .i64) _ _ _ 1 [.int .i64 1] from rfl) (Reps.one (show Kd.M (Kd.int .i64) _ _ _ 1 [.int .i64 1] from rfl) (Reps.one (show Kd.M (Kd.int .i64) _ _ _ 1 [.int .i64 1] from rfl) (Reps.one (show Kd.M (Kd.int .i64) _ _ _ 1 [.int .i64 1] from rfl) (Reps.one (show Kd.M (Kd.int .i64) _ _ _ 1 [.int .i64 1] from rfl) (Reps.one (show Kd.M (Kd.int .i64) _ _ _ 1 [.int .i64 1] from rfl) (Reps.none _ _))))))))))); intro v525 w15 ho16 hb hg_ hnew_; clear hg_ hnew_; (first | rw [← Ny524.out] at ho16 | (simp only [Int.reduceToNat] at ho16; rw [← Ny524.out] at ho16)); have n0_ := Aside0.mk (Kd.R_elder' (kd_to HO517) (Kd.R_base ho16) hb); have n1_ := Aside0.mk (Kd.R_elder' (kd_to HO520) (Kd.R_base ho16) hb); have n2_ := Aside0.mk (Kd.R_elder' (kd_to HO523) (Kd.R_base ho16) hb); have n3_ := Aside0.mk (Kd.R_lower (Kd.R_new' (Kd.R_new' (Kd.R_new' (Kd.R_newM (M := fun k_ => (w.heap.size ≤ k_)) ho16 (keep_size (w := w) (g := g) (row := none) (keep_to HK)) (fun k_ h_ => h_)) (Kd.R_lt (kd_to HO517))) (Kd.R_lt (kd_to HO520))) (Kd.R_lt (kd_to HO523))) (keep_size (w := w) (g := g) (row := none) (keep_to HK))); have n4_ := Aside0.mk (IsS75.below (IsS75.to HI1) hb); have n5_ := Aside0.mk (KeepBut.trans (keep_to HK) (KeepBut.of_below hb g none) (.inl rfl)); have n6_ := Aside0.mk (below_step (below_to1 HB (IsS75.ge HI1.out)) hb); clear HO517; clear HO520; clear HO523; clear HI1; clear HK; clear HB; have HO517 := n0_; have HO520 := n1_; have HO523 := n2_; have HO526 := n3_; have HI1 := n4_; have HK := n5_; have HB := n6_; clear n0_ n1_ n2_ n3_ n4_ n5_ n6_; clear hb ho16; obtain ⟨Ao17, co17, eo17⟩ := Kd.R_slice HO517.out; subst eo17; obtain ⟨Ao18, co18, eo18⟩ := Kd.R_slice HO520.out; subst eo18; obtain ⟨Ao19, co19, eo19⟩ := Kd.R_slice HO523.out; subst eo19; obtain ⟨Ao20, co20, eo20⟩ := Kd.R_slice HO526.out; subst eo20) | ((with_reducible refine gate_dst (N := 15) rfl ?_); refine Kd.N_lit (Kd.slice 3 (Kd.int .i64)) _ 23 ?hg (N' := 15) ?hd (xs := ([[], y515, y518, y521, y524] : List (List Int))) (inner := [.slice none 0 0, .slice Ao17 y515.length co17, .slice Ao18 y518.length co18, .slice Ao19 y521.length co19, .slice Ao20 y524.length co20]) (ok := (fun k_ => (w.heap.size ≤ k_) ∧ k_ ≠ g)) (okp := (fun k_ => (w.heap.size ≤ k_) ∧ k_ ≠ g)) ?hr ?hp (fun _ hk => hk) ((show ∀ k_, w15.heap.size ≤ k_ → (fun k_ => (w.heap.size ≤ k_) ∧ k_ ≠ g) k_ from fun k_ hk => ⟨(Nat.le_trans (keep_size (w := w) (g := g) (row := none) (keep_to HK)) hk), IsS75.fresh (IsS75.to HI1) k_ hk⟩) _ (Nat.le_refl _)) (Below.refl _ _) (Nat.le_refl _) (by simp) ?_; (case hd => rfl); (case hg => rfl); (case hr => first | (go_simp; done) | (go_simp; rfl)); (case hp => exact (Reps.one (show Kd.FK (Kd.slice 3 (Kd.int .i64)) _ _ [] [.slice none 0 0] from (Kd.FK_slice_mk (Nat.le_refl _) (Kd.F_nil _ _ _))) (Reps.one (show Kd.FK (Kd.slice 3 (Kd.int .i64)) _ _ y515 [.slice Ao17 y515.length co17] from (Kd.FK_slice_mk (Kd.R_reads' (Kd.R_mono (ok' := (fun k_ => (w.heap.size ≤ k_) ∧ k_ ≠ g)) (IsS75.apart HI1.out (HO517.out) (by decide)) (fun k_ hk => ⟨hk.1.1.1.1.1, hk.2⟩))).2.1 (Kd.R_F (Kd.R_mono (ok' := (fun k_ => (w.heap.size ≤ k_) ∧ k_ ≠ g)) (IsS75.apart HI1.out (HO517.out) (by decide)) (fun k_ hk => ⟨hk.1.1.1.1.1, hk.2⟩))))) (Reps.one (show Kd.FK (Kd.slice 3 (Kd.int .i64)) _ _ y518 [.slice Ao18 y518.length co18] from (Kd.FK_slice_mk (Kd.R_reads' (Kd.R_mono (ok' := (fun k_ => (w.heap.size ≤ k_) ∧ k_ ≠ g)) (IsS75.apart HI1.out (HO520.out) (by decide)) (fun k_ hk => ⟨hk.1.1.1.1.1, hk.2⟩))).2.1 (Kd.R_F (Kd.R_mono (ok' := (fun k_ => (w.heap.size ≤ k_) ∧ k_ ≠ g)) (IsS75.apart HI1.out (HO520.out) (by decide)) (fun k_ hk => ⟨hk.1.1.1.1.1, hk.2⟩))))) (Reps.one (show Kd.FK (Kd.slice 3 (Kd.int .i64)) _ _ y521 [.slice Ao19 y521.length co19] from (Kd.FK_slice_mk (Kd.R_reads' (Kd.R_mono (ok' := (fun k_ => (w.heap.size ≤ k_) ∧ k_ ≠ g)) (IsS75.apart HI1.out (HO523.out) (by decide)) (fun k_ hk => ⟨hk.1.1.1.1.1, hk.2⟩))).2.1 (Kd.R_F (Kd.R_mono (ok' := (fun k_ => (w.heap.size ≤ k_) ∧ k_ ≠ g)) (IsS75.apart HI1.out (HO523.out) (by decide)) (fun k_ hk => ⟨hk.1.1.1.1.1, hk.2⟩))))) (Reps.one (show Kd.FK (Kd.slice 3 (Kd.int .i64)) _ _ y524 [.slice Ao20 y524.length co20] from (Kd.FK_slice_mk (Kd.R_reads' (Kd.R_mono (ok' := (fun k_ => (w.heap.size ≤ k_) ∧ k_ ≠ g)) (IsS75.apart HI1.out (HO526.out) (by decide)) (fun k_ hk => ⟨hk.1.1.1.1.1, hk.2⟩))).2.1 (Kd.R_F (Kd.R_mono (ok' := (fun k_ => (w.heap.size ≤ k_) ∧ k_ ≠ g)) (IsS75.apart HI1.out (HO526.out) (by decide)) (fun k_ hk => ⟨hk.1.1.1.1.1, hk.2⟩))))) (Reps.none _ _))))))); intro v528 w21 ho22 hb hg_ hnew_; clear hg_ hnew_; (first | rw [← Ny527.out] at ho22 | (simp only [Int.reduceToNat] at ho22; rw [← Ny527.out] at ho22)); have n0_ := Aside0.mk (Kd.N_lower ho22 (keep_size (w := w) (g := g) (row := none) (keep_to HK))); have n1_ := Aside0.mk (IsS75.below (IsS75.to HI1) hb); have n2_ := Aside0.mk (KeepBut.trans (keep_to HK) (KeepBut.of_below hb g none) (.inl rfl)); have n3_ := Aside0.mk (below_step (below_to1 HB (IsS75.ge HI1.out)) hb); clear HI1; clear HK; clear HB; clear HO517; clear HO520; clear HO523; clear HO526; have HO529 := n0_; have HI1 := n1_; have HK := n2_; have HB := n3_; clear n0_ n1_ n2_ n3_; clear hb ho22) | ((with_reducible refine gate_callee (f := 67) rfl ?_); refine goesL_ (some 17) rfl rfl Tryz.func67 (by kernel_rfl) rfl #[.pointer (some ⟨g, 0, none⟩), .int .i64 5] rfl am_ ?_; (with_reducible refine (spec_l1Cur_pick.calls g l0 t513 t514 5 t530 t531 t532 w0 _ ?side1 ?side2 A5.out).mono ?_); (case side1 => exact IsS75.to HI1); (case side2 => exact below_to1 HB (IsS75.ge HI1.out)); rintro e w23 ⟨rfl, hi, hb, hk⟩; refine ⟨_, rfl, ?_⟩; replace HO529 := Aside0.mk (Kd.N_mono (Kd.N_keep (Kd.N_mono (ok := fun k_ => (((w.heap.size ≤ k_)) ∧ k_ ≠ g)) (by (with_reducible repeat (first | apply Kd.N_alloc | apply Kd.N_drewN | apply Kd.N_drew)); exact HO529.out) (fun k_ hk_ => (⟨hk_, hk_.2⟩ : _ ∧ k_ ≠ g))) hk (fun _ h => h.2)) (fun _ h => h.1)); replace HK := Aside0.mk (KeepBut.trans (keep_to HK) hk (.inl rfl)); replace HB := Aside0.mk (hb); replace HI1 := Aside0.mk (hi); clear hb hk hi; obtain ⟨Ao24, co24, eo24⟩ := Kd.N_slice HO529.out; subst eo24; have p533 : 0 ≤ (t530 : Int) := of_decide_eq_true (by first | (with_reducible assumption) | assumption); have q533 : t530 < (y527.length : Int) := of_decide_eq_true (by first | (with_reducible assumption) | assumption); obtain ⟨ad533, A533_0, c533_0, e533, hx533_0, hl533_0, hi533_0⟩ := at_L2 (Kd.N_reads' HO529.out).2.2 t530 p533 q533; cases e533; obtain ⟨ce533, hce533, hMe533, hcc533⟩ := Kd.N_get HO529.out [] t530 p533 (by first | exact q533 | exact of_decide_eq_true (by first | (with_reducible assumption) | assumption) | (have e_ := (Kd.N_reads' HO529.out).1; omega)); obtain ⟨ua533_0, uc533_0, rfl, ul533_0, ge533_0⟩ := Kd.FK_slice_open hMe533; have hv533_0 := hcc533 0 _ rfl; rw [Nat.add_zero, show ((Kd.slice 3 (Kd.int .i64))).sz = 1 from rfl, Nat.mul_one] at hv533_0; replace hv533_0 := Option.some.inj (hv533_0.symm.trans hx533_0); injection hv533_0 with hva_ hvn_ hvc_; rw [hva_] at ge533_0; rw [hvc_] at ul533_0; have HL533_0 := Aside0.mk (show Kd.V (Kd.int .i64) 3 _ w.heap.size _ _ (rd_L2 y527 t530) from Kd.V_mk ul533_0 ge533_0); clear hva_ hvn_ hvc_ ge533_0 ul533_0; clear hcc533 hce533; have HR533_0 := Aside0.mk hi533_0; have HC533_0 := Aside0.mk hl533_0; clear hi533_0 hl533_0; replace p533 := eq_true p533; replace q533 := eq_true q533))
   go_ret
   exact ⟨_, rtE_, by (with_reducible repeat (first | apply Kd.V_alloc | apply Kd.V_drewN | apply Kd.V_drew)); exact Kd.V_mono HL533_0.out (fun _ hk => hk.1.1), by repeat (first | (with_reducible first | exact HI1.out | apply IsS75.alloc | apply IsS75.drewN | apply IsS75.drew | apply IsS75.set_1 | apply IsS75.set_2) | exact HI1.out), by repeat (first | (with_reducible first | exact HB.out | apply below_alloc | apply pw_below_drewN | apply below_drew1 | refine below_set ?_ (IsS75.ge HI1.out)) | exact HB.out), by repeat (first | (with_reducible first | exact HK.out | apply KeepBut.set_ | apply keep_drewN | apply keep_drew | apply keep_alloc) | exact HK.out)⟩
  ·rw [if_neg c7] at H
   cases H
 ·rw [if_neg c6] at H
  cases H
def spec_DrawMeanByHalves.f (k : Nat) (l0 : List Int) : Option (List Int) := (spec_DrawMeanByTimes.f k l0).bind fun t542 => (some t542)
theorem spec_DrawMeanByHalves.calls (k : Nat) (A0 : Option Addr) (c0 : Nat) (l0 : List Int) (r : List Int) (w : World) (hr0 : Kd.C (Kd.int .u8) w A0 l0.length l0) (hc0 : l0.length ≤ c0) (h : spec_DrawMeanByHalves.f k l0 = some r) :
  Calls Tryz.prog 35 #[.slice A0 l0.length c0] w fun e w' => ∃ Aa : Value, e = .returned (Aa) ∧ Kd.V (Kd.int .i64) 3 w' w.heap.size (fun k_ => (w.heap.size ≤ k_)) Aa r ∧ Below w.heap.size w w' := by
 have HR0 := Aside0.mk hr0
 have HC0 := Aside0.mk hc0
 clear hr0 hc0
 have HB := Aside0.mk (Below.refl w.heap.size w)
 have H := h
 unfold spec_DrawMeanByHalves.f at H
 clear h
 replace H := Option.bind_eq_some_iff.mp H
 obtain ⟨t542, A20, H⟩ := H
 replace H : (some t542) = some r := H
 have A2 := Aside0.mk A20
 clear A20
 obtain rfl := Option.some.inj H
 go_enter Tryz.func35, Tryz.ntmps35
 go_wp2_with (first | ((with_reducible refine gate_callee (f := 68) rfl ?_); refine goesL_ (some 4) rfl rfl Tryz.func68 (by kernel_rfl) rfl #[.slice A0 l0.length c0] rfl am_ ?_; (with_reducible refine (spec_DrawMeanByTimes.calls k _ _ l0 t542 _ ?side1 ?side2 A2.out).mono ?_); (case side1 => exact c_to HR0); (case side2 => exact HC0.out); rintro e w3 ⟨v543, rfl, ho0, hb⟩; refine ⟨_, rfl, ?_⟩; have HO544 := Aside0.mk (Kd.V_lower (Kd.V_mono (ok' := fun k_ => (w.heap.size ≤ k_)) ho0 (fun k_ hk_ => (Nat.le_trans (below_size (below_to HB)) hk_))) (below_size (below_to HB))); replace HB := Aside0.mk (below_step (below_to HB) hb); clear hb; (try clear ho0)))
 go_ret
 exact ⟨_, rtE_, vd_to HO544, below_to HB⟩
mutual
def spec_l1Cur_spoilt.l0 : Nat → ByteArray → ByteArray → Int → List Int → Int → Int → Option (ByteArray × Int × Int)
 | 0, _, _, _, _, _, _ => none
 | k + 1, x1, x2, x7, x1000, x1001, x1002 => if x7 > 0 then (spec_l1Cur_spoilt.j1 k x1 x2 x7 (decide ((x1.size : Int) > 0)) x1000 x1001 x1002) else (spec_l1Cur_spoilt.j1 k x1 x2 x7 false x1000 x1001 x1002)
def spec_l1Cur_spoilt.j1 : Nat → ByteArray → ByteArray → Int → Bool → List Int → Int → Int → Option (ByteArray × Int × Int)
 | 0, _, _, _, _, _, _, _ => none
 | k + 1, x1, x2, x7, x19, x1000, x1001, x1002 => if x19 = true then ((spec_l1Cur_pick.f x1000 x1001 x1002 (x1.size : Int)).bind fun bt548 => ((spec_l1Cur_pick.f x1000 bt548.2.1 bt548.2.2 (x2.size : Int)).bind fun bt551 => (if 0 ≤ bt551.1 then (if bt551.1 < (x2.size : Int) then ((some (([bt x2 bt551.1] : List Int) : List Int)).bind fun y554 => ((spec_l1Cur_pick.f x1000 bt551.2.1 bt551.2.2 3).bind fun bt557 => (if bt557.1 = 0 then (if 0 ≤ bt548.1 then (if bt548.1 ≤ (x1.size : Int) then (if (x1.extract 0 (bt548.1 : Int).toNat).size + (strOfNums y554).size ≤ 9223372036854775807 then (if ((x1.extract 0 (bt548.1 : Int).toNat) ++ (strOfNums y554)).size + (x1.extract (bt548.1 : Int).toNat x1.size).size ≤ 9223372036854775807 then (spec_l1Cur_spoilt.l0 k (((x1.extract 0 (bt548.1 : Int).toNat) ++ (strOfNums y554)) ++ (x1.extract (bt548.1 : Int).toNat x1.size)) x2 (wrap64 (x7 - 1)) x1000 bt557.2.1 bt557.2.2) else (none)) else (none)) else (none)) else (none)) else (if bt557.1 = 1 then (if 0 ≤ bt548.1 then (if bt548.1 ≤ (x1.size : Int) then (if (x1.extract 0 (bt548.1 : Int).toNat).size + (strOfNums y554).size ≤ 9223372036854775807 then (if 0 ≤ (wrap64 (bt548.1 + 1)) then (if (wrap64 (bt548.1 + 1)) ≤ (x1.size : Int) then (if ((x1.extract 0 (bt548.1 : Int).toNat) ++ (strOfNums y554)).size + (x1.extract ((wrap64 (bt548.1 + 1)) : Int).toNat x1.size).size ≤ 9223372036854775807 then (spec_l1Cur_spoilt.l0 k (((x1.extract 0 (bt548.1 : Int).toNat) ++ (strOfNums y554)) ++ (x1.extract ((wrap64 (bt548.1 + 1)) : Int).toNat x1.size)) x2 (wrap64 (x7 - 1)) x1000 bt557.2.1 bt557.2.2) else (none)) else (none)) else (none)) else (none)) else (none)) else (none)) else (if 0 ≤ bt548.1 then (if bt548.1 ≤ (x1.size : Int) then (if 0 ≤ (wrap64 (bt548.1 + 1)) then (if (wrap64 (bt548.1 + 1)) ≤ (x1.size : Int) then (if (x1.extract 0 (bt548.1 : Int).toNat).size + (x1.extract ((wrap64 (bt548.1 + 1)) : Int).toNat x1.size).size ≤ 9223372036854775807 then (spec_l1Cur_spoilt.l0 k ((x1.extract 0 (bt548.1 : Int).toNat) ++ (x1.extract ((wrap64 (bt548.1 + 1)) : Int).toNat x1.size)) x2 (wrap64 (x7 - 1)) x1000 bt557.2.1 bt557.2.2) else (none)) else (none)) else (none)) else (none)) else (none)))))) else (none)) else (none)))) else (some (x1, x1001, x1002))
end
def spec_l1Cur_spoilt.f (k : Nat) (s0_0 : List Int) (s0_1 : Int) (s0_2 : Int) (a1 : ByteArray) (a2 : ByteArray) : Option (ByteArray × Int × Int) := (spec_l1Cur_pick.f s0_0 s0_1 s0_2 2).bind fun bt545 => (spec_l1Cur_spoilt.l0 k a1 a2 (wrap64 (1 + bt545.1)) s0_0 bt545.2.1 bt545.2.2)
theorem spec_l1Cur_spoilt.calls (k : Nat) (g : Nat) (s0_0 : List Int) (s0_1 : Int) (s0_2 : Int) (a1 : ByteArray) (a2 : ByteArray) (r1 : ByteArray) (r2 : Int) (r3 : Int) (w0 w : World) (hI : IsS75 w0 w g s0_0 s0_1 s0_2) (hB : Below w0.heap.size w0 w) (h : spec_l1Cur_spoilt.f k s0_0 s0_1 s0_2 a1 a2 = some (r1, r2, r3)) :
  Calls Tryz.prog 70 #[.pointer (some ⟨g, 0, none⟩), .string a1, .string a2] w fun e w' => e = .returned (.string r1) ∧ IsS75 w0 w' g s0_0 r2 r3 ∧ Below w0.heap.size w0 w' ∧ KeepBut w w' g none := by
 have HI0 := Aside0.mk hI
 have HK := Aside0.mk (KeepBut.refl w g none)
 have HL := Aside0.mk hB.size
 clear hI
 have HW0 := Aside0.mk hB.size
 have HB := Aside0.mk hB
 clear hB
 have H := h
 unfold spec_l1Cur_spoilt.f at H
 clear h
 replace H := Option.bind_eq_some_iff.mp H
 obtain ⟨⟨t545, t546, t547⟩, A40, H⟩ := H
 (try dsimp only at H)
 have A4 := Aside0.mk A40
 clear A40
 have H' := Aside0.mk H
 clear H
 go_enter Tryz.func70, Tryz.ntmps70
 go_wp2_with (first | (go_at_call 67; (with_reducible refine (spec_l1Cur_pick.calls g s0_0 s0_1 s0_2 2 t545 t546 t547 w0 _ ?side1 ?side2 A4.out).mono ?_); (case side1 => exact IsS75.to HI0); (case side2 => exact below_to1 HB (IsS75.ge HI0.out)); rintro e w5 ⟨rfl, hi, hb, hk⟩; replace HK := Aside0.mk (KeepBut.trans (keep_to HK) hk (.inl rfl)); replace HB := Aside0.mk (hb); replace HI0 := Aside0.mk (hi); clear hb hk hi))
 repeat (go_quiet (first | (go_at_call 67; (with_reducible refine (spec_l1Cur_pick.calls g s0_0 s0_1 s0_2 2 t545 t546 t547 w0 _ ?side1 ?side2 A4.out).mono ?_); (case side1 => exact IsS75.to HI0); (case side2 => exact below_to1 HB (IsS75.ge HI0.out)); rintro e w5 ⟨rfl, hi, hb, hk⟩; replace HK := Aside0.mk (KeepBut.trans (keep_to HK) hk (.inl rfl)); replace HB := Aside0.mk (hb); replace HI0 := Aside0.mk (hi); clear hb hk hi)); try go_wp2_with (first | (go_at_call 67; (with_reducible refine (spec_l1Cur_pick.calls g s0_0 s0_1 s0_2 2 t545 t546 t547 w0 _ ?side1 ?side2 A4.out).mono ?_); (case side1 => exact IsS75.to HI0); (case side2 => exact below_to1 HB (IsS75.ge HI0.out)); rintro e w5 ⟨rfl, hi, hb, hk⟩; replace HK := Aside0.mk (KeepBut.trans (keep_to HK) hk (.inl rfl)); replace HB := Aside0.mk (hb); replace HI0 := Aside0.mk (hi); clear hb hk hi)))
 go_loopg [1, 7] k (fun kq v1 v7 w' => ∃ (x1_1 : ByteArray) (x7_1 : Int) (x1001_1 : Int) (x1002_1 : Int), v1 = .string x1_1 ∧ v7 = .int .i64 x7_1 ∧ Aside0 (spec_l1Cur_spoilt.l0 kq x1_1 a2 x7_1 s0_0 x1001_1 x1002_1 = some (r1, r2, r3)) ∧ Aside0 (kq ≤ k) ∧ Aside0 (IsS75 w0 w' g s0_0 x1001_1 x1002_1) ∧ Aside0 (KeepBut w w' g none) ∧ Aside0 (Below w0.heap.size w0 w'))
 case atStart => exact ⟨(a1), (wrap64 (1 + t545)), (t546), (t547), rt_, rt_, H', ⟨Nat.le_refl _⟩, ⟨by repeat (first | (with_reducible first | exact HI0.out | apply IsS75.alloc | apply IsS75.drewN | apply IsS75.drew | apply IsS75.set_1 | apply IsS75.set_2) | exact HI0.out)⟩, ⟨keep_to HK⟩, ⟨below_to1 HB (IsS75.ge HI0.out)⟩⟩
 clear H'
 try clear p2
 obtain ⟨x1_1, x7_1, x1001_1, x1002_1, rfl, rfl, HA, HK1, HI0, HK, HB⟩ := hrel
 cases gk with
 | zero => exact absurd HA.out (by simp [spec_l1Cur_spoilt.l0])
 | succ k1 =>
  have H := HA.out
  clear HA
  simp only [spec_l1Cur_spoilt.l0] at H
  have HC6 := Aside0.mk H
  clear H
  go_upto_region 2 with (fail)
  repeat (go_quiet (fail); go_upto_region 2 with (fail))
  go_cut [19] (fun v19 wc => ∃ (kq : Nat) (x19_5 : Bool), v19 = .bool x19_5 ∧ Aside0 (spec_l1Cur_spoilt.j1 kq x1_1 a2 x7_1 x19_5 s0_0 x1001_1 x1002_1 = some (r1, r2, r3)) ∧ Aside0 (kq ≤ k1) ∧ Aside0 (IsS75 w0 wc g s0_0 x1001_1 x1002_1) ∧ Aside0 (KeepBut w wc g none) ∧ Aside0 (Below w0.heap.size w0 wc))
  case first =>
   have H := HC6.out
   clear HC6
   by_cases c7 : x7_1 > 0
   ·rw [if_pos c7] at H
    have c7b0 := decide_eq_true c7
    clear c7
    (first | rw [c7b0] | (simp only [i64_w, i32_w]; rw [c7b0]) | skip)
    have H' := Aside0.mk H
    clear H
    go_wp2
    repeat (go_quiet (fail); try go_wp2)
    go_meet
    case rel => exact ⟨_, (decide ((x1_1.size : Int) > 0)), rt_, H', ⟨by have := HK1.out; first | omega | exact Nat.le_refl _⟩, ⟨by repeat (first | (with_reducible first | exact HI0.out | apply IsS75.alloc | apply IsS75.drewN | apply IsS75.drew | apply IsS75.set_1 | apply IsS75.set_2) | exact HI0.out)⟩, ⟨keep_to HK⟩, ⟨below_to1 HB (IsS75.ge HI0.out)⟩⟩
   ·rw [if_neg c7] at H
    have c7b0 := decide_eq_false c7
    clear c7
    (first | rw [c7b0] | (simp only [i64_w, i32_w]; rw [c7b0]) | skip)
    have H' := Aside0.mk H
    clear H
    go_wp2
    repeat (go_quiet (fail); try go_wp2)
    go_meet
    case rel => exact ⟨_, (false), rt_, H', ⟨by have := HK1.out; first | omega | exact Nat.le_refl _⟩, ⟨by repeat (first | (with_reducible first | exact HI0.out | apply IsS75.alloc | apply IsS75.drewN | apply IsS75.drew | apply IsS75.set_1 | apply IsS75.set_2) | exact HI0.out)⟩, ⟨keep_to HK⟩, ⟨below_to1 HB (IsS75.ge HI0.out)⟩⟩
  clear HC6
  try clear p2
  try clear p6
  try clear c7
  try clear c7b0
  try clear p2
  obtain ⟨kq, x19_5, rfl, HA, HJ5, HI0, HK, HB⟩ := hcut
  cases kq with
  | zero => exact absurd HA.out (by simp [spec_l1Cur_spoilt.j1])
  | succ kj5 =>
   have H := HA.out
   clear HA
   simp only [spec_l1Cur_spoilt.j1] at H
   by_cases c8 : x19_5 = true
   rotate_left
   ·replace c8 := Bool.eq_false_iff.mpr c8
    subst c8
    rw [if_neg ft_] at H
    simp only [Option.some.injEq, Prod.mk.injEq] at H
    obtain ⟨rfl, rfl, rfl⟩ := H
    go_wp2
    repeat (go_quiet (fail); try go_wp2)
    go_ret
    exact ⟨rtE_, by repeat (first | (with_reducible first | exact HI0.out | apply IsS75.alloc | apply IsS75.drewN | apply IsS75.drew | apply IsS75.set_1 | apply IsS75.set_2) | exact HI0.out), by repeat (first | (with_reducible first | exact HB.out | apply below_alloc | apply pw_below_drewN | apply below_drew1 | refine below_set ?_ (IsS75.ge HI0.out)) | exact HB.out), by repeat (first | (with_reducible first | exact HK.out | apply KeepBut.set_ | apply keep_drewN | apply keep_drew | apply keep_alloc) | exact HK.out)⟩
   subst c8
   rw [if_pos rfl] at H
   replace H := Option.bind_eq_some_iff.mp H
   obtain ⟨⟨t548, t549, t550⟩, A90, H⟩ := H
   (try dsimp only at H)
   have A9 := Aside0.mk A90
   clear A90
   replace H := Option.bind_eq_some_iff.mp H
   obtain ⟨⟨t551, t552, t553⟩, A100, H⟩ := H
   (try dsimp only at H)
   have A10 := Aside0.mk A100
   clear A100
   by_cases c11 : 0 ≤ t551
   rotate_left
   ·rw [if_neg c11] at H
    cases H
   rw [if_pos c11] at H
   have c11b0 := decide_eq_true c11
   clear c11
   by_cases c12 : t551 < (a2.size : Int)
   rotate_left
   ·rw [if_neg c12] at H
    cases H
   rw [if_pos c12] at H
   have c12b0 := decide_eq_true c12
   clear c12
   obtain ⟨y554, hy554⟩ : ∃ y_ : List Int, y_ = (([bt a2 t551] : List Int)) := ⟨_, rfl⟩
   replace H : ((spec_l1Cur_pick.f s0_0 t552 t553 3).bind fun bt557 => (if bt557.1 = 0 then (if 0 ≤ t548 then (if t548 ≤ (x1_1.size : Int) then (if (x1_1.extract 0 (t548 : Int).toNat).size + (strOfNums y554).size ≤ 9223372036854775807 then (if ((x1_1.extract 0 (t548 : Int).toNat) ++ (strOfNums y554)).size + (x1_1.extract (t548 : Int).toNat x1_1.size).size ≤ 9223372036854775807 then (spec_l1Cur_spoilt.l0 kj5 (((x1_1.extract 0 (t548 : Int).toNat) ++ (strOfNums y554)) ++ (x1_1.extract (t548 : Int).toNat x1_1.size)) a2 (wrap64 (x7_1 - 1)) s0_0 bt557.2.1 bt557.2.2) else (none)) else (none)) else (none)) else (none)) else (if bt557.1 = 1 then (if 0 ≤ t548 then (if t548 ≤ (x1_1.size : Int) then (if (x1_1.extract 0 (t548 : Int).toNat).size + (strOfNums y554).size ≤ 9223372036854775807 then (if 0 ≤ (wrap64 (t548 + 1)) then (if (wrap64 (t548 + 1)) ≤ (x1_1.size : Int) then (if ((x1_1.extract 0 (t548 : Int).toNat) ++ (strOfNums y554)).size + (x1_1.extract ((wrap64 (t548 + 1)) : Int).toNat x1_1.size).size ≤ 9223372036854775807 then (spec_l1Cur_spoilt.l0 kj5 (((x1_1.extract 0 (t548 : Int).toNat) ++ (strOfNums y554)) ++ (x1_1.extract ((wrap64 (t548 + 1)) : Int).toNat x1_1.size)) a2 (wrap64 (x7_1 - 1)) s0_0 bt557.2.1 bt557.2.2) else (none)) else (none)) else (none)) else (none)) else (none)) else (none)) else (if 0 ≤ t548 then (if t548 ≤ (x1_1.size : Int) then (if 0 ≤ (wrap64 (t548 + 1)) then (if (wrap64 (t548 + 1)) ≤ (x1_1.size : Int) then (if (x1_1.extract 0 (t548 : Int).toNat).size + (x1_1.extract ((wrap64 (t548 + 1)) : Int).toNat x1_1.size).size ≤ 9223372036854775807 then (spec_l1Cur_spoilt.l0 kj5 ((x1_1.extract 0 (t548 : Int).toNat) ++ (x1_1.extract ((wrap64 (t548 + 1)) : Int).toNat x1_1.size)) a2 (wrap64 (x7_1 - 1)) s0_0 bt557.2.1 bt557.2.2) else (none)) else (none)) else (none)) else (none)) else (none))))) = some (r1, r2, r3) := by first | (rw [hy554]; with_reducible exact H) | (have H2_ := (Option.bind_some _ _).symm.trans H; rw [hy554]; with_reducible exact H2_) | (have H2_ := (Option.bind_some _ _).symm.trans H; with_reducible exact H2_) | with_reducible exact H | (rw [hy554]; exact H) | exact H
   have Ny554 := Aside0.mk hy554
   clear hy554
   replace H := Option.bind_eq_some_iff.mp H
   obtain ⟨⟨t557, t558, t559⟩, A140, H⟩ := H
   (try dsimp only at H)
   have A14 := Aside0.mk A140
   clear A140
   by_cases c15 : t557 = 0
   ·rw [if_pos c15] at H
    have c15b0 := beq_iff_eq.mpr c15
    have c15b1 := bne_eq_false_iff_eq.mpr c15
    clear c15
    by_cases c16 : 0 ≤ t548
    rotate_left
    ·rw [if_neg c16] at H
     cases H
    rw [if_pos c16] at H
    have c16b0 := eq_true c16
    have c16b1 := decide_eq_true c16
    clear c16
    by_cases c17 : t548 ≤ (x1_1.size : Int)
    rotate_left
    ·rw [if_neg c17] at H
     cases H
    rw [if_pos c17] at H
    have c17b0 := eq_true c17
    have c17b1 := decide_eq_true c17
    clear c17
    by_cases c18 : (x1_1.extract 0 (t548 : Int).toNat).size + (strOfNums y554).size ≤ 9223372036854775807
    ·rw [if_pos c18] at H
     have c18b0 := eq_true c18
     have c18b1 := decide_eq_true c18
     try have c18b2 : (9223372036854775807 < (x1_1.extract 0 (t548 : Int).toNat).size + (strOfNums y554).size) = False := eq_false (Nat.not_lt.2 c18)
     have c19b0 := eq_true (of_decide_eq_true (by first | (with_reducible assumption) | assumption) : 0 ≤ t548)
     have c20b0 := eq_true (of_decide_eq_true (by first | (with_reducible assumption) | assumption) : t548 ≤ (x1_1.size : Int))
     by_cases c21 : ((x1_1.extract 0 (t548 : Int).toNat) ++ (strOfNums y554)).size + (x1_1.extract (t548 : Int).toNat x1_1.size).size ≤ 9223372036854775807
     ·rw [if_pos c21] at H
      have c21b0 := eq_true c21
      have c21b1 := decide_eq_true c21
      try have c21b2 : (9223372036854775807 < ((x1_1.extract 0 (t548 : Int).toNat) ++ (strOfNums y554)).size + (x1_1.extract (t548 : Int).toNat x1_1.size).size) = False := eq_false (Nat.not_lt.2 c21)
      have c21b8 : (9223372036854775807 < (x1_1.extract 0 (t548 : Int).toNat).size + (strOfNums y554).size + (x1_1.extract (t548 : Int).toNat x1_1.size).size) = False := eq_false (by have h_ := c21; simp only [ByteArray.size_append] at h_; omega)
      have c21b9 : decide ((x1_1.extract 0 (t548 : Int).toNat).size + (strOfNums y554).size + (x1_1.extract (t548 : Int).toNat x1_1.size).size ≤ 9223372036854775807) = true := decide_eq_true (by have h_ := c21; simp only [ByteArray.size_append] at h_; omega)
      have H' := Aside0.mk H
      clear H
      go_wp2_with (first | (go_at_call 67; (with_reducible refine (spec_l1Cur_pick.calls g s0_0 x1001_1 x1002_1 (x1_1.size : Int) t548 t549 t550 w0 _ ?side1 ?side2 A9.out).mono ?_); (case side1 => exact IsS75.to HI0); (case side2 => exact below_to1 HB (IsS75.ge HI0.out)); rintro e w22 ⟨rfl, hi, hb, hk⟩; replace HK := Aside0.mk (KeepBut.trans (keep_to HK) hk (.inl rfl)); replace HB := Aside0.mk (hb); replace HI0 := Aside0.mk (hi); clear hb hk hi) | (go_at_call 67; (with_reducible refine (spec_l1Cur_pick.calls g s0_0 t549 t550 (a2.size : Int) t551 t552 t553 w0 _ ?side1 ?side2 A10.out).mono ?_); (case side1 => exact IsS75.to HI0); (case side2 => exact below_to1 HB (IsS75.ge HI0.out)); rintro e w23 ⟨rfl, hi, hb, hk⟩; replace HK := Aside0.mk (KeepBut.trans (keep_to HK) hk (.inl rfl)); replace HB := Aside0.mk (hb); replace HI0 := Aside0.mk (hi); clear hb hk hi; have p13 : 0 ≤ (t551 : Int) := of_decide_eq_true (by first | (with_reducible assumption) | assumption); have q13 : t551 < (a2.size : Int) := of_decide_eq_true (by first | (with_reducible assumption) | assumption); have hx13 := bt_at a2 t551; replace p13 := eq_true p13; replace q13 := eq_true q13) | ((with_reducible refine gate_dst (N := 32) rfl ?_); (try (refine gate_guard (by rfl) ?_; dsimp only)); refine Kd.R_lit (Kd.int .u8) _ 5 ?hg (N := 32) ?hd (xs := ([bt a2 t551] : List Int)) (inner := [.int .u8 (bt a2 t551)]) (ok := fun _ => True) (okp := fun _ => True) ?hr ?hp (fun _ hk => hk) trivial (Below.refl _ _) (Nat.le_refl _) (by simp) ?_; (case hd => rfl); (case hg => rfl); (case hr => first | (go_simp; done) | (go_simp; rfl)); (case hp => exact (Reps.one (show Kd.M (Kd.int .u8) _ _ _ (bt a2 t551) [.int .u8 (bt a2 t551)] from rfl) (Reps.none _ _))); intro v555 w24 ho25 hb hg_ hnew_; clear hg_ hnew_; (first | rw [← Ny554.out] at ho25 | (simp only [Int.reduceToNat] at ho25; rw [← Ny554.out] at ho25)); have n0_ := Aside0.mk (Kd.R_lower ho25 (keep_size (w := w) (g := g) (row := none) (keep_to HK))); have n1_ := Aside0.mk (IsS75.below (IsS75.to HI0) hb); have n2_ := Aside0.mk (KeepBut.trans (keep_to HK) (KeepBut.of_below hb g none) (.inl rfl)); have n3_ := Aside0.mk (below_step (below_to1 HB (IsS75.ge HI0.out)) hb); clear HI0; clear HK; clear HB; have HO556 := n0_; have HI0 := n1_; have HK := n2_; have HB := n3_; clear n0_ n1_ n2_ n3_; clear hb ho25; have hcv26 := own_string (P := Tryz.prog) Tryz.underlying45 Tryz.underlying5 Tryz.underlying9 (Kd.own_of_R HO556.out)) | (go_at_call 67; (with_reducible refine (spec_l1Cur_pick.calls g s0_0 t552 t553 3 t557 t558 t559 w0 _ ?side1 ?side2 A14.out).mono ?_); (case side1 => exact IsS75.to HI0); (case side2 => exact below_to1 HB (IsS75.ge HI0.out)); rintro e w27 ⟨rfl, hi, hb, hk⟩; replace HO556 := Aside0.mk (Kd.R_mono (Kd.R_keep (IsS75.apart (IsS75.to HI0) (kd_to HO556) (by decide)) hk (fun _ h => h.2)) (fun _ h => h.1)); replace HK := Aside0.mk (KeepBut.trans (keep_to HK) hk (.inl rfl)); replace HB := Aside0.mk (hb); replace HI0 := Aside0.mk (hi); clear hb hk hi))
      repeat (go_quiet (first | (go_at_call 67; (with_reducible refine (spec_l1Cur_pick.calls g s0_0 x1001_1 x1002_1 (x1_1.size : Int) t548 t549 t550 w0 _ ?side1 ?side2 A9.out).mono ?_); (case side1 => exact IsS75.to HI0); (case side2 => exact below_to1 HB (IsS75.ge HI0.out)); rintro e w22 ⟨rfl, hi, hb, hk⟩; replace HK := Aside0.mk (KeepBut.trans (keep_to HK) hk (.inl rfl)); replace HB := Aside0.mk (hb); replace HI0 := Aside0.mk (hi); clear hb hk hi) | (go_at_call 67; (with_reducible refine (spec_l1Cur_pick.calls g s0_0 t549 t550 (a2.size : Int) t551 t552 t553 w0 _ ?side1 ?side2 A10.out).mono ?_); (case side1 => exact IsS75.to HI0); (case side2 => exact below_to1 HB (IsS75.ge HI0.out)); rintro e w23 ⟨rfl, hi, hb, hk⟩; replace HK := Aside0.mk (KeepBut.trans (keep_to HK) hk (.inl rfl)); replace HB := Aside0.mk (hb); replace HI0 := Aside0.mk (hi); clear hb hk hi; have p13 : 0 ≤ (t551 : Int) := of_decide_eq_true (by first | (with_reducible assumption) | assumption); have q13 : t551 < (a2.size : Int) := of_decide_eq_true (by first | (with_reducible assumption) | assumption); have hx13 := bt_at a2 t551; replace p13 := eq_true p13; replace q13 := eq_true q13) | ((with_reducible refine gate_dst (N := 32) rfl ?_); (try (refine gate_guard (by rfl) ?_; dsimp only)); refine Kd.R_lit (Kd.int .u8) _ 5 ?hg (N := 32) ?hd (xs := ([bt a2 t551] : List Int)) (inner := [.int .u8 (bt a2 t551)]) (ok := fun _ => True) (okp := fun _ => True) ?hr ?hp (fun _ hk => hk) trivial (Below.refl _ _) (Nat.le_refl _) (by simp) ?_; (case hd => rfl); (case hg => rfl); (case hr => first | (go_simp; done) | (go_simp; rfl)); (case hp => exact (Reps.one (show Kd.M (Kd.int .u8) _ _ _ (bt a2 t551) [.int .u8 (bt a2 t551)] from rfl) (Reps.none _ _))); intro v555 w24 ho25 hb hg_ hnew_; clear hg_ hnew_; (first | rw [← Ny554.out] at ho25 | (simp only [Int.reduceToNat] at ho25; rw [← Ny554.out] at ho25)); have n0_ := Aside0.mk (Kd.R_lower ho25 (keep_size (w := w) (g := g) (row := none) (keep_to HK))); have n1_ := Aside0.mk (IsS75.below (IsS75.to HI0) hb); have n2_ := Aside0.mk (KeepBut.trans (keep_to HK) (KeepBut.of_below hb g none) (.inl rfl)); have n3_ := Aside0.mk (below_step (below_to1 HB (IsS75.ge HI0.out)) hb); clear HI0; clear HK; clear HB; have HO556 := n0_; have HI0 := n1_; have HK := n2_; have HB := n3_; clear n0_ n1_ n2_ n3_; clear hb ho25; have hcv26 := own_string (P := Tryz.prog) Tryz.underlying45 Tryz.underlying5 Tryz.underlying9 (Kd.own_of_R HO556.out)) | (go_at_call 67; (with_reducible refine (spec_l1Cur_pick.calls g s0_0 t552 t553 3 t557 t558 t559 w0 _ ?side1 ?side2 A14.out).mono ?_); (case side1 => exact IsS75.to HI0); (case side2 => exact below_to1 HB (IsS75.ge HI0.out)); rintro e w27 ⟨rfl, hi, hb, hk⟩; replace HO556 := Aside0.mk (Kd.R_mono (Kd.R_keep (IsS75.apart (IsS75.to HI0) (kd_to HO556) (by decide)) hk (fun _ h => h.2)) (fun _ h => h.1)); replace HK := Aside0.mk (KeepBut.trans (keep_to HK) hk (.inl rfl)); replace HB := Aside0.mk (hb); replace HI0 := Aside0.mk (hi); clear hb hk hi)); try go_wp2_with (first | (go_at_call 67; (with_reducible refine (spec_l1Cur_pick.calls g s0_0 x1001_1 x1002_1 (x1_1.size : Int) t548 t549 t550 w0 _ ?side1 ?side2 A9.out).mono ?_); (case side1 => exact IsS75.to HI0); (case side2 => exact below_to1 HB (IsS75.ge HI0.out)); rintro e w22 ⟨rfl, hi, hb, hk⟩; replace HK := Aside0.mk (KeepBut.trans (keep_to HK) hk (.inl rfl)); replace HB := Aside0.mk (hb); replace HI0 := Aside0.mk (hi); clear hb hk hi) | (go_at_call 67; (with_reducible refine (spec_l1Cur_pick.calls g s0_0 t549 t550 (a2.size : Int) t551 t552 t553 w0 _ ?side1 ?side2 A10.out).mono ?_); (case side1 => exact IsS75.to HI0); (case side2 => exact below_to1 HB (IsS75.ge HI0.out)); rintro e w23 ⟨rfl, hi, hb, hk⟩; replace HK := Aside0.mk (KeepBut.trans (keep_to HK) hk (.inl rfl)); replace HB := Aside0.mk (hb); replace HI0 := Aside0.mk (hi); clear hb hk hi; have p13 : 0 ≤ (t551 : Int) := of_decide_eq_true (by first | (with_reducible assumption) | assumption); have q13 : t551 < (a2.size : Int) := of_decide_eq_true (by first | (with_reducible assumption) | assumption); have hx13 := bt_at a2 t551; replace p13 := eq_true p13; replace q13 := eq_true q13) | ((with_reducible refine gate_dst (N := 32) rfl ?_); (try (refine gate_guard (by rfl) ?_; dsimp only)); refine Kd.R_lit (Kd.int .u8) _ 5 ?hg (N := 32) ?hd (xs := ([bt a2 t551] : List Int)) (inner := [.int .u8 (bt a2 t551)]) (ok := fun _ => True) (okp := fun _ => True) ?hr ?hp (fun _ hk => hk) trivial (Below.refl _ _) (Nat.le_refl _) (by simp) ?_; (case hd => rfl); (case hg => rfl); (case hr => first | (go_simp; done) | (go_simp; rfl)); (case hp => exact (Reps.one (show Kd.M (Kd.int .u8) _ _ _ (bt a2 t551) [.int .u8 (bt a2 t551)] from rfl) (Reps.none _ _))); intro v555 w24 ho25 hb hg_ hnew_; clear hg_ hnew_; (first | rw [← Ny554.out] at ho25 | (simp only [Int.reduceToNat] at ho25; rw [← Ny554.out] at ho25)); have n0_ := Aside0.mk (Kd.R_lower ho25 (keep_size (w := w) (g := g) (row := none) (keep_to HK))); have n1_ := Aside0.mk (IsS75.below (IsS75.to HI0) hb); have n2_ := Aside0.mk (KeepBut.trans (keep_to HK) (KeepBut.of_below hb g none) (.inl rfl)); have n3_ := Aside0.mk (below_step (below_to1 HB (IsS75.ge HI0.out)) hb); clear HI0; clear HK; clear HB; have HO556 := n0_; have HI0 := n1_; have HK := n2_; have HB := n3_; clear n0_ n1_ n2_ n3_; clear hb ho25; have hcv26 := own_string (P := Tryz.prog) Tryz.underlying45 Tryz.underlying5 Tryz.underlying9 (Kd.own_of_R HO556.out)) | (go_at_call 67; (with_reducible refine (spec_l1Cur_pick.calls g s0_0 t552 t553 3 t557 t558 t559 w0 _ ?side1 ?side2 A14.out).mono ?_); (case side1 => exact IsS75.to HI0); (case side2 => exact below_to1 HB (IsS75.ge HI0.out)); rintro e w27 ⟨rfl, hi, hb, hk⟩; replace HO556 := Aside0.mk (Kd.R_mono (Kd.R_keep (IsS75.apart (IsS75.to HI0) (kd_to HO556) (by decide)) hk (fun _ h => h.2)) (fun _ h => h.1)); replace HK := Aside0.mk (KeepBut.trans (keep_to HK) hk (.inl rfl)); replace HB := Aside0.mk (hb); replace HI0 := Aside0.mk (hi); clear hb hk hi)))
      go_roundg kj5
      case measure => have := HK1.out; have := HJ5.out; omega
      case rel => exact ⟨(((x1_1.extract 0 (t548 : Int).toNat) ++ (strOfNums y554)) ++ (x1_1.extract (t548 : Int).toNat x1_1.size)), (wrap64 (x7_1 - 1)), (t558), (t559), rt_, rt_, H', ⟨by have := HK1.out; have := HJ5.out; omega⟩, ⟨by repeat (first | (with_reducible first | exact HI0.out | apply IsS75.alloc | apply IsS75.drewN | apply IsS75.drew | apply IsS75.set_1 | apply IsS75.set_2) | exact HI0.out)⟩, ⟨keep_to HK⟩, ⟨below_to1 HB (IsS75.ge HI0.out)⟩⟩
     ·rw [if_neg c21] at H
      cases H
    ·rw [if_neg c18] at H
     cases H
   rw [if_neg c15] at H
   have c15b0 := beq_eq_false_iff_ne.mpr c15
   have c15b1 := bne_iff_ne.mpr c15
   by_cases c28 : t557 = 1
   rotate_left
   ·rw [if_neg c28] at H
    have c28b0 := beq_eq_false_iff_ne.mpr c28
    have c28b1 := bne_iff_ne.mpr c28
    by_cases c42 : 0 ≤ t548
    rotate_left
    ·rw [if_neg c42] at H
     cases H
    rw [if_pos c42] at H
    have c42b0 := eq_true c42
    have c42b1 := decide_eq_true c42
    clear c42
    by_cases c43 : t548 ≤ (x1_1.size : Int)
    rotate_left
    ·rw [if_neg c43] at H
     cases H
    rw [if_pos c43] at H
    have c43b0 := eq_true c43
    have c43b1 := decide_eq_true c43
    clear c43
    obtain ⟨ji44, hji44⟩ : ∃ j_ : Int, (wrap64 (t548 + 1)) = j_ := ⟨_, rfl⟩
    replace H : (if 0 ≤ (ji44) then (if (ji44) ≤ (x1_1.size : Int) then (if (x1_1.extract 0 (t548 : Int).toNat).size + (x1_1.extract ((ji44) : Int).toNat x1_1.size).size ≤ 9223372036854775807 then (spec_l1Cur_spoilt.l0 kj5 ((x1_1.extract 0 (t548 : Int).toNat) ++ (x1_1.extract ((ji44) : Int).toNat x1_1.size)) a2 (wrap64 (x7_1 - 1)) s0_0 t558 t559) else (none)) else (none)) else (none)) = some (r1, r2, r3) := by first | (rw [hji44] at H; exact H) | (simp only [hji44] at H ⊢; exact H)
    (try rw [hji44] at A9)
    (try rw [hji44] at A10)
    (try rw [hji44] at A14)
    have hji44w : (IntKind.i64.wrap (t548 + 1)) = ji44 := (i64_w _).trans hji44
    by_cases c45 : 0 ≤ (ji44)
    ·rw [if_pos c45] at H
     have c45b0 := eq_true c45
     have c45b1 := decide_eq_true c45
     clear c45
     by_cases c46 : (ji44) ≤ (x1_1.size : Int)
     ·rw [if_pos c46] at H
      have c46b0 := eq_true c46
      have c46b1 := decide_eq_true c46
      clear c46
      by_cases c47 : (x1_1.extract 0 (t548 : Int).toNat).size + (x1_1.extract ((ji44) : Int).toNat x1_1.size).size ≤ 9223372036854775807
      ·rw [if_pos c47] at H
       have c47b0 := eq_true c47
       have c47b1 := decide_eq_true c47
       try have c47b2 : (9223372036854775807 < (x1_1.extract 0 (t548 : Int).toNat).size + (x1_1.extract ((ji44) : Int).toNat x1_1.size).size) = False := eq_false (Nat.not_lt.2 c47)
       have H' := Aside0.mk H
       clear H
       go_wp2_with (first | (go_at_call 67; (with_reducible refine (spec_l1Cur_pick.calls g s0_0 x1001_1 x1002_1 (x1_1.size : Int) t548 t549 t550 w0 _ ?side1 ?side2 A9.out).mono ?_); (case side1 => exact IsS75.to HI0); (case side2 => exact below_to1 HB (IsS75.ge HI0.out)); rintro e w48 ⟨rfl, hi, hb, hk⟩; replace HK := Aside0.mk (KeepBut.trans (keep_to HK) hk (.inl rfl)); replace HB := Aside0.mk (hb); replace HI0 := Aside0.mk (hi); clear hb hk hi) | (go_at_call 67; (with_reducible refine (spec_l1Cur_pick.calls g s0_0 t549 t550 (a2.size : Int) t551 t552 t553 w0 _ ?side1 ?side2 A10.out).mono ?_); (case side1 => exact IsS75.to HI0); (case side2 => exact below_to1 HB (IsS75.ge HI0.out)); rintro e w49 ⟨rfl, hi, hb, hk⟩; replace HK := Aside0.mk (KeepBut.trans (keep_to HK) hk (.inl rfl)); replace HB := Aside0.mk (hb); replace HI0 := Aside0.mk (hi); clear hb hk hi; have p13 : 0 ≤ (t551 : Int) := of_decide_eq_true (by first | (with_reducible assumption) | assumption); have q13 : t551 < (a2.size : Int) := of_decide_eq_true (by first | (with_reducible assumption) | assumption); have hx13 := bt_at a2 t551; replace p13 := eq_true p13; replace q13 := eq_true q13) | ((with_reducible refine gate_dst (N := 32) rfl ?_); (try (refine gate_guard (by rfl) ?_; dsimp only)); refine Kd.R_lit (Kd.int .u8) _ 5 ?hg (N := 32) ?hd (xs := ([bt a2 t551] : List Int)) (inner := [.int .u8 (bt a2 t551)]) (ok := fun _ => True) (okp := fun _ => True) ?hr ?hp (fun _ hk => hk) trivial (Below.refl _ _) (Nat.le_refl _) (by simp) ?_; (case hd => rfl); (case hg => rfl); (case hr => first | (go_simp; done) | (go_simp; rfl)); (case hp => exact (Reps.one (show Kd.M (Kd.int .u8) _ _ _ (bt a2 t551) [.int .u8 (bt a2 t551)] from rfl) (Reps.none _ _))); intro v555 w50 ho51 hb hg_ hnew_; clear hg_ hnew_; (first | rw [← Ny554.out] at ho51 | (simp only [Int.reduceToNat] at ho51; rw [← Ny554.out] at ho51)); have n0_ := Aside0.mk (Kd.R_lower ho51 (keep_size (w := w) (g := g) (row := none) (keep_to HK))); have n1_ := Aside0.mk (IsS75.below (IsS75.to HI0) hb); have n2_ := Aside0.mk (KeepBut.trans (keep_to HK) (KeepBut.of_below hb g none) (.inl rfl)); have n3_ := Aside0.mk (below_step (below_to1 HB (IsS75.ge HI0.out)) hb); clear HI0; clear HK; clear HB; have HO556 := n0_; have HI0 := n1_; have HK := n2_; have HB := n3_; clear n0_ n1_ n2_ n3_; clear hb ho51; have hcv52 := own_string (P := Tryz.prog) Tryz.underlying45 Tryz.underlying5 Tryz.underlying9 (Kd.own_of_R HO556.out)) | (go_at_call 67; (with_reducible refine (spec_l1Cur_pick.calls g s0_0 t552 t553 3 t557 t558 t559 w0 _ ?side1 ?side2 A14.out).mono ?_); (case side1 => exact IsS75.to HI0); (case side2 => exact below_to1 HB (IsS75.ge HI0.out)); rintro e w53 ⟨rfl, hi, hb, hk⟩; replace HO556 := Aside0.mk (Kd.R_mono (Kd.R_keep (IsS75.apart (IsS75.to HI0) (kd_to HO556) (by decide)) hk (fun _ h => h.2)) (fun _ h => h.1)); replace HK := Aside0.mk (KeepBut.trans (keep_to HK) hk (.inl rfl)); replace HB := Aside0.mk (hb); replace HI0 := Aside0.mk (hi); clear hb hk hi))
       repeat (go_quiet (first | (go_at_call 67; (with_reducible refine (spec_l1Cur_pick.calls g s0_0 x1001_1 x1002_1 (x1_1.size : Int) t548 t549 t550 w0 _ ?side1 ?side2 A9.out).mono ?_); (case side1 => exact IsS75.to HI0); (case side2 => exact below_to1 HB (IsS75.ge HI0.out)); rintro e w48 ⟨rfl, hi, hb, hk⟩; replace HK := Aside0.mk (KeepBut.trans (keep_to HK) hk (.inl rfl)); replace HB := Aside0.mk (hb); replace HI0 := Aside0.mk (hi); clear hb hk hi) | (go_at_call 67; (with_reducible refine (spec_l1Cur_pick.calls g s0_0 t549 t550 (a2.size : Int) t551 t552 t553 w0 _ ?side1 ?side2 A10.out).mono ?_); (case side1 => exact IsS75.to HI0); (case side2 => exact below_to1 HB (IsS75.ge HI0.out)); rintro e w49 ⟨rfl, hi, hb, hk⟩; replace HK := Aside0.mk (KeepBut.trans (keep_to HK) hk (.inl rfl)); replace HB := Aside0.mk (hb); replace HI0 := Aside0.mk (hi); clear hb hk hi; have p13 : 0 ≤ (t551 : Int) := of_decide_eq_true (by first | (with_reducible assumption) | assumption); have q13 : t551 < (a2.size : Int) := of_decide_eq_true (by first | (with_reducible assumption) | assumption); have hx13 := bt_at a2 t551; replace p13 := eq_true p13; replace q13 := eq_true q13) | ((with_reducible refine gate_dst (N := 32) rfl ?_); (try (refine gate_guard (by rfl) ?_; dsimp only)); refine Kd.R_lit (Kd.int .u8) _ 5 ?hg (N := 32) ?hd (xs := ([bt a2 t551] : List Int)) (inner := [.int .u8 (bt a2 t551)]) (ok := fun _ => True) (okp := fun _ => True) ?hr ?hp (fun _ hk => hk) trivial (Below.refl _ _) (Nat.le_refl _) (by simp) ?_; (case hd => rfl); (case hg => rfl); (case hr => first | (go_simp; done) | (go_simp; rfl)); (case hp => exact (Reps.one (show Kd.M (Kd.int .u8) _ _ _ (bt a2 t551) [.int .u8 (bt a2 t551)] from rfl) (Reps.none _ _))); intro v555 w50 ho51 hb hg_ hnew_; clear hg_ hnew_; (first | rw [← Ny554.out] at ho51 | (simp only [Int.reduceToNat] at ho51; rw [← Ny554.out] at ho51)); have n0_ := Aside0.mk (Kd.R_lower ho51 (keep_size (w := w) (g := g) (row := none) (keep_to HK))); have n1_ := Aside0.mk (IsS75.below (IsS75.to HI0) hb); have n2_ := Aside0.mk (KeepBut.trans (keep_to HK) (KeepBut.of_below hb g none) (.inl rfl)); have n3_ := Aside0.mk (below_step (below_to1 HB (IsS75.ge HI0.out)) hb); clear HI0; clear HK; clear HB; have HO556 := n0_; have HI0 := n1_; have HK := n2_; have HB := n3_; clear n0_ n1_ n2_ n3_; clear hb ho51; have hcv52 := own_string (P := Tryz.prog) Tryz.underlying45 Tryz.underlying5 Tryz.underlying9 (Kd.own_of_R HO556.out)) | (go_at_call 67; (with_reducible refine (spec_l1Cur_pick.calls g s0_0 t552 t553 3 t557 t558 t559 w0 _ ?side1 ?side2 A14.out).mono ?_); (case side1 => exact IsS75.to HI0); (case side2 => exact below_to1 HB (IsS75.ge HI0.out)); rintro e w53 ⟨rfl, hi, hb, hk⟩; replace HO556 := Aside0.mk (Kd.R_mono (Kd.R_keep (IsS75.apart (IsS75.to HI0) (kd_to HO556) (by decide)) hk (fun _ h => h.2)) (fun _ h => h.1)); replace HK := Aside0.mk (KeepBut.trans (keep_to HK) hk (.inl rfl)); replace HB := Aside0.mk (hb); replace HI0 := Aside0.mk (hi); clear hb hk hi)); try go_wp2_with (first | (go_at_call 67; (with_reducible refine (spec_l1Cur_pick.calls g s0_0 x1001_1 x1002_1 (x1_1.size : Int) t548 t549 t550 w0 _ ?side1 ?side2 A9.out).mono ?_); (case side1 => exact IsS75.to HI0); (case side2 => exact below_to1 HB (IsS75.ge HI0.out)); rintro e w48 ⟨rfl, hi, hb, hk⟩; replace HK := Aside0.mk (KeepBut.trans (keep_to HK) hk (.inl rfl)); replace HB := Aside0.mk (hb); replace HI0 := Aside0.mk (hi); clear hb hk hi) | (go_at_call 67; (with_reducible refine (spec_l1Cur_pick.calls g s0_0 t549 t550 (a2.size : Int) t551 t552 t553 w0 _ ?side1 ?side2 A10.out).mono ?_); (case side1 => exact IsS75.to HI0); (case side2 => exact below_to1 HB (IsS75.ge HI0.out)); rintro e w49 ⟨rfl, hi, hb, hk⟩; replace HK := Aside0.mk (KeepBut.trans (keep_to HK) hk (.inl rfl)); replace HB := Aside0.mk (hb); replace HI0 := Aside0.mk (hi); clear hb hk hi; have p13 : 0 ≤ (t551 : Int) := of_decide_eq_true (by first | (with_reducible assumption) | assumption); have q13 : t551 < (a2.size : Int) := of_decide_eq_true (by first | (with_reducible assumption) | assumption); have hx13 := bt_at a2 t551; replace p13 := eq_true p13; replace q13 := eq_true q13) | ((with_reducible refine gate_dst (N := 32) rfl ?_); (try (refine gate_guard (by rfl) ?_; dsimp only)); refine Kd.R_lit (Kd.int .u8) _ 5 ?hg (N := 32) ?hd (xs := ([bt a2 t551] : List Int)) (inner := [.int .u8 (bt a2 t551)]) (ok := fun _ => True) (okp := fun _ => True) ?hr ?hp (fun _ hk => hk) trivial (Below.refl _ _) (Nat.le_refl _) (by simp) ?_; (case hd => rfl); (case hg => rfl); (case hr => first | (go_simp; done) | (go_simp; rfl)); (case hp => exact (Reps.one (show Kd.M (Kd.int .u8) _ _ _ (bt a2 t551) [.int .u8 (bt a2 t551)] from rfl) (Reps.none _ _))); intro v555 w50 ho51 hb hg_ hnew_; clear hg_ hnew_; (first | rw [← Ny554.out] at ho51 | (simp only [Int.reduceToNat] at ho51; rw [← Ny554.out] at ho51)); have n0_ := Aside0.mk (Kd.R_lower ho51 (keep_size (w := w) (g := g) (row := none) (keep_to HK))); have n1_ := Aside0.mk (IsS75.below (IsS75.to HI0) hb); have n2_ := Aside0.mk (KeepBut.trans (keep_to HK) (KeepBut.of_below hb g none) (.inl rfl)); have n3_ := Aside0.mk (below_step (below_to1 HB (IsS75.ge HI0.out)) hb); clear HI0; clear HK; clear HB; have HO556 := n0_; have HI0 := n1_; have HK := n2_; have HB := n3_; clear n0_ n1_ n2_ n3_; clear hb ho51; have hcv52 := own_string (P := Tryz.prog) Tryz.underlying45 Tryz.underlying5 Tryz.underlying9 (Kd.own_of_R HO556.out)) | (go_at_call 67; (with_reducible refine (spec_l1Cur_pick.calls g s0_0 t552 t553 3 t557 t558 t559 w0 _ ?side1 ?side2 A14.out).mono ?_); (case side1 => exact IsS75.to HI0); (case side2 => exact below_to1 HB (IsS75.ge HI0.out)); rintro e w53 ⟨rfl, hi, hb, hk⟩; replace HO556 := Aside0.mk (Kd.R_mono (Kd.R_keep (IsS75.apart (IsS75.to HI0) (kd_to HO556) (by decide)) hk (fun _ h => h.2)) (fun _ h => h.1)); replace HK := Aside0.mk (KeepBut.trans (keep_to HK) hk (.inl rfl)); replace HB := Aside0.mk (hb); replace HI0 := Aside0.mk (hi); clear hb hk hi)))
       go_roundg kj5
       case measure => have := HK1.out; have := HJ5.out; omega
       case rel => exact ⟨((x1_1.extract 0 (t548 : Int).toNat) ++ (x1_1.extract ((ji44) : Int).toNat x1_1.size)), (wrap64 (x7_1 - 1)), (t558), (t559), (by first | rfl | (simp; done) | (simp only [← hji44] <;> (first | rfl | simp)) | (simp [*]; done)), rt_, H', ⟨by have := HK1.out; have := HJ5.out; omega⟩, ⟨by repeat (first | (with_reducible first | exact HI0.out | apply IsS75.alloc | apply IsS75.drewN | apply IsS75.drew | apply IsS75.set_1 | apply IsS75.set_2) | exact HI0.out)⟩, ⟨keep_to HK⟩, ⟨below_to1 HB (IsS75.ge HI0.out)⟩⟩
      ·rw [if_neg c47] at H
       cases H
     ·rw [if_neg c46] at H
      cases H
    ·rw [if_neg c45] at H
     cases H
   rw [if_pos c28] at H
   have c28b0 := beq_iff_eq.mpr c28
   have c28b1 := bne_eq_false_iff_eq.mpr c28
   clear c28
   by_cases c29 : 0 ≤ t548
   rotate_left
   ·rw [if_neg c29] at H
    cases H
   rw [if_pos c29] at H
   have c29b0 := eq_true c29
   have c29b1 := decide_eq_true c29
   clear c29
   by_cases c30 : t548 ≤ (x1_1.size : Int)
   rotate_left
   ·rw [if_neg c30] at H
    cases H
   rw [if_pos c30] at H
   have c30b0 := eq_true c30
   have c30b1 := decide_eq_true c30
   clear c30
   by_cases c31 : (x1_1.extract 0 (t548 : Int).toNat).size + (strOfNums y554).size ≤ 9223372036854775807
   rotate_left
   ·rw [if_neg c31] at H
    cases H
   rw [if_pos c31] at H
   have c31b0 := eq_true c31
   have c31b1 := decide_eq_true c31
   try have c31b2 : (9223372036854775807 < (x1_1.extract 0 (t548 : Int).toNat).size + (strOfNums y554).size) = False := eq_false (Nat.not_lt.2 c31)
   obtain ⟨ji32, hji32⟩ : ∃ j_ : Int, (wrap64 (t548 + 1)) = j_ := ⟨_, rfl⟩
   replace H : (if 0 ≤ (ji32) then (if (ji32) ≤ (x1_1.size : Int) then (if ((x1_1.extract 0 (t548 : Int).toNat) ++ (strOfNums y554)).size + (x1_1.extract ((ji32) : Int).toNat x1_1.size).size ≤ 9223372036854775807 then (spec_l1Cur_spoilt.l0 kj5 (((x1_1.extract 0 (t548 : Int).toNat) ++ (strOfNums y554)) ++ (x1_1.extract ((ji32) : Int).toNat x1_1.size)) a2 (wrap64 (x7_1 - 1)) s0_0 t558 t559) else (none)) else (none)) else (none)) = some (r1, r2, r3) := by first | (rw [hji32] at H; exact H) | (simp only [hji32] at H ⊢; exact H)
   (try rw [hji32] at A9)
   (try rw [hji32] at A10)
   (try rw [hji32] at A14)
   have hji32w : (IntKind.i64.wrap (t548 + 1)) = ji32 := (i64_w _).trans hji32
   by_cases c33 : 0 ≤ (ji32)
   ·rw [if_pos c33] at H
    have c33b0 := eq_true c33
    have c33b1 := decide_eq_true c33
    clear c33
    by_cases c34 : (ji32) ≤ (x1_1.size : Int)
    ·rw [if_pos c34] at H
     have c34b0 := eq_true c34
     have c34b1 := decide_eq_true c34
     clear c34
     by_cases c35 : ((x1_1.extract 0 (t548 : Int).toNat) ++ (strOfNums y554)).size + (x1_1.extract ((ji32) : Int).toNat x1_1.size).size ≤ 9223372036854775807
     ·rw [if_pos c35] at H
      have c35b0 := eq_true c35
      have c35b1 := decide_eq_true c35
      try have c35b2 : (9223372036854775807 < ((x1_1.extract 0 (t548 : Int).toNat) ++ (strOfNums y554)).size + (x1_1.extract ((ji32) : Int).toNat x1_1.size).size) = False := eq_false (Nat.not_lt.2 c35)
      have c35b8 : (9223372036854775807 < (x1_1.extract 0 (t548 : Int).toNat).size + (strOfNums y554).size + (x1_1.extract ((ji32) : Int).toNat x1_1.size).size) = False := eq_false (by have h_ := c35; simp only [ByteArray.size_append] at h_; omega)
      have c35b9 : decide ((x1_1.extract 0 (t548 : Int).toNat).size + (strOfNums y554).size + (x1_1.extract ((ji32) : Int).toNat x1_1.size).size ≤ 9223372036854775807) = true := decide_eq_true (by have h_ := c35; simp only [ByteArray.size_append] at h_; omega)
      have H' := Aside0.mk H
      clear H
      go_wp2_with (first | (go_at_call 67; (with_reducible refine (spec_l1Cur_pick.calls g s0_0 x1001_1 x1002_1 (x1_1.size : Int) t548 t549 t550 w0 _ ?side1 ?side2 A9.out).mono ?_); (case side1 => exact IsS75.to HI0); (case side2 => exact below_to1 HB (IsS75.ge HI0.out)); rintro e w36 ⟨rfl, hi, hb, hk⟩; replace HK := Aside0.mk (KeepBut.trans (keep_to HK) hk (.inl rfl)); replace HB := Aside0.mk (hb); replace HI0 := Aside0.mk (hi); clear hb hk hi) | (go_at_call 67; (with_reducible refine (spec_l1Cur_pick.calls g s0_0 t549 t550 (a2.size : Int) t551 t552 t553 w0 _ ?side1 ?side2 A10.out).mono ?_); (case side1 => exact IsS75.to HI0); (case side2 => exact below_to1 HB (IsS75.ge HI0.out)); rintro e w37 ⟨rfl, hi, hb, hk⟩; replace HK := Aside0.mk (KeepBut.trans (keep_to HK) hk (.inl rfl)); replace HB := Aside0.mk (hb); replace HI0 := Aside0.mk (hi); clear hb hk hi; have p13 : 0 ≤ (t551 : Int) := of_decide_eq_true (by first | (with_reducible assumption) | assumption); have q13 : t551 < (a2.size : Int) := of_decide_eq_true (by first | (with_reducible assumption) | assumption); have hx13 := bt_at a2 t551; replace p13 := eq_true p13; replace q13 := eq_true q13) | ((with_reducible refine gate_dst (N := 32) rfl ?_); (try (refine gate_guard (by rfl) ?_; dsimp only)); refine Kd.R_lit (Kd.int .u8) _ 5 ?hg (N := 32) ?hd (xs := ([bt a2 t551] : List Int)) (inner := [.int .u8 (bt a2 t551)]) (ok := fun _ => True) (okp := fun _ => True) ?hr ?hp (fun _ hk => hk) trivial (Below.refl _ _) (Nat.le_refl _) (by simp) ?_; (case hd => rfl); (case hg => rfl); (case hr => first | (go_simp; done) | (go_simp; rfl)); (case hp => exact (Reps.one (show Kd.M (Kd.int .u8) _ _ _ (bt a2 t551) [.int .u8 (bt a2 t551)] from rfl) (Reps.none _ _))); intro v555 w38 ho39 hb hg_ hnew_; clear hg_ hnew_; (first | rw [← Ny554.out] at ho39 | (simp only [Int.reduceToNat] at ho39; rw [← Ny554.out] at ho39)); have n0_ := Aside0.mk (Kd.R_lower ho39 (keep_size (w := w) (g := g) (row := none) (keep_to HK))); have n1_ := Aside0.mk (IsS75.below (IsS75.to HI0) hb); have n2_ := Aside0.mk (KeepBut.trans (keep_to HK) (KeepBut.of_below hb g none) (.inl rfl)); have n3_ := Aside0.mk (below_step (below_to1 HB (IsS75.ge HI0.out)) hb); clear HI0; clear HK; clear HB; have HO556 := n0_; have HI0 := n1_; have HK := n2_; have HB := n3_; clear n0_ n1_ n2_ n3_; clear hb ho39; have hcv40 := own_string (P := Tryz.prog) Tryz.underlying45 Tryz.underlying5 Tryz.underlying9 (Kd.own_of_R HO556.out)) | (go_at_call 67; (with_reducible refine (spec_l1Cur_pick.calls g s0_0 t552 t553 3 t557 t558 t559 w0 _ ?side1 ?side2 A14.out).mono ?_); (case side1 => exact IsS75.to HI0); (case side2 => exact below_to1 HB (IsS75.ge HI0.out)); rintro e w41 ⟨rfl, hi, hb, hk⟩; replace HO556 := Aside0.mk (Kd.R_mono (Kd.R_keep (IsS75.apart (IsS75.to HI0) (kd_to HO556) (by decide)) hk (fun _ h => h.2)) (fun _ h => h.1)); replace HK := Aside0.mk (KeepBut.trans (keep_to HK) hk (.inl rfl)); replace HB := Aside0.mk (hb); replace HI0 := Aside0.mk (hi); clear hb hk hi))
      repeat (go_quiet (first | (go_at_call 67; (with_reducible refine (spec_l1Cur_pick.calls g s0_0 x1001_1 x1002_1 (x1_1.size : Int) t548 t549 t550 w0 _ ?side1 ?side2 A9.out).mono ?_); (case side1 => exact IsS75.to HI0); (case side2 => exact below_to1 HB (IsS75.ge HI0.out)); rintro e w36 ⟨rfl, hi, hb, hk⟩; replace HK := Aside0.mk (KeepBut.trans (keep_to HK) hk (.inl rfl)); replace HB := Aside0.mk (hb); replace HI0 := Aside0.mk (hi); clear hb hk hi) | (go_at_call 67; (with_reducible refine (spec_l1Cur_pick.calls g s0_0 t549 t550 (a2.size : Int) t551 t552 t553 w0 _ ?side1 ?side2 A10.out).mono ?_); (case side1 => exact IsS75.to HI0); (case side2 => exact below_to1 HB (IsS75.ge HI0.out)); rintro e w37 ⟨rfl, hi, hb, hk⟩; replace HK := Aside0.mk (KeepBut.trans (keep_to HK) hk (.inl rfl)); replace HB := Aside0.mk (hb); replace HI0 := Aside0.mk (hi); clear hb hk hi; have p13 : 0 ≤ (t551 : Int) := of_decide_eq_true (by first | (with_reducible assumption) | assumption); have q13 : t551 < (a2.size : Int) := of_decide_eq_true (by first | (with_reducible assumption) | assumption); have hx13 := bt_at a2 t551; replace p13 := eq_true p13; replace q13 := eq_true q13) | ((with_reducible refine gate_dst (N := 32) rfl ?_); (try (refine gate_guard (by rfl) ?_; dsimp only)); refine Kd.R_lit (Kd.int .u8) _ 5 ?hg (N := 32) ?hd (xs := ([bt a2 t551] : List Int)) (inner := [.int .u8 (bt a2 t551)]) (ok := fun _ => True) (okp := fun _ => True) ?hr ?hp (fun _ hk => hk) trivial (Below.refl _ _) (Nat.le_refl _) (by simp) ?_; (case hd => rfl); (case hg => rfl); (case hr => first | (go_simp; done) | (go_simp; rfl)); (case hp => exact (Reps.one (show Kd.M (Kd.int .u8) _ _ _ (bt a2 t551) [.int .u8 (bt a2 t551)] from rfl) (Reps.none _ _))); intro v555 w38 ho39 hb hg_ hnew_; clear hg_ hnew_; (first | rw [← Ny554.out] at ho39 | (simp only [Int.reduceToNat] at ho39; rw [← Ny554.out] at ho39)); have n0_ := Aside0.mk (Kd.R_lower ho39 (keep_size (w := w) (g := g) (row := none) (keep_to HK))); have n1_ := Aside0.mk (IsS75.below (IsS75.to HI0) hb); have n2_ := Aside0.mk (KeepBut.trans (keep_to HK) (KeepBut.of_below hb g none) (.inl rfl)); have n3_ := Aside0.mk (below_step (below_to1 HB (IsS75.ge HI0.out)) hb); clear HI0; clear HK; clear HB; have HO556 := n0_; have HI0 := n1_; have HK := n2_; have HB := n3_; clear n0_ n1_ n2_ n3_; clear hb ho39; have hcv40 := own_string (P := Tryz.prog) Tryz.underlying45 Tryz.underlying5 Tryz.underlying9 (Kd.own_of_R HO556.out)) | (go_at_call 67; (with_reducible refine (spec_l1Cur_pick.calls g s0_0 t552 t553 3 t557 t558 t559 w0 _ ?side1 ?side2 A14.out).mono ?_); (case side1 => exact IsS75.to HI0); (case side2 => exact below_to1 HB (IsS75.ge HI0.out)); rintro e w41 ⟨rfl, hi, hb, hk⟩; replace HO556 := Aside0.mk (Kd.R_mono (Kd.R_keep (IsS75.apart (IsS75.to HI0) (kd_to HO556) (by decide)) hk (fun _ h => h.2)) (fun _ h => h.1)); replace HK := Aside0.mk (KeepBut.trans (keep_to HK) hk (.inl rfl)); replace HB := Aside0.mk (hb); replace HI0 := Aside0.mk (hi); clear hb hk hi)); try go_wp2_with (first | (go_at_call 67; (with_reducible refine (spec_l1Cur_pick.calls g s0_0 x1001_1 x1002_1 (x1_1.size : Int) t548 t549 t550 w0 _ ?side1 ?side2 A9.out).mono ?_); (case side1 => exact IsS75.to HI0); (case side2 => exact below_to1 HB (IsS75.ge HI0.out)); rintro e w36 ⟨rfl, hi, hb, hk⟩; replace HK := Aside0.mk (KeepBut.trans (keep_to HK) hk (.inl rfl)); replace HB := Aside0.mk (hb); replace HI0 := Aside0.mk (hi); clear hb hk hi) | (go_at_call 67; (with_reducible refine (spec_l1Cur_pick.calls g s0_0 t549 t550 (a2.size : Int) t551 t552 t553 w0 _ ?side1 ?side2 A10.out).mono ?_); (case side1 => exact IsS75.to HI0); (case side2 => exact below_to1 HB (IsS75.ge HI0.out)); rintro e w37 ⟨rfl, hi, hb, hk⟩; replace HK := Aside0.mk (KeepBut.trans (keep_to HK) hk (.inl rfl)); replace HB := Aside0.mk (hb); replace HI0 := Aside0.mk (hi); clear hb hk hi; have p13 : 0 ≤ (t551 : Int) := of_decide_eq_true (by first | (with_reducible assumption) | assumption); have q13 : t551 < (a2.size : Int) := of_decide_eq_true (by first | (with_reducible assumption) | assumption); have hx13 := bt_at a2 t551; replace p13 := eq_true p13; replace q13 := eq_true q13) | ((with_reducible refine gate_dst (N := 32) rfl ?_); (try (refine gate_guard (by rfl) ?_; dsimp only)); refine Kd.R_lit (Kd.int .u8) _ 5 ?hg (N := 32) ?hd (xs := ([bt a2 t551] : List Int)) (inner := [.int .u8 (bt a2 t551)]) (ok := fun _ => True) (okp := fun _ => True) ?hr ?hp (fun _ hk => hk) trivial (Below.refl _ _) (Nat.le_refl _) (by simp) ?_; (case hd => rfl); (case hg => rfl); (case hr => first | (go_simp; done) | (go_simp; rfl)); (case hp => exact (Reps.one (show Kd.M (Kd.int .u8) _ _ _ (bt a2 t551) [.int .u8 (bt a2 t551)] from rfl) (Reps.none _ _))); intro v555 w38 ho39 hb hg_ hnew_; clear hg_ hnew_; (first | rw [← Ny554.out] at ho39 | (simp only [Int.reduceToNat] at ho39; rw [← Ny554.out] at ho39)); have n0_ := Aside0.mk (Kd.R_lower ho39 (keep_size (w := w) (g := g) (row := none) (keep_to HK))); have n1_ := Aside0.mk (IsS75.below (IsS75.to HI0) hb); have n2_ := Aside0.mk (KeepBut.trans (keep_to HK) (KeepBut.of_below hb g none) (.inl rfl)); have n3_ := Aside0.mk (below_step (below_to1 HB (IsS75.ge HI0.out)) hb); clear HI0; clear HK; clear HB; have HO556 := n0_; have HI0 := n1_; have HK := n2_; have HB := n3_; clear n0_ n1_ n2_ n3_; clear hb ho39; have hcv40 := own_string (P := Tryz.prog) Tryz.underlying45 Tryz.underlying5 Tryz.underlying9 (Kd.own_of_R HO556.out)) | (go_at_call 67; (with_reducible refine (spec_l1Cur_pick.calls g s0_0 t552 t553 3 t557 t558 t559 w0 _ ?side1 ?side2 A14.out).mono ?_); (case side1 => exact IsS75.to HI0); (case side2 => exact below_to1 HB (IsS75.ge HI0.out)); rintro e w41 ⟨rfl, hi, hb, hk⟩; replace HO556 := Aside0.mk (Kd.R_mono (Kd.R_keep (IsS75.apart (IsS75.to HI0) (kd_to HO556) (by decide)) hk (fun _ h => h.2)) (fun _ h => h.1)); replace HK := Aside0.mk (KeepBut.trans (keep_to HK) hk (.inl rfl)); replace HB := Aside0.mk (hb); replace HI0 := Aside0.mk (hi); clear hb hk hi)))
      go_roundg kj5
      case measure => have := HK1.out; have := HJ5.out; omega
      case rel => exact ⟨(((x1_1.extract 0 (t548 : Int).toNat) ++ (strOfNums y554)) ++ (x1_1.extract ((ji32) : Int).toNat x1_1.size)), (wrap64 (x7_1 - 1)), (t558), (t559), (by first | rfl | (simp; done) | (simp only [← hji32] <;> (first | rfl | simp)) | (simp [*]; done)), rt_, H', ⟨by have := HK1.out; have := HJ5.out; omega⟩, ⟨by repeat (first | (with_reducible first | exact HI0.out | apply IsS75.alloc | apply IsS75.drewN | apply IsS75.drew | apply IsS75.set_1 | apply IsS75.set_2) | exact HI0.out)⟩, ⟨keep_to HK⟩, ⟨below_to1 HB (IsS75.ge HI0.out)⟩⟩
     ·rw [if_neg c35] at H
      cases H
    ·rw [if_neg c34] at H
     cases H
   ·rw [if_neg c33] at H
    cases H
end Go.Proofs.YtbhnpccbjgbcbaaGreatDoor.QD
