import Derived.Test.YtbhnpccbjgbcbaaGreatDoorQDx8
namespace Go.Proofs.YtbhnpccbjgbcbaaGreatDoor.QD
open Go.Proofs.YtbhnpccbjgbcbaaGreatDoor.X Go.RowKit Go.Proofs.YtbhnpccbjgbcbaaGreatDoorW.PrintWords Go.Proofs.YtbhnpccbjgbcbaaGreatDoorW.PrintLast Go.Proofs.YtbhnpccbjgbcbaaGreatDoorW.PrintMore
set_option maxHeartbeats 8000000
set_option maxRecDepth 100000
attribute [local go_sem] max2_int min2_int max_two min_two max_three min_three max_four min_four
set_option linter.unusedVariables false
set_option linter.unusedSimpArgs false
def spec_PlaceOnLegs.j0 : Nat → List (S37) → Int → Int → Bool → Option (Int × Int × Bool)
 | 0, _, _, _, _ => none
 | k + 1, x0, x1, x2, x24 => if x24 = true then (some (0, 0, false)) else ((spec_reOn.f k x0 x1 x2).bind fun t308 => (if t308 = (x0.length : Int) then ((spec_reLong.f k x0).bind fun t309 => (some (t309, 1, true))) else (if 0 ≤ t308 then (if t308 ≤ (x0.length : Int) then ((spec_reTime.f k (x0.take (t308 : Int).toNat)).bind fun bt314 => ((spec_meLow.f k (wrap64 ((wrap64 (x1 * bt314.2)) - (wrap64 (bt314.1 * x2)))) (wrap64 (x2 * bt314.2))).bind fun bt316 => ((spec_reLong.f k (x0.take (t308 : Int).toNat)).bind fun t322 => (if t308 < (x0.length : Int) then ((spec_meLow.f k (wrap64 ((wrap64 (t322 * bt316.2)) + (wrap64 (((rd_T37 x0 t308).f1) * bt316.1)))) bt316.2).bind fun bt324 => (some (bt324.1, bt324.2, true))) else (none))))) else (none)) else (none))))
def spec_PlaceOnLegs.f (k : Nat) (l0 : List (S37)) (a1 : Int) (a2 : Int) : Option (Int × Int × Bool) := (spec_reGood.f k l0).bind fun t306 => (if t306 = true then ((spec_reMoment.f a1 a2).bind fun t307 => (spec_PlaceOnLegs.j0 k l0 a1 a2 (!t307))) else (spec_PlaceOnLegs.j0 k l0 a1 a2 true))
def spec_PlaceOnLegs.T8 : Bool × List (List Nat × List Nat) := (true, [([], []), ([], []), ([0, 1], [0, 1]), ([2], [2]), ([], []), ([3, 4], [3, 4]), ([], []), ([], []), ([6, 7], [6, 7]), ([8], [8]), ([9], [9]), ([], []), ([10, 11], [10, 11]), ([5, 12], [5, 12]), ([], []), ([13, 14, 3], [13, 14]), ([15], [15]), ([16], [16]), ([16], [16]), ([17, 15, 0, 1, 2, 3, 4, 5, 6, 7, 8, 9, 10, 11, 12, 13, 14, 15, 16, 17], [17]), ([18, 19, 0, 1, 2, 3, 4, 5, 6, 7, 8, 9, 10, 11, 12, 13, 14, 15, 16, 17, 18, 19], [18])])
def spec_PlaceOnLegs.B8 : List Nat := [0, 0, 3, 7, 0, 31, 0, 0, 192, 448, 960, 0, 4032, 8191, 0, 32767, 65535, 131071, 131071, 262143, 1048575]
theorem spec_PlaceOnLegs.tab8 : rtab .any (opsOf Tryz.f25 8) = spec_PlaceOnLegs.T8 := by kernel_rfl
theorem spec_PlaceOnLegs.bits8 : waitsOk spec_PlaceOnLegs.T8.2 spec_PlaceOnLegs.B8 = true := by kernel_rfl
theorem spec_PlaceOnLegs.calls (k : Nat) (A0 : Option Addr) (c0 : Nat) (l0 : List (S37)) (a1 : Int) (a2 : Int) (r1 : Int) (r2 : Int) (r3 : Bool) (w : World) (hr0 : Kd.C k37 w A0 l0.length l0) (hc0 : l0.length ≤ c0) (h : spec_PlaceOnLegs.f k l0 a1 a2 = some (r1, r2, r3)) :
  Calls Tryz.prog 25 #[.slice A0 l0.length c0, .int .i64 a1, .int .i64 a2] w fun e w' => e = .returned (.tuple #[.int .i64 r1, .int .i64 r2, .bool r3]) ∧ Below w.heap.size w w' := by
 have HR0 := Aside0.mk hr0
 have HC0 := Aside0.mk hc0
 clear hr0 hc0
 have HB := Aside0.mk (Below.refl w.heap.size w)
 have H := h
 unfold spec_PlaceOnLegs.f at H
 clear h
 have HC4 := Aside0.mk H
 clear H
 go_enter Tryz.func25, Tryz.ntmps25
 go_upto_region 1 with (fail)
 go_cut [24] (fun v24 wc => ∃ (kq : Nat) (x24_3 : Bool), v24 = .bool x24_3 ∧ Aside0 (spec_PlaceOnLegs.j0 kq l0 a1 a2 x24_3 = some (r1, r2, r3)) ∧ Aside0 (kq ≤ k) ∧ Aside0 (Below w.heap.size w wc))
 case first =>
  have H := HC4.out
  clear HC4
  replace H := Option.bind_eq_some_iff.mp H
  obtain ⟨t306, A50, H⟩ := H
  (try dsimp only at H)
  have A5 := Aside0.mk A50
  clear A50
  by_cases c6 : t306 = true
  ·subst c6
   rw [if_pos rfl] at H
   replace H := Option.bind_eq_some_iff.mp H
   obtain ⟨t307, A70, H⟩ := H
   (try dsimp only at H)
   have A7 := Aside0.mk A70
   clear A70
   have H' := Aside0.mk H
   clear H
   go_wp2_with (first | ((with_reducible refine gate_callee (f := 38) rfl ?_); refine goesL_ (some 17) rfl rfl Tryz.func38 (by kernel_rfl) rfl #[.slice A0 l0.length c0] rfl am_ ?_; (with_reducible refine (spec_reGood.calls k _ _ l0 true _ ?side1 ?side2 A5.out).mono ?_); (case side1 => exact cb_ HR0 HB); (case side2 => exact HC0.out); rintro e w8 ⟨rfl, hb⟩; refine ⟨_, rfl, ?_⟩; replace HB := Aside0.mk (below_step (below_to HB) hb); clear hb) | (go_at_call 57; (with_reducible refine (spec_reMoment.calls a1 a2 t307 _ A7.out).mono ?_); rintro e w' ⟨rfl, ⟨nd, rfl⟩⟩))
   go_meet
   case rel => exact ⟨_, (!t307), rt_, H', ⟨by first | omega | exact Nat.le_refl _⟩, ⟨below_to HB⟩⟩
  ·replace c6 := Bool.eq_false_iff.mpr c6
   subst c6
   rw [if_neg ft_] at H
   have H' := Aside0.mk H
   clear H
   go_wp2_with (first | ((with_reducible refine gate_callee (f := 38) rfl ?_); refine goesL_ (some 17) rfl rfl Tryz.func38 (by kernel_rfl) rfl #[.slice A0 l0.length c0] rfl am_ ?_; (with_reducible refine (spec_reGood.calls k _ _ l0 false _ ?side1 ?side2 A5.out).mono ?_); (case side1 => exact cb_ HR0 HB); (case side2 => exact HC0.out); rintro e w9 ⟨rfl, hb⟩; refine ⟨_, rfl, ?_⟩; replace HB := Aside0.mk (below_step (below_to HB) hb); clear hb))
   go_meet
   case rel => exact ⟨_, (true), rt_, H', ⟨by first | omega | exact Nat.le_refl _⟩, ⟨below_to HB⟩⟩
 clear HC4
 try clear c2
 try clear p2
 try clear c3
 try clear c6
 obtain ⟨kq, x24_3, rfl, HA, HJ3, HB⟩ := hcut
 cases kq with
 | zero => exact absurd HA.out (by simp [spec_PlaceOnLegs.j0])
 | succ kj3 =>
  have H := HA.out
  clear HA
  simp only [spec_PlaceOnLegs.j0] at H
  by_cases c10 : x24_3 = true
  ·subst c10
   rw [if_pos rfl] at H
   simp only [Option.some.injEq, Prod.mk.injEq] at H
   obtain ⟨rfl, rfl, rfl⟩ := H
   go_wp2
   go_ret3
   exact ⟨rtE_, below_to HB⟩
  replace c10 := Bool.eq_false_iff.mpr c10
  subst c10
  rw [if_neg ft_] at H
  replace H := Option.bind_eq_some_iff.mp H
  obtain ⟨t308, A110, H⟩ := H
  (try dsimp only at H)
  have A11 := Aside0.mk A110
  clear A110
  by_cases c12 : t308 = (l0.length : Int)
  ·rw [if_pos c12] at H
   have c12b0 := beq_iff_eq.mpr c12
   have c12b1 := bne_eq_false_iff_eq.mpr c12
   clear c12
   replace H := Option.bind_eq_some_iff.mp H
   obtain ⟨t309, A130, H⟩ := H
   (try dsimp only at H)
   have A13 := Aside0.mk A130
   clear A130
   simp only [Option.some.injEq, Prod.mk.injEq] at H
   obtain ⟨rfl, rfl, rfl⟩ := H
   go_wp2_with (first | ((with_reducible refine gate_callee (f := 58) rfl ?_); refine goesL_ (some 28) rfl rfl Tryz.func58 (by kernel_rfl) rfl #[.slice A0 l0.length c0, .int .i64 a1, .int .i64 a2] rfl am_ ?_; (with_reducible refine (spec_reOn.calls kj3 _ _ l0 a1 a2 t308 _ ?side1 ?side2 A11.out).mono ?_); (case side1 => exact cb_ HR0 HB); (case side2 => exact HC0.out); rintro e w14 ⟨rfl, hb⟩; refine ⟨_, rfl, ?_⟩; replace HB := Aside0.mk (below_step (below_to HB) hb); clear hb) | ((with_reducible refine gate_callee (f := 41) rfl ?_); refine goesL_ (some 34) rfl rfl Tryz.func41 (by kernel_rfl) rfl #[.slice A0 l0.length c0] rfl am_ ?_; (with_reducible refine (spec_reLong.calls kj3 _ _ l0 t309 _ ?side1 ?side2 A13.out).mono ?_); (case side1 => exact cb_ HR0 HB); (case side2 => exact HC0.out); rintro e w15 ⟨rfl, hb⟩; refine ⟨_, rfl, ?_⟩; replace HB := Aside0.mk (below_step (below_to HB) hb); clear hb))
   go_ret3
   exact ⟨rtE_, below_to HB⟩
  rw [if_neg c12] at H
  have c12b0 := beq_eq_false_iff_ne.mpr c12
  have c12b1 := bne_iff_ne.mpr c12
  by_cases c16 : 0 ≤ t308
  rotate_left
  ·rw [if_neg c16] at H
   cases H
  rw [if_pos c16] at H
  have c16b0 := eq_true c16
  have c16b1 := decide_eq_true c16
  clear c16
  by_cases c17 : t308 ≤ (l0.length : Int)
  rotate_left
  ·rw [if_neg c17] at H
   cases H
  rw [if_pos c17] at H
  have c17b0 := eq_true c17
  have c17b1 := decide_eq_true c17
  clear c17
  obtain ⟨y310, hy310⟩ : ∃ y_ : List (S37), y_ = (l0.take (t308 : Int).toNat) := ⟨_, rfl⟩
  replace H : ((spec_reTime.f kj3 y310).bind fun bt314 => ((spec_meLow.f kj3 (wrap64 ((wrap64 (a1 * bt314.2)) - (wrap64 (bt314.1 * a2)))) (wrap64 (a2 * bt314.2))).bind fun bt316 => ((spec_reLong.f kj3 (l0.take (t308 : Int).toNat)).bind fun t322 => (if t308 < (l0.length : Int) then ((spec_meLow.f kj3 (wrap64 ((wrap64 (t322 * bt316.2)) + (wrap64 (((rd_T37 l0 t308).f1) * bt316.1)))) bt316.2).bind fun bt324 => (some (bt324.1, bt324.2, true))) else (none))))) = some (r1, r2, r3) := by first | (rw [hy310]; with_reducible exact H) | (have H2_ := (Option.bind_some _ _).symm.trans H; rw [hy310]; with_reducible exact H2_) | (have H2_ := (Option.bind_some _ _).symm.trans H; with_reducible exact H2_) | with_reducible exact H | (rw [hy310]; exact H) | exact H
  have Ny310 := Aside0.mk hy310
  clear hy310
  replace H := Option.bind_eq_some_iff.mp H
  obtain ⟨⟨t314, t315⟩, A180, H⟩ := H
  (try dsimp only at H)
  have A18 := Aside0.mk A180
  clear A180
  replace H := Option.bind_eq_some_iff.mp H
  obtain ⟨⟨t316, t317⟩, A190, H⟩ := H
  (try dsimp only at H)
  have A19 := Aside0.mk A190
  clear A190
  have c20b0 := eq_true (of_decide_eq_true (by first | (with_reducible assumption) | assumption) : 0 ≤ t308)
  have c21b0 := eq_true (of_decide_eq_true (by first | (with_reducible assumption) | assumption) : t308 ≤ (l0.length : Int))
  obtain ⟨y318, hy318⟩ : ∃ y_ : List (S37), y_ = (l0.take (t308 : Int).toNat) := ⟨_, rfl⟩
  replace H : ((spec_reLong.f kj3 y318).bind fun t322 => (if t308 < (l0.length : Int) then ((spec_meLow.f kj3 (wrap64 ((wrap64 (t322 * t317)) + (wrap64 (((rd_T37 l0 t308).f1) * t316)))) t317).bind fun bt324 => (some (bt324.1, bt324.2, true))) else (none))) = some (r1, r2, r3) := by first | (rw [hy318]; with_reducible exact H) | (have H2_ := (Option.bind_some _ _).symm.trans H; rw [hy318]; with_reducible exact H2_) | (have H2_ := (Option.bind_some _ _).symm.trans H; with_reducible exact H2_) | with_reducible exact H | (rw [hy318]; exact H) | exact H
  have Ny318 := Aside0.mk hy318
  clear hy318
  replace H := Option.bind_eq_some_iff.mp H
  obtain ⟨t322, A220, H⟩ := H
  (try dsimp only at H)
  have A22 := Aside0.mk A220
  clear A220
  by_cases c23 : t308 < (l0.length : Int)
  rotate_left
  ·rw [if_neg c23] at H
   cases H
  rw [if_pos c23] at H
  have c23b0 := decide_eq_true c23
  clear c23
  replace H := Option.bind_eq_some_iff.mp H
  obtain ⟨⟨t324, t325⟩, A240, H⟩ := H
  (try dsimp only at H)
  have A24 := Aside0.mk A240
  clear A240
  simp only [Option.some.injEq, Prod.mk.injEq] at H
  obtain ⟨rfl, rfl, rfl⟩ := H
  try go_wp2_with (first | ((with_reducible refine gate_callee (f := 58) rfl ?_); refine goesL_ (some 28) rfl rfl Tryz.func58 (by kernel_rfl) rfl #[.slice A0 l0.length c0, .int .i64 a1, .int .i64 a2] rfl am_ ?_; (with_reducible refine (spec_reOn.calls kj3 _ _ l0 a1 a2 t308 _ ?side1 ?side2 A11.out).mono ?_); (case side1 => exact cb_ HR0 HB); (case side2 => exact HC0.out); rintro e w25 ⟨rfl, hb⟩; refine ⟨_, rfl, ?_⟩; replace HB := Aside0.mk (below_step (below_to HB) hb); clear hb; have q26 : (t308 : Int) ≤ ((l0.length : Int) : Int) := of_decide_eq_true (by first | (with_reducible assumption) | assumption); obtain ⟨i026, hi026, _, hsz26, _⟩ := info_parts info37; have hroom26 : l0.length ≤ c0 := HC0.out; have hC26 : Kd.C k37 _ A0 l0.length l0 := HR0.out; have hcut26 := cut_to (P := Tryz.prog) 22 37 .i64 Tryz.underlying22 hi026 A0 l0.length c0 t308 (of_decide_eq_true (by first | (with_reducible assumption) | assumption)) q26 hroom26; have hr26 := Kd.C_take (m := (t308 : Int).toNat) hC26 (by omega); have hy26 : y310.length = (t308 : Int).toNat := (by rw [Ny310.out, List.length_take]; omega); rw [← Ny310.out] at hr26; rw [← hy26] at hcut26; have HR313 := Aside0.mk hr26; have HC313 := Aside0.mk (show y310.length ≤ c0 from by omega); clear hr26 hC26 hroom26 hi026 hsz26; have KY26 := Aside0.mk hy26; clear hy26; replace q26 := eq_true q26) | ((with_reducible refine gate_callee (f := 39) rfl ?_); refine goesL_ (some 39) rfl rfl Tryz.func39 (by kernel_rfl) rfl #[.slice A0 y310.length c0] rfl am_ ?_; (with_reducible refine (spec_reTime.calls kj3 _ _ y310 t314 t315 _ ?side1 ?side2 A18.out).mono ?_); (case side1 => exact cb_ HR313 HB); (case side2 => exact HC313.out); rintro e w27 ⟨rfl, hb⟩; refine ⟨_, rfl, ?_⟩; replace HB := Aside0.mk (below_step (below_to HB) hb); clear hb) | ((with_reducible refine gate_callee (f := 43) rfl ?_); refine goesL_ (some 53) rfl rfl Tryz.func43 (by kernel_rfl) rfl #[.int .i64 (wrap64 ((wrap64 (a1 * t315)) - (wrap64 (t314 * a2)))), .int .i64 (wrap64 (a2 * t315))] rfl am_ ?_; (with_reducible refine (spec_meLow.calls kj3 (wrap64 ((wrap64 (a1 * t315)) - (wrap64 (t314 * a2)))) (wrap64 (a2 * t315)) t316 t317 _ A19.out).mono ?_); rintro e w' ⟨rfl, ⟨nd, rfl⟩⟩; refine ⟨_, rfl, ?_⟩))
  (try (rw [drewN_self w27]; generalize hq_ : World.drewN w27 _ = w27; have n0_ : Aside0 (Below w.heap.size w w27) := ⟨by rw [← hq_]; exact (below_to HB)⟩; clear HB hq_; have HB := n0_; clear n0_))
  have n0_ := Aside0.mk (below_drew1 HB.out)
  clear HB
  have HB := n0_
  clear n0_
  have q29 : (t308 : Int) ≤ ((l0.length : Int) : Int) := odt_
  obtain ⟨i029, hi029, _, hsz29, _⟩ := info_parts info37
  have hroom29 : l0.length ≤ c0 := HC0.out
  have hC29 : Kd.C k37 _ A0 l0.length l0 := HR0.out
  have hcut29 := cut_to (P := Tryz.prog) 22 37 .i64 Tryz.underlying22 hi029 A0 l0.length c0 t308 (of_decide_eq_true (by first | (with_reducible assumption) | assumption)) q29 hroom29
  have hr29 := Kd.C_take (m := (t308 : Int).toNat) hC29 (by omega)
  have hy29 : y318.length = (t308 : Int).toNat := (by rw [Ny318.out, List.length_take]; omega)
  rw [← Ny318.out] at hr29
  rw [← hy29] at hcut29
  have HR321 := Aside0.mk hr29
  have HC321 := Aside0.mk (show y318.length ≤ c0 from by omega)
  clear hr29 hC29 hroom29 hi029 hsz29
  have KY29 := Aside0.mk hy29
  clear hy29
  replace q29 := eq_true q29
  have p323 : 0 ≤ (t308 : Int) := odt_
  have q323 : t308 < (l0.length : Int) := odt_
  obtain ⟨ad323, e323, hx323_0, hx323_1⟩ := at_T37 HR0.out t308 p323 q323
  have hw323_1 := hx323_1
  have hw323_0 := hx323_0
  cases e323
  replace hx323_0 := bx_ HB hx323_0
  replace hx323_1 := bx_ HB hx323_1
  replace p323 := eq_true p323
  replace q323 := eq_true q323
  refine start_ (n := 21) (S := fun w' => w'.cell? (ad323.add ((t308).toNat * 2)) = some (.int .i64 ((rd_T37 l0 t308).f0)) ∧ w'.cell? ⟨(ad323.add ((t308).toNat * 2)).block, (ad323.add ((t308).toNat * 2)).off + 1, none⟩ = some (.int .i64 ((rd_T37 l0 t308).f1))) (ds := []) (fr_ [0, 21]) (by kernel_rfl) rfl rfl ⟨((HB.out.cell (World.block_lt_of_cell? w _ hw323_0)).trans hw323_0), ((HB.out.cell (World.block_lt_of_cell? w _ hw323_1)).trans hw323_1)⟩ (fun hHeld => ?_); refine with_tabW spec_PlaceOnLegs.tab8 spec_PlaceOnLegs.bits8 (fun HT_ HW_ => ?_)
  generalize w27.drew = w28 at HB HR321 hx323_0 hx323_1 hHeld ⊢
  refine purS_ (i := 0) (N := some 57) (fl_ 21 1) HT_.out ?_
  refine purS_ (i := 1) (N := some 58) (fl_ 21 2) HT_.out ?_
  refine purS_ (i := 2) (N := some 59) (fl_ 21 3) HT_.out ?_
  refine purS_ (i := 4) (N := some 61) (fr_ [3, 1, 1, 16]) HT_.out ?_
  refine purS_ (i := 6) (N := some 63) (fr_ [3, 1, 1, 1, 1, 14]) HT_.out ?_
  refine purS_ (i := 7) (N := some 64) (fr_ [3, 1, 1, 1, 2, 13]) HT_.out ?_
  refine purS_ (i := 8) (N := some 65) (fr_ [3, 1, 1, 1, 3, 12]) HT_.out ?_
  refine purS_ (i := 9) (N := some 66) (fr_ [3, 1, 1, 1, 4, 11]) HT_.out ?_
  refine purS_ (i := 11) (N := some 68) (fr_ [3, 1, 1, 1, 4, 1, 1, 9]) HT_.out ?_
  refine purS_ (i := 14) (N := some 71) (fr_ [3, 1, 1, 1, 4, 1, 1, 2, 1, 6]) HT_.out ?_
  refine take_ (i := 10) (N := some 67) (v := ?_) (a' := ?_) (fr_ [3, 1, 1, 1, 6, 2, 1, 6]) rfl rfl (take_ofW HT_.out HW_.out (by kernel_rfl)) (fun _ _ _ h => h) (Or.inl ⟨by rfl, ?_⟩) hHeld ?_ ?_
  rotate_left
  ·rintro w' ⟨s0, s1⟩
   go_simp
   with_reducible rfl
  rotate_left
  ·simp only [Act.put, List.setIfInBounds_toArray, List.set_cons_zero, List.set_cons_succ, i64_w, i32_w]
   rfl
  refine purS_ (i := 12) (N := some 69) (fr_ [3, 1, 1, 1, 7, 1, 1, 6]) HT_.out ?_
  refine one_ (i := 3) (N := some 60) (fr_ [5, 1, 7, 1, 1, 6]) rfl rfl (one_of HT_.out (by kernel_rfl)) (by decide) (fun K hK => ?_)
  refine goes_ Tryz.func41 (by kernel_rfl) rfl #[.slice (some ad323) y318.length c0] (by rfl) rfl rfl (by (try rw [show y318.length = y310.length from by rw [Ny318.out, Ny310.out]]); (try simp only [List.map_toArray, List.map_cons, List.map_nil]); first | done | rfl | (simp only [List.length_drop, List.length_take]; rfl)) ?_
  with_reducible refine (spec_reLong.calls kj3 _ _ y318 t322 _ ?side1 ?side2 A22.out).mono ?_
  (case side1 => exact cb_ HR321 HB)
  (case side2 => exact HC321.out)
  rintro e w30 ⟨rfl, hb⟩
  refine ⟨_, rfl, ?_⟩
  have n0_ := Aside0.mk (below_step (below_to HB) hb)
  clear HB
  have HB := n0_
  clear n0_
  (try clear hb)
  (try clear hb2)
  (try clear hk)
  (try clear hi)
  refine hK.out _ _ ⟨((HB.out.cell (World.block_lt_of_cell? w _ hw323_0)).trans hw323_0), ((HB.out.cell (World.block_lt_of_cell? w _ hw323_1)).trans hw323_1)⟩ (fun hHeld => ?_)
  clear hK K
  refine norm_ (a' := ?_) ?_ ?_
  rotate_left
  ·show Act.put _ (some 60) _ = _
   simp only [Act.put, List.setIfInBounds_toArray, List.set_cons_zero, List.set_cons_succ, i64_w, i32_w]
   rfl
  refine purS_ (i := 5) (N := some 62) (fr_ [13, 1, 1, 6]) HT_.out ?_
  refine purS_ (i := 13) (N := some 70) (fl_ 21 15) HT_.out ?_
  refine one_ (i := 15) (N := some 72) (fr_ [16, 5]) rfl rfl (one_of HT_.out (by kernel_rfl)) (by decide) (fun K hK => ?_)
  refine goes_ Tryz.func43 (by kernel_rfl) rfl #[.int .i64 (wrap64 ((wrap64 (t322 * t317)) + (wrap64 (((rd_T37 l0 t308).f1) * t316)))), .int .i64 t317] (by rfl) rfl rfl am_ ?_
  with_reducible refine (spec_meLow.calls kj3 (wrap64 ((wrap64 (t322 * t317)) + (wrap64 (((rd_T37 l0 t308).f1) * t316)))) t317 t324 t325 _ A24.out).mono ?_
  rintro e w' ⟨rfl, ⟨nd, rfl⟩⟩
  refine ⟨_, rfl, ?_⟩
  refine hK.out _ _ ⟨((HB.out.cell (World.block_lt_of_cell? w _ hw323_0)).trans hw323_0), ((HB.out.cell (World.block_lt_of_cell? w _ hw323_1)).trans hw323_1)⟩ (fun hHeld => ?_)
  clear hK K
  refine norm_ (a' := ?_) ?_ ?_
  rotate_left
  ·show Act.put _ (some 72) _ = _
   simp only [Act.put, List.setIfInBounds_toArray, List.set_cons_zero, List.set_cons_succ, i64_w, i32_w]
   rfl
  refine purS_ (i := 16) (N := some 56) (fl_ 21 17) HT_.out ?_
  refine purS_ (i := 17) (N := some 73) (fl_ 21 18) HT_.out ?_
  refine purS_ (i := 18) (N := some 74) (fl_ 21 19) HT_.out ?_
  refine purS_ (i := 19) (N := some 14) (fl_ 21 20) HT_.out ?_
  refine purS_ (i := 20) (N := some 15) (fl_ 21 21) HT_.out ?_
  refine done_ (done_of HT_.out (by kernel_rfl)) ?_
  try go_wp2
  go_ret3
  exact ⟨rtE_, below_to HB⟩
def spec_l1Least.f (a0 : Int) (a1 : Int) : Option (Int) := if a0 < a1 then (some a0) else (some a1)
theorem spec_l1Least.calls (a0 : Int) (a1 : Int) (r : Int) (w : World) (h : spec_l1Least.f a0 a1 = some r) :
  Calls Tryz.prog 59 #[.int .i64 a0, .int .i64 a1] w fun e w' => e = .returned (.int .i64 r) ∧ Drawn0 w w' := by
 have H : (if a0 < a1 then (some a0) else (some a1)) = some r := h
 clear h
 by_cases c3 : a0 < a1
 ·rw [if_pos c3] at H
  have c3b0 := decide_eq_true c3
  clear c3
  obtain rfl := Option.some.inj H
  go_enter Tryz.func59, Tryz.ntmps59
  go_wp2
  go_ret
  exact ⟨rt_, d0_⟩
 ·rw [if_neg c3] at H
  have c3b0 := decide_eq_false c3
  clear c3
  obtain rfl := Option.some.inj H
  go_enter Tryz.func59, Tryz.ntmps59
  go_wp2
  go_ret
  exact ⟨rt_, d0_⟩
def spec_LegAt.j0 : Nat → List (S37) → Int → Int → Bool → Option (Int × Bool)
 | 0, _, _, _, _ => none
 | k + 1, x0, x1, x2, x16 => if x16 = true then (some (0, false)) else ((spec_reOn.f k x0 x1 x2).bind fun t328 => ((spec_l1Least.f t328 (wrap64 ((x0.length : Int) - 1))).bind fun t329 => (some (t329, true))))
def spec_LegAt.f (k : Nat) (l0 : List (S37)) (a1 : Int) (a2 : Int) : Option (Int × Bool) := (spec_reGood.f k l0).bind fun t326 => (if t326 = true then ((spec_reMoment.f a1 a2).bind fun t327 => (spec_LegAt.j0 k l0 a1 a2 (!t327))) else (spec_LegAt.j0 k l0 a1 a2 true))
theorem spec_LegAt.calls (k : Nat) (A0 : Option Addr) (c0 : Nat) (l0 : List (S37)) (a1 : Int) (a2 : Int) (r1 : Int) (r2 : Bool) (w : World) (hr0 : Kd.C k37 w A0 l0.length l0) (hc0 : l0.length ≤ c0) (h : spec_LegAt.f k l0 a1 a2 = some (r1, r2)) :
  Calls Tryz.prog 26 #[.slice A0 l0.length c0, .int .i64 a1, .int .i64 a2] w fun e w' => e = .returned (.tuple #[.int .i64 r1, .bool r2]) ∧ Below w.heap.size w w' := by
 have HR0 := Aside0.mk hr0
 have HC0 := Aside0.mk hc0
 clear hr0 hc0
 have HB := Aside0.mk (Below.refl w.heap.size w)
 have H := h
 unfold spec_LegAt.f at H
 clear h
 have HC4 := Aside0.mk H
 clear H
 go_enter Tryz.func26, Tryz.ntmps26
 go_upto_region 1 with (fail)
 go_cut [16] (fun v16 wc => ∃ (kq : Nat) (x16_3 : Bool), v16 = .bool x16_3 ∧ Aside0 (spec_LegAt.j0 kq l0 a1 a2 x16_3 = some (r1, r2)) ∧ Aside0 (kq ≤ k) ∧ Aside0 (Below w.heap.size w wc))
 case first =>
  have H := HC4.out
  clear HC4
  replace H := Option.bind_eq_some_iff.mp H
  obtain ⟨t326, A50, H⟩ := H
  (try dsimp only at H)
  have A5 := Aside0.mk A50
  clear A50
  by_cases c6 : t326 = true
  ·subst c6
   rw [if_pos rfl] at H
   replace H := Option.bind_eq_some_iff.mp H
   obtain ⟨t327, A70, H⟩ := H
   (try dsimp only at H)
   have A7 := Aside0.mk A70
   clear A70
   have H' := Aside0.mk H
   clear H
   go_wp2_with (first | ((with_reducible refine gate_callee (f := 38) rfl ?_); refine goesL_ (some 9) rfl rfl Tryz.func38 (by kernel_rfl) rfl #[.slice A0 l0.length c0] rfl am_ ?_; (with_reducible refine (spec_reGood.calls k _ _ l0 true _ ?side1 ?side2 A5.out).mono ?_); (case side1 => exact cb_ HR0 HB); (case side2 => exact HC0.out); rintro e w8 ⟨rfl, hb⟩; refine ⟨_, rfl, ?_⟩; replace HB := Aside0.mk (below_step (below_to HB) hb); clear hb) | (go_at_call 57; (with_reducible refine (spec_reMoment.calls a1 a2 t327 _ A7.out).mono ?_); rintro e w' ⟨rfl, ⟨nd, rfl⟩⟩))
   go_meet
   case rel => exact ⟨_, (!t327), rt_, H', ⟨by first | omega | exact Nat.le_refl _⟩, ⟨below_to HB⟩⟩
  ·replace c6 := Bool.eq_false_iff.mpr c6
   subst c6
   rw [if_neg ft_] at H
   have H' := Aside0.mk H
   clear H
   go_wp2_with (first | ((with_reducible refine gate_callee (f := 38) rfl ?_); refine goesL_ (some 9) rfl rfl Tryz.func38 (by kernel_rfl) rfl #[.slice A0 l0.length c0] rfl am_ ?_; (with_reducible refine (spec_reGood.calls k _ _ l0 false _ ?side1 ?side2 A5.out).mono ?_); (case side1 => exact cb_ HR0 HB); (case side2 => exact HC0.out); rintro e w9 ⟨rfl, hb⟩; refine ⟨_, rfl, ?_⟩; replace HB := Aside0.mk (below_step (below_to HB) hb); clear hb))
   go_meet
   case rel => exact ⟨_, (true), rt_, H', ⟨by first | omega | exact Nat.le_refl _⟩, ⟨below_to HB⟩⟩
 clear HC4
 try clear c2
 try clear p2
 try clear c3
 try clear c6
 obtain ⟨kq, x16_3, rfl, HA, HJ3, HB⟩ := hcut
 cases kq with
 | zero => exact absurd HA.out (by simp [spec_LegAt.j0])
 | succ kj3 =>
  have H := HA.out
  clear HA
  simp only [spec_LegAt.j0] at H
  by_cases c10 : x16_3 = true
  ·subst c10
   rw [if_pos rfl] at H
   simp only [Option.some.injEq, Prod.mk.injEq] at H
   obtain ⟨rfl, rfl⟩ := H
   go_wp2
   go_ret2
   exact ⟨rtE_, below_to HB⟩
  ·replace c10 := Bool.eq_false_iff.mpr c10
   subst c10
   rw [if_neg ft_] at H
   replace H := Option.bind_eq_some_iff.mp H
   obtain ⟨t328, A110, H⟩ := H
   (try dsimp only at H)
   have A11 := Aside0.mk A110
   clear A110
   replace H := Option.bind_eq_some_iff.mp H
   obtain ⟨t329, A120, H⟩ := H
   (try dsimp only at H)
   have A12 := Aside0.mk A120
   clear A120
   simp only [Option.some.injEq, Prod.mk.injEq] at H
   obtain ⟨rfl, rfl⟩ := H
   go_wp2_with (first | ((with_reducible refine gate_callee (f := 58) rfl ?_); refine goesL_ (some 20) rfl rfl Tryz.func58 (by kernel_rfl) rfl #[.slice A0 l0.length c0, .int .i64 a1, .int .i64 a2] rfl am_ ?_; (with_reducible refine (spec_reOn.calls kj3 _ _ l0 a1 a2 t328 _ ?side1 ?side2 A11.out).mono ?_); (case side1 => exact cb_ HR0 HB); (case side2 => exact HC0.out); rintro e w13 ⟨rfl, hb⟩; refine ⟨_, rfl, ?_⟩; replace HB := Aside0.mk (below_step (below_to HB) hb); clear hb) | ((with_reducible refine gate_callee (f := 59) rfl ?_); refine goesL_ (some 24) rfl rfl Tryz.func59 (by kernel_rfl) rfl #[.int .i64 t328, .int .i64 (wrap64 ((l0.length : Int) - 1))] rfl am_ ?_; (with_reducible refine (spec_l1Least.calls t328 (wrap64 ((l0.length : Int) - 1)) t329 _ A12.out).mono ?_); rintro e w' ⟨rfl, ⟨nd, rfl⟩⟩; refine ⟨_, rfl, ?_⟩))
   go_ret2
   exact ⟨rtE_, below_to HB⟩
def impl_allWithin.l0 : Nat → Int → Int → List Int → Int → Int → Option (Bool)
 | 0, _, _, _, _, _ => none
 | k + 1, x1, x2, x9, x10, x11 => if x11 < x10 then (if 0 ≤ x11 then (if x11 < (x9.length : Int) then ((impl_within.f (rd x9 x11) x1 x2).bind fun t331 => (if t331 = true then (impl_allWithin.l0 k x1 x2 x9 x10 (wrap64 (x11 + 1))) else (some false))) else (none)) else (none)) else (some true)
def impl_allWithin.f (k : Nat) (l0 : List Int) (a1 : Int) (a2 : Int) : Option (Bool) := impl_allWithin.l0 k a1 a2 l0 (l0.length : Int) 0
theorem impl_allWithin.calls (k : Nat) (A0 : Option Addr) (c0 : Nat) (l0 : List Int) (a1 : Int) (a2 : Int) (r : Bool) (w : World) (hr0 : Kd.C (Kd.int .i64) w A0 l0.length l0) (hc0 : l0.length ≤ c0) (h : impl_allWithin.f k l0 a1 a2 = some r) :
  Calls Tryz.prog 82 #[.slice A0 l0.length c0, .int .i64 a1, .int .i64 a2] w fun e w' => e = .returned (.bool r) ∧ Drawn0 w w' := by
 have HR0 := Aside0.mk hr0
 have HC0 := Aside0.mk hc0
 clear hr0 hc0
 have H : (impl_allWithin.l0 k a1 a2 l0 (l0.length : Int) 0) = some r := h
 clear h
 have H' := Aside0.mk H
 clear H
 go_enter Tryz.func82, Tryz.ntmps82
 go_wp2
 go_loopg [11] k (fun kq v11 w' => ∃ (x11_1 : Int), v11 = .int .i64 x11_1 ∧ Aside0 (impl_allWithin.l0 kq a1 a2 l0 (l0.length : Int) x11_1 = some r) ∧ Aside0 (kq ≤ k) ∧ Drawn0 w w')
 case atStart => exact ⟨(0), rt_, H', ⟨Nat.le_refl _⟩, d0_⟩
 clear H'
 try clear p2
 obtain ⟨x11_1, rfl, HA, HK1, ⟨m1, rfl⟩⟩ := hrel
 cases gk with
 | zero => exact absurd HA.out (by simp [impl_allWithin.l0])
 | succ k1 =>
  have H := HA.out
  clear HA
  simp only [impl_allWithin.l0] at H
  by_cases c4 : x11_1 < (l0.length : Int)
  rotate_left
  ·rw [if_neg c4] at H
   have c4b0 := decide_eq_false c4
   clear c4
   obtain rfl := Option.some.inj H
   go_wp2
   go_ret
   exact ⟨rt_, d0_⟩
  rw [if_pos c4] at H
  have c4b0 := decide_eq_true c4
  clear c4
  by_cases c5 : 0 ≤ x11_1
  rotate_left
  ·rw [if_neg c5] at H
   cases H
  rw [if_pos c5] at H
  have c5b0 := decide_eq_true c5
  clear c5
  by_cases c6 : x11_1 < (l0.length : Int)
  rotate_left
  ·rw [if_neg c6] at H
   cases H
  rw [if_pos c6] at H
  have c6b0 := decide_eq_true c6
  clear c6
  replace H := Option.bind_eq_some_iff.mp H
  obtain ⟨t331, A70, H⟩ := H
  (try dsimp only at H)
  have A7 := Aside0.mk A70
  clear A70
  by_cases c8 : t331 = true
  ·subst c8
   rw [if_pos rfl] at H
   have H' := Aside0.mk H
   clear H
   have p330 : 0 ≤ (x11_1 : Int) := odt_
   have q330 : x11_1 < (l0.length : Int) := odt_
   obtain ⟨ad330, e330, hx330_0⟩ := Kd.at_int HR0.out x11_1 p330 q330
   cases e330
   replace p330 := eq_true p330
   replace q330 := eq_true q330
   go_wp2_with (first | ((with_reducible refine gate_callee (f := 48) rfl ?_); refine goesL_ (some 18) rfl rfl Tryz.func48 (by kernel_rfl) rfl #[.int .i64 (rd l0 x11_1), .int .i64 a1, .int .i64 a2] rfl am_ ?_; (with_reducible refine (impl_within.calls (rd l0 x11_1) a1 a2 true _ A7.out).mono ?_); rintro e w' ⟨rfl, ⟨nd, rfl⟩⟩; refine ⟨_, rfl, ?_⟩))
   go_roundg k1
   case measure => have := HK1.out; omega
   case rel => exact ⟨(wrap64 (x11_1 + 1)), rt_, H', ⟨by have := HK1.out; omega⟩, d0_⟩
  ·replace c8 := Bool.eq_false_iff.mpr c8
   subst c8
   rw [if_neg ft_] at H
   obtain rfl := Option.some.inj H
   have p330 : 0 ≤ (x11_1 : Int) := odt_
   have q330 : x11_1 < (l0.length : Int) := odt_
   obtain ⟨ad330, e330, hx330_0⟩ := Kd.at_int HR0.out x11_1 p330 q330
   cases e330
   replace p330 := eq_true p330
   replace q330 := eq_true q330
   go_wp2_with (first | ((with_reducible refine gate_callee (f := 48) rfl ?_); refine goesL_ (some 18) rfl rfl Tryz.func48 (by kernel_rfl) rfl #[.int .i64 (rd l0 x11_1), .int .i64 a1, .int .i64 a2] rfl am_ ?_; (with_reducible refine (impl_within.calls (rd l0 x11_1) a1 a2 false _ A7.out).mono ?_); rintro e w' ⟨rfl, ⟨nd, rfl⟩⟩; refine ⟨_, rfl, ?_⟩))
   go_ret
   exact ⟨rt_, d0_⟩
def impl_areSpeeds.f (k : Nat) (l0 : List Int) : Option (Bool) := (impl_within.f (l0.length : Int) 1 5).bind fun t332 => (if t332 = true then ((impl_allWithin.f k l0 1 100).bind fun t333 => (some t333)) else (some false))
theorem impl_areSpeeds.calls (k : Nat) (A0 : Option Addr) (c0 : Nat) (l0 : List Int) (r : Bool) (w : World) (hr0 : Kd.C (Kd.int .i64) w A0 l0.length l0) (hc0 : l0.length ≤ c0) (h : impl_areSpeeds.f k l0 = some r) :
  Calls Tryz.prog 60 #[.slice A0 l0.length c0] w fun e w' => e = .returned (.bool r) ∧ Drawn0 w w' := by
 have HR0 := Aside0.mk hr0
 have HC0 := Aside0.mk hc0
 clear hr0 hc0
 have H := h
 unfold impl_areSpeeds.f at H
 clear h
 replace H := Option.bind_eq_some_iff.mp H
 obtain ⟨t332, A20, H⟩ := H
 (try dsimp only at H)
 have A2 := Aside0.mk A20
 clear A20
 by_cases c3 : t332 = true
 ·subst c3
  rw [if_pos rfl] at H
  replace H := Option.bind_eq_some_iff.mp H
  obtain ⟨t333, A40, H⟩ := H
  replace H : (some t333) = some r := H
  have A4 := Aside0.mk A40
  clear A40
  obtain rfl := Option.some.inj H
  go_enter Tryz.func60, Tryz.ntmps60
  go_wp2_with (first | ((with_reducible refine gate_callee (f := 48) rfl ?_); refine goesL_ (some 5) rfl rfl Tryz.func48 (by kernel_rfl) rfl #[.int .i64 (l0.length : Int), .int .i64 1, .int .i64 5] rfl am_ ?_; (with_reducible refine (impl_within.calls (l0.length : Int) 1 5 true _ A2.out).mono ?_); rintro e w' ⟨rfl, ⟨nd, rfl⟩⟩; refine ⟨_, rfl, ?_⟩) | (go_at_call 82; (with_reducible refine (impl_allWithin.calls k _ _ l0 1 100 t333 _ ?side1 ?side2 A4.out).mono ?_); (case side1 => exact c_to HR0); (case side2 => exact HC0.out); rintro e w' ⟨rfl, ⟨nd, rfl⟩⟩))
  go_ret
  exact ⟨rt_, d0_⟩
 ·replace c3 := Bool.eq_false_iff.mpr c3
  subst c3
  rw [if_neg ft_] at H
  obtain rfl := Option.some.inj H
  go_enter Tryz.func60, Tryz.ntmps60
  go_wp2_with (first | ((with_reducible refine gate_callee (f := 48) rfl ?_); refine goesL_ (some 5) rfl rfl Tryz.func48 (by kernel_rfl) rfl #[.int .i64 (l0.length : Int), .int .i64 1, .int .i64 5] rfl am_ ?_; (with_reducible refine (impl_within.calls (l0.length : Int) 1 5 false _ A2.out).mono ?_); rintro e w' ⟨rfl, ⟨nd, rfl⟩⟩; refine ⟨_, rfl, ?_⟩))
  go_ret
  exact ⟨rt_, d0_⟩
end Go.Proofs.YtbhnpccbjgbcbaaGreatDoor.QD
