import Derived.Test.YtbhnpccbjgbcbaaGreatDoorQDx4
import Derived.Test.YtbhnpccbjgbcbaaGreatDoorXParse
namespace Go.Proofs.YtbhnpccbjgbcbaaGreatDoor.QD
open Go.Proofs.YtbhnpccbjgbcbaaGreatDoor.X Go.RowKit Go.Proofs.YtbhnpccbjgbcbaaGreatDoorW.PrintWords Go.Proofs.YtbhnpccbjgbcbaaGreatDoorW.PrintLast Go.Proofs.YtbhnpccbjgbcbaaGreatDoorW.PrintMore
set_option maxHeartbeats 8000000
set_option maxRecDepth 100000
attribute [local go_sem] max2_int min2_int max_two min_two max_three min_three max_four min_four
set_option linter.unusedVariables false
set_option linter.unusedSimpArgs false
def spec_AreLegs.f (k : Nat) (l0 : List (S37)) : Option (Bool) := (spec_reGood.f k l0).bind fun t237 => (some t237)
theorem spec_AreLegs.calls (k : Nat) (A0 : Option Addr) (c0 : Nat) (l0 : List (S37)) (r : Bool) (w : World) (hr0 : Kd.C k37 w A0 l0.length l0) (hc0 : l0.length ≤ c0) (h : spec_AreLegs.f k l0 = some r) :
  Calls Tryz.prog 19 #[.slice A0 l0.length c0] w fun e w' => e = .returned (.bool r) ∧ Below w.heap.size w w' := by
 have HR0 := Aside0.mk hr0
 have HC0 := Aside0.mk hc0
 clear hr0 hc0
 have HB := Aside0.mk (Below.refl w.heap.size w)
 have H : ((spec_reGood.f k l0).bind fun t237 => (some t237)) = some r := h
 clear h
 replace H := Option.bind_eq_some_iff.mp H
 obtain ⟨t237, A20, H⟩ := H
 replace H : (some t237) = some r := H
 have A2 := Aside0.mk A20
 clear A20
 obtain rfl := Option.some.inj H
 go_enter Tryz.func19, Tryz.ntmps19
 go_wp2_with (first | ((with_reducible refine gate_callee (f := 38) rfl ?_); refine goesL_ (some 4) rfl rfl Tryz.func38 (by kernel_rfl) rfl #[.slice A0 l0.length c0] rfl am_ ?_; (with_reducible refine (spec_reGood.calls k _ _ l0 t237 _ ?side1 ?side2 A2.out).mono ?_); (case side1 => exact c_to HR0); (case side2 => exact HC0.out); rintro e w3 ⟨rfl, hb⟩; refine ⟨_, rfl, ?_⟩; replace HB := Aside0.mk (below_step (below_to HB) hb); clear hb))
 go_ret
 exact ⟨rtE_, below_to HB⟩
mutual
def laws_yLow.j0 : Nat → Int → Int → Option (Bool)
 | 0, _, _ => none
 | k + 1, x5, x6 => laws_yLow.l0 k x5 x6
def laws_yLow.l0 : Nat → Int → Int → Option (Bool)
 | 0, _, _ => none
 | k + 1, x5, x6 => if x6 > 0 then (if x6 = 0 then (none) else (laws_yLow.l0 k x6 (Int.tmod x5 x6))) else (some (x5 == 1))
end
def laws_yLow.f (k : Nat) (a0 : Int) (a1 : Int) : Option (Bool) := if a1 < 1 then (some false) else (if a0 < 0 then (laws_yLow.j0 k (wrap64 (-a0)) a1) else (laws_yLow.j0 k a0 a1))
theorem laws_yLow.calls (k : Nat) (a0 : Int) (a1 : Int) (r : Bool) (w : World) (h : laws_yLow.f k a0 a1 = some r) :
  Calls Tryz.prog 20 #[.int .i64 a0, .int .i64 a1] w fun e w' => e = .returned (.bool r) ∧ Drawn0 w w' := by
 have H := h
 unfold laws_yLow.f at H
 clear h
 by_cases c3 : a1 < 1
 ·rw [if_pos c3] at H
  have c3b0 := decide_eq_true c3
  clear c3
  obtain rfl := Option.some.inj H
  go_enter Tryz.func20, Tryz.ntmps20
  go_wp2
  repeat (go_quiet (fail); try go_wp2)
  go_ret
  exact ⟨rt_, d0_⟩
 rw [if_neg c3] at H
 have c3b0 := decide_eq_false c3
 clear c3
 have HC4 := Aside0.mk H
 clear H
 go_enter Tryz.func20, Tryz.ntmps20
 go_upto_if 12 with (fail)
 repeat (go_quiet (fail); go_upto_if 12 with (fail))
 go_cut [5] (fun v5 wc => ∃ (kq : Nat) (x5_3 : Int), v5 = .int .i64 x5_3 ∧ Aside0 (laws_yLow.j0 kq x5_3 a1 = some r) ∧ Aside0 (kq ≤ k) ∧ Drawn0 w wc)
 case first =>
  have H := HC4.out
  clear HC4
  by_cases c5 : a0 < 0
  ·rw [if_pos c5] at H
   have c5b0 := decide_eq_true c5
   clear c5
   (first | rw [c5b0] | (simp only [i64_w, i32_w]; rw [c5b0]) | skip)
   have H' := Aside0.mk H
   clear H
   go_wp2
   repeat (go_quiet (fail); try go_wp2)
   go_meet
   case rel => exact ⟨_, (wrap64 (-a0)), rt_, H', ⟨by first | omega | exact Nat.le_refl _⟩, d0_⟩
  ·rw [if_neg c5] at H
   have c5b0 := decide_eq_false c5
   clear c5
   (first | rw [c5b0] | (simp only [i64_w, i32_w]; rw [c5b0]) | skip)
   have H' := Aside0.mk H
   clear H
   go_wp2
   repeat (go_quiet (fail); try go_wp2)
   go_meet
   case rel => exact ⟨_, (a0), rt_, H', ⟨by first | omega | exact Nat.le_refl _⟩, d0_⟩
 clear HC4
 try clear c2
 try clear p2
 try clear c3
 try clear c3b0
 try clear c5
 try clear c5b0
 obtain ⟨kq, x5_3, rfl, HA, HJ3, ⟨mc3, rfl⟩⟩ := hcut
 cases kq with
 | zero => exact absurd HA.out (by simp [laws_yLow.j0])
 | succ kj3 =>
  have H := HA.out
  clear HA
  simp only [laws_yLow.j0] at H
  have H' := Aside0.mk H
  clear H
  go_wp2
  repeat (go_quiet (fail); try go_wp2)
  go_loopg [5, 6] kj3 (fun kq v5 v6 w' => ∃ (x5_2 : Int) (x6_2 : Int), v5 = .int .i64 x5_2 ∧ v6 = .int .i64 x6_2 ∧ Aside0 (laws_yLow.l0 kq x5_2 x6_2 = some r) ∧ Aside0 (kq ≤ kj3) ∧ Drawn0 w w')
  case atStart => exact ⟨(x5_3), (a1), rt_, rt_, H', ⟨Nat.le_refl _⟩, d0_⟩
  clear H'
  try clear c2
  try clear p2
  try clear c3
  try clear c3b0
  try clear c5
  try clear c5b0
  try clear p2
  obtain ⟨x5_2, x6_2, rfl, rfl, HA, HK2, ⟨m2, rfl⟩⟩ := hrel
  cases gk with
  | zero => exact absurd HA.out (by simp [laws_yLow.l0])
  | succ k2 =>
   have H := HA.out
   clear HA
   simp only [laws_yLow.l0] at H
   by_cases c6 : x6_2 > 0
   ·rw [if_pos c6] at H
    have c6b0 := decide_eq_true c6
    clear c6
    by_cases c7 : x6_2 = 0
    ·rw [if_pos c7] at H
     cases H
    ·rw [if_neg c7] at H
     have c7b0 := beq_eq_false_iff_ne.mpr c7
     have c7b1 := bne_iff_ne.mpr c7
     have H' := Aside0.mk H
     clear H
     go_wp2
     repeat (go_quiet (fail); try go_wp2)
     go_roundg k2
     case measure => have := HJ3.out; have := HK2.out; omega
     case rel => exact ⟨(x6_2), (Int.tmod x5_2 x6_2), rt_, rt_, H', ⟨by have := HJ3.out; have := HK2.out; omega⟩, d0_⟩
   ·rw [if_neg c6] at H
    have c6b0 := decide_eq_false c6
    clear c6
    obtain rfl := Option.some.inj H
    go_wp2
    repeat (go_quiet (fail); try go_wp2)
    go_ret
    exact ⟨rt_, d0_⟩
def impl_isLegTime.f (a0 : Int) (a1 : Int) : Option (Bool) := (impl_within.f a0 0 100000).bind fun t238 => (if t238 = true then ((impl_within.f a1 1 1000).bind fun t239 => (some t239)) else (some false))
theorem impl_isLegTime.calls (a0 : Int) (a1 : Int) (r : Bool) (w : World) (h : impl_isLegTime.f a0 a1 = some r) :
  Calls Tryz.prog 53 #[.int .i64 a0, .int .i64 a1] w fun e w' => e = .returned (.bool r) ∧ Drawn0 w w' := by
 have H := h
 unfold impl_isLegTime.f at H
 clear h
 replace H := Option.bind_eq_some_iff.mp H
 obtain ⟨t238, A30, H⟩ := H
 (try dsimp only at H)
 have A3 := Aside0.mk A30
 clear A30
 by_cases c4 : t238 = true
 ·subst c4
  rw [if_pos rfl] at H
  replace H := Option.bind_eq_some_iff.mp H
  obtain ⟨t239, A50, H⟩ := H
  replace H : (some t239) = some r := H
  have A5 := Aside0.mk A50
  clear A50
  obtain rfl := Option.some.inj H
  go_enter Tryz.func53, Tryz.ntmps53
  go_wp2_with (first | ((with_reducible refine gate_callee (f := 48) rfl ?_); refine goesL_ (some 6) rfl rfl Tryz.func48 (by kernel_rfl) rfl #[.int .i64 a0, .int .i64 0, .int .i64 100000] rfl am_ ?_; (with_reducible refine (impl_within.calls a0 0 100000 true _ A3.out).mono ?_); rintro e w' ⟨rfl, ⟨nd, rfl⟩⟩; refine ⟨_, rfl, ?_⟩) | (go_at_call 48; (with_reducible refine (impl_within.calls a1 1 1000 t239 _ A5.out).mono ?_); rintro e w' ⟨rfl, ⟨nd, rfl⟩⟩))
  go_ret
  exact ⟨rt_, d0_⟩
 ·replace c4 := Bool.eq_false_iff.mpr c4
  subst c4
  rw [if_neg ft_] at H
  obtain rfl := Option.some.inj H
  go_enter Tryz.func53, Tryz.ntmps53
  go_wp2_with (first | ((with_reducible refine gate_callee (f := 48) rfl ?_); refine goesL_ (some 6) rfl rfl Tryz.func48 (by kernel_rfl) rfl #[.int .i64 a0, .int .i64 0, .int .i64 100000] rfl am_ ?_; (with_reducible refine (impl_within.calls a0 0 100000 false _ A3.out).mono ?_); rintro e w' ⟨rfl, ⟨nd, rfl⟩⟩; refine ⟨_, rfl, ?_⟩))
  go_ret
  exact ⟨rt_, d0_⟩
def impl_legAt.l0 : Nat → List (S37) → Int → Int → Int → Int → Option (Int)
 | 0, _, _, _, _, _ => none
 | k + 1, x0, x1, x2, x12, x13 => if x13 < x12 then (if 0 ≤ (wrap64 (x13 + 1)) then (if (wrap64 (x13 + 1)) ≤ (x0.length : Int) then ((impl_timeOf.f k (x0.take ((wrap64 (x13 + 1)) : Int).toNat)).bind fun bt244 => (if (wrap64 (x1 * bt244.2)) < (wrap64 (bt244.1 * x2)) then (some x13) else (impl_legAt.l0 k x0 x1 x2 x12 (wrap64 (x13 + 1))))) else (none)) else (none)) else (some (wrap64 ((x0.length : Int) - 1)))
def impl_legAt.f (k : Nat) (l0 : List (S37)) (a1 : Int) (a2 : Int) : Option (Int) := impl_legAt.l0 k l0 a1 a2 (wrap64 ((l0.length : Int) - 1)) 0
theorem impl_legAt.calls (k : Nat) (A0 : Option Addr) (c0 : Nat) (l0 : List (S37)) (a1 : Int) (a2 : Int) (r : Int) (w : World) (hr0 : Kd.C k37 w A0 l0.length l0) (hc0 : l0.length ≤ c0) (h : impl_legAt.f k l0 a1 a2 = some r) :
  Calls Tryz.prog 54 #[.slice A0 l0.length c0, .int .i64 a1, .int .i64 a2] w fun e w' => e = .returned (.int .i64 r) ∧ Below w.heap.size w w' := by
 have HR0 := Aside0.mk hr0
 have HC0 := Aside0.mk hc0
 clear hr0 hc0
 have HB := Aside0.mk (Below.refl w.heap.size w)
 have H := h
 unfold impl_legAt.f at H
 clear h
 have H' := Aside0.mk H
 clear H
 go_enter Tryz.func54, Tryz.ntmps54
 go_wp2
 go_loopg [13] k (fun kq v13 w' => ∃ (x13_1 : Int), v13 = .int .i64 x13_1 ∧ Aside0 (impl_legAt.l0 kq l0 a1 a2 (wrap64 ((l0.length : Int) - 1)) x13_1 = some r) ∧ Aside0 (kq ≤ k) ∧ Aside0 (Below w.heap.size w w'))
 case atStart => exact ⟨(0), rt_, H', ⟨Nat.le_refl _⟩, ⟨below_to HB⟩⟩
 clear H'
 try clear p2
 obtain ⟨x13_1, rfl, HA, HK1, HB⟩ := hrel
 cases gk with
 | zero => exact absurd HA.out (by simp [impl_legAt.l0])
 | succ k1 =>
  have H := HA.out
  clear HA
  simp only [impl_legAt.l0] at H
  by_cases c4 : x13_1 < (wrap64 ((l0.length : Int) - 1))
  rotate_left
  ·rw [if_neg c4] at H
   have c4b0 := decide_eq_false c4
   clear c4
   obtain rfl := Option.some.inj H
   go_wp2
   go_ret
   exact ⟨rtE_, below_to HB⟩
  rw [if_pos c4] at H
  have c4b0 := decide_eq_true c4
  clear c4
  obtain ⟨ji5, hji5⟩ : ∃ j_ : Int, (wrap64 (x13_1 + 1)) = j_ := ⟨_, rfl⟩
  replace H : (if 0 ≤ (ji5) then (if (ji5) ≤ (l0.length : Int) then ((impl_timeOf.f k1 (l0.take ((ji5) : Int).toNat)).bind fun bt244 => (if (wrap64 (a1 * bt244.2)) < (wrap64 (bt244.1 * a2)) then (some x13_1) else (impl_legAt.l0 k1 l0 a1 a2 (wrap64 ((l0.length : Int) - 1)) ji5))) else (none)) else (none)) = some r := by first | (rw [hji5] at H; exact H) | (simp only [hji5] at H ⊢; exact H)
  have hji5w : (IntKind.i64.wrap (x13_1 + 1)) = ji5 := (i64_w _).trans hji5
  by_cases c6 : 0 ≤ (ji5)
  rotate_left
  ·rw [if_neg c6] at H
   cases H
  rw [if_pos c6] at H
  have c6b0 := eq_true c6
  have c6b1 := decide_eq_true c6
  clear c6
  by_cases c7 : (ji5) ≤ (l0.length : Int)
  rotate_left
  ·rw [if_neg c7] at H
   cases H
  rw [if_pos c7] at H
  have c7b0 := eq_true c7
  have c7b1 := decide_eq_true c7
  clear c7
  obtain ⟨y240, hy240⟩ : ∃ y_ : List (S37), y_ = (l0.take ((ji5) : Int).toNat) := ⟨_, rfl⟩
  replace H : ((impl_timeOf.f k1 y240).bind fun bt244 => (if (wrap64 (a1 * bt244.2)) < (wrap64 (bt244.1 * a2)) then (some x13_1) else (impl_legAt.l0 k1 l0 a1 a2 (wrap64 ((l0.length : Int) - 1)) ji5))) = some r := by first | (rw [hy240]; with_reducible exact H) | (have H2_ := (Option.bind_some _ _).symm.trans H; rw [hy240]; with_reducible exact H2_) | (have H2_ := (Option.bind_some _ _).symm.trans H; with_reducible exact H2_) | with_reducible exact H | (rw [hy240]; exact H) | exact H
  have Ny240 := Aside0.mk hy240
  clear hy240
  replace H := Option.bind_eq_some_iff.mp H
  obtain ⟨⟨t244, t245⟩, A80, H⟩ := H
  (try dsimp only at H)
  have A8 := Aside0.mk A80
  clear A80
  by_cases c9 : (wrap64 (a1 * t245)) < (wrap64 (t244 * a2))
  ·rw [if_pos c9] at H
   have c9b0 := decide_eq_true c9
   clear c9
   obtain rfl := Option.some.inj H
   have q10 : ((ji5) : Int) ≤ ((l0.length : Int) : Int) := odt_
   obtain ⟨i010, hi010, _, hsz10, _⟩ := info_parts info37
   have hroom10 : l0.length ≤ c0 := HC0.out
   have hC10 : Kd.C k37 _ A0 l0.length l0 := HR0.out
   have hcut10 := cut_to (P := Tryz.prog) 22 37 .i64 Tryz.underlying22 hi010 A0 l0.length c0 (ji5) (of_decide_eq_true (by first | (with_reducible assumption) | assumption)) q10 hroom10
   have hr10 := Kd.C_take (m := ((ji5) : Int).toNat) hC10 (by omega)
   have hy10 : y240.length = ((ji5) : Int).toNat := (by rw [Ny240.out, List.length_take]; omega)
   rw [← Ny240.out] at hr10
   rw [← hy10] at hcut10
   have HR243 := Aside0.mk hr10
   have HC243 := Aside0.mk (show y240.length ≤ c0 from by omega)
   clear hr10 hC10 hroom10 hi010 hsz10
   have KY10 := Aside0.mk hy10
   clear hy10
   replace q10 := eq_true q10
   go_wp2_with (first | ((with_reducible refine gate_callee (f := 37) rfl ?_); refine goesL_ (some 21) rfl rfl Tryz.func37 (by kernel_rfl) rfl #[.slice A0 y240.length c0] rfl am_ ?_; (with_reducible refine (impl_timeOf.calls k1 _ _ y240 t244 t245 _ ?side1 ?side2 A8.out).mono ?_); (case side1 => exact cb_ HR243 HB); (case side2 => exact HC243.out); rintro e w11 ⟨rfl, hb⟩; refine ⟨_, rfl, ?_⟩; replace HB := Aside0.mk (below_step (below_to HB) hb); clear hb))
   go_ret
   exact ⟨by first | rfl | (simp [errW_none, errW_some] <;> rfl) | (simp only [← hji5]; first | rfl | (simp [errW_none, errW_some] <;> rfl)) | (simp [*, errW_none, errW_some] <;> rfl), below_to HB⟩
  rw [if_neg c9] at H
  have c9b0 := decide_eq_false c9
  clear c9
  have H' := Aside0.mk H
  clear H
  have q12 : ((ji5) : Int) ≤ ((l0.length : Int) : Int) := odt_
  obtain ⟨i012, hi012, _, hsz12, _⟩ := info_parts info37
  have hroom12 : l0.length ≤ c0 := HC0.out
  have hC12 : Kd.C k37 _ A0 l0.length l0 := HR0.out
  have hcut12 := cut_to (P := Tryz.prog) 22 37 .i64 Tryz.underlying22 hi012 A0 l0.length c0 (ji5) (of_decide_eq_true (by first | (with_reducible assumption) | assumption)) q12 hroom12
  have hr12 := Kd.C_take (m := ((ji5) : Int).toNat) hC12 (by omega)
  have hy12 : y240.length = ((ji5) : Int).toNat := (by rw [Ny240.out, List.length_take]; omega)
  rw [← Ny240.out] at hr12
  rw [← hy12] at hcut12
  have HR243 := Aside0.mk hr12
  have HC243 := Aside0.mk (show y240.length ≤ c0 from by omega)
  clear hr12 hC12 hroom12 hi012 hsz12
  have KY12 := Aside0.mk hy12
  clear hy12
  replace q12 := eq_true q12
  go_wp2_with (first | ((with_reducible refine gate_callee (f := 37) rfl ?_); refine goesL_ (some 21) rfl rfl Tryz.func37 (by kernel_rfl) rfl #[.slice A0 y240.length c0] rfl am_ ?_; (with_reducible refine (impl_timeOf.calls k1 _ _ y240 t244 t245 _ ?side1 ?side2 A8.out).mono ?_); (case side1 => exact cb_ HR243 HB); (case side2 => exact HC243.out); rintro e w13 ⟨rfl, hb⟩; refine ⟨_, rfl, ?_⟩; replace HB := Aside0.mk (below_step (below_to HB) hb); clear hb))
  go_roundg k1
  case measure => have := HK1.out; omega
  case rel => exact ⟨(ji5), (by first | rfl | (simp; done) | (simp only [← hji5] <;> (first | rfl | simp)) | (simp [*]; done)), H', ⟨by have := HK1.out; omega⟩, ⟨below_to HB⟩⟩
def impl_PlaceOnLegs.j0 : Nat → List (S37) → Int → Int → Bool → Option (Int × Int × Bool)
 | 0, _, _, _, _ => none
 | k + 1, x0, x1, x2, x21 => if x21 = true then (some (0, 0, false)) else ((impl_legAt.f k x0 x1 x2).bind fun t248 => (if 0 ≤ t248 then (if t248 ≤ (x0.length : Int) then ((impl_timeOf.f k (x0.take (t248 : Int).toNat)).bind fun bt253 => (if t248 < (x0.length : Int) then (if (wrap64 (((rd_T37 x0 t248).f1) * (wrap64 ((wrap64 (x1 * bt253.2)) - (wrap64 (bt253.1 * x2)))))) ≥ (wrap64 ((wrap64 (((rd_T37 x0 t248).f0) * bt253.2)) * x2)) then (if 0 ≤ (wrap64 (t248 + 1)) then (if (wrap64 (t248 + 1)) ≤ (x0.length : Int) then ((impl_longOf.f k (x0.take ((wrap64 (t248 + 1)) : Int).toNat)).bind fun t261 => (some (t261, 1, true))) else (none)) else (none)) else ((impl_longOf.f k (x0.take (t248 : Int).toNat)).bind fun t266 => ((impl_fraction.f k (wrap64 ((wrap64 ((wrap64 (t266 * bt253.2)) * x2)) + (wrap64 (((rd_T37 x0 t248).f1) * (wrap64 ((wrap64 (x1 * bt253.2)) - (wrap64 (bt253.1 * x2)))))))) (wrap64 (bt253.2 * x2))).bind fun bt267 => (some (bt267.1, bt267.2.1, bt267.2.2))))) else (none))) else (none)) else (none)))
def impl_PlaceOnLegs.f (k : Nat) (l0 : List (S37)) (a1 : Int) (a2 : Int) : Option (Int × Int × Bool) := (impl_AreLegs.f k l0).bind fun t246 => (if t246 = true then ((impl_isLegTime.f a1 a2).bind fun t247 => (impl_PlaceOnLegs.j0 k l0 a1 a2 (!t247))) else (impl_PlaceOnLegs.j0 k l0 a1 a2 true))
theorem impl_PlaceOnLegs.calls (k : Nat) (A0 : Option Addr) (c0 : Nat) (l0 : List (S37)) (a1 : Int) (a2 : Int) (r1 : Int) (r2 : Int) (r3 : Bool) (w : World) (hr0 : Kd.C k37 w A0 l0.length l0) (hc0 : l0.length ≤ c0) (h : impl_PlaceOnLegs.f k l0 a1 a2 = some (r1, r2, r3)) :
  Calls Tryz.prog 21 #[.slice A0 l0.length c0, .int .i64 a1, .int .i64 a2] w fun e w' => e = .returned (.tuple #[.int .i64 r1, .int .i64 r2, .bool r3]) ∧ Below w.heap.size w w' := by
 have HR0 := Aside0.mk hr0
 have HC0 := Aside0.mk hc0
 clear hr0 hc0
 have HB := Aside0.mk (Below.refl w.heap.size w)
 have H := h
 unfold impl_PlaceOnLegs.f at H
 clear h
 have HC4 := Aside0.mk H
 clear H
 go_enter Tryz.func21, Tryz.ntmps21
 go_upto_region 1 with (fail)
 go_cut [21] (fun v21 wc => ∃ (kq : Nat) (x21_3 : Bool), v21 = .bool x21_3 ∧ Aside0 (impl_PlaceOnLegs.j0 kq l0 a1 a2 x21_3 = some (r1, r2, r3)) ∧ Aside0 (kq ≤ k) ∧ Aside0 (Below w.heap.size w wc))
 case first =>
  have H := HC4.out
  clear HC4
  replace H := Option.bind_eq_some_iff.mp H
  obtain ⟨t246, A50, H⟩ := H
  (try dsimp only at H)
  have A5 := Aside0.mk A50
  clear A50
  by_cases c6 : t246 = true
  ·subst c6
   rw [if_pos rfl] at H
   replace H := Option.bind_eq_some_iff.mp H
   obtain ⟨t247, A70, H⟩ := H
   (try dsimp only at H)
   have A7 := Aside0.mk A70
   clear A70
   have H' := Aside0.mk H
   clear H
   go_wp2_with (first | ((with_reducible refine gate_callee (f := 18) rfl ?_); refine goesL_ (some 14) rfl rfl Tryz.func18 (by kernel_rfl) rfl #[.slice A0 l0.length c0] rfl am_ ?_; (with_reducible refine (impl_AreLegs.calls k _ _ l0 true _ ?side1 ?side2 A5.out).mono ?_); (case side1 => exact cb_ HR0 HB); (case side2 => exact HC0.out); rintro e w8 ⟨rfl, hb⟩; refine ⟨_, rfl, ?_⟩; replace HB := Aside0.mk (below_step (below_to HB) hb); clear hb) | (go_at_call 53; (with_reducible refine (impl_isLegTime.calls a1 a2 t247 _ A7.out).mono ?_); rintro e w' ⟨rfl, ⟨nd, rfl⟩⟩))
   go_meet
   case rel => exact ⟨_, (!t247), rt_, H', ⟨by first | omega | exact Nat.le_refl _⟩, ⟨below_to HB⟩⟩
  ·replace c6 := Bool.eq_false_iff.mpr c6
   subst c6
   rw [if_neg ft_] at H
   have H' := Aside0.mk H
   clear H
   go_wp2_with (first | ((with_reducible refine gate_callee (f := 18) rfl ?_); refine goesL_ (some 14) rfl rfl Tryz.func18 (by kernel_rfl) rfl #[.slice A0 l0.length c0] rfl am_ ?_; (with_reducible refine (impl_AreLegs.calls k _ _ l0 false _ ?side1 ?side2 A5.out).mono ?_); (case side1 => exact cb_ HR0 HB); (case side2 => exact HC0.out); rintro e w9 ⟨rfl, hb⟩; refine ⟨_, rfl, ?_⟩; replace HB := Aside0.mk (below_step (below_to HB) hb); clear hb))
   go_meet
   case rel => exact ⟨_, (true), rt_, H', ⟨by first | omega | exact Nat.le_refl _⟩, ⟨below_to HB⟩⟩
 clear HC4
 try clear c1
 try clear c2
 try clear p2
 try clear c6
 obtain ⟨kq, x21_3, rfl, HA, HJ3, HB⟩ := hcut
 cases kq with
 | zero => exact absurd HA.out (by simp [impl_PlaceOnLegs.j0])
 | succ kj3 =>
  have H := HA.out
  clear HA
  simp only [impl_PlaceOnLegs.j0] at H
  by_cases c10 : x21_3 = true
  ·subst c10
   rw [if_pos rfl] at H
   simp only [Option.some.injEq, Prod.mk.injEq] at H
   obtain ⟨rfl, rfl, rfl⟩ := H
   go_wp2
   go_ret3
   exact ⟨rtE_, below_to HB⟩
  replace c10 := Bool.eq_false_iff.mpr c10
  subst c10
  rw [if_neg ft_] at H
  replace H := Option.bind_eq_some_iff.mp H
  obtain ⟨t248, A110, H⟩ := H
  (try dsimp only at H)
  have A11 := Aside0.mk A110
  clear A110
  by_cases c12 : 0 ≤ t248
  rotate_left
  ·rw [if_neg c12] at H
   cases H
  rw [if_pos c12] at H
  have c12b0 := eq_true c12
  have c12b1 := decide_eq_true c12
  clear c12
  by_cases c13 : t248 ≤ (l0.length : Int)
  rotate_left
  ·rw [if_neg c13] at H
   cases H
  rw [if_pos c13] at H
  have c13b0 := eq_true c13
  have c13b1 := decide_eq_true c13
  clear c13
  obtain ⟨y249, hy249⟩ : ∃ y_ : List (S37), y_ = (l0.take (t248 : Int).toNat) := ⟨_, rfl⟩
  replace H : ((impl_timeOf.f kj3 y249).bind fun bt253 => (if t248 < (l0.length : Int) then (if (wrap64 (((rd_T37 l0 t248).f1) * (wrap64 ((wrap64 (a1 * bt253.2)) - (wrap64 (bt253.1 * a2)))))) ≥ (wrap64 ((wrap64 (((rd_T37 l0 t248).f0) * bt253.2)) * a2)) then (if 0 ≤ (wrap64 (t248 + 1)) then (if (wrap64 (t248 + 1)) ≤ (l0.length : Int) then ((impl_longOf.f kj3 (l0.take ((wrap64 (t248 + 1)) : Int).toNat)).bind fun t261 => (some (t261, 1, true))) else (none)) else (none)) else ((impl_longOf.f kj3 (l0.take (t248 : Int).toNat)).bind fun t266 => ((impl_fraction.f kj3 (wrap64 ((wrap64 ((wrap64 (t266 * bt253.2)) * a2)) + (wrap64 (((rd_T37 l0 t248).f1) * (wrap64 ((wrap64 (a1 * bt253.2)) - (wrap64 (bt253.1 * a2)))))))) (wrap64 (bt253.2 * a2))).bind fun bt267 => (some (bt267.1, bt267.2.1, bt267.2.2))))) else (none))) = some (r1, r2, r3) := by first | (rw [hy249]; with_reducible exact H) | (have H2_ := (Option.bind_some _ _).symm.trans H; rw [hy249]; with_reducible exact H2_) | (have H2_ := (Option.bind_some _ _).symm.trans H; with_reducible exact H2_) | with_reducible exact H | (rw [hy249]; exact H) | exact H
  have Ny249 := Aside0.mk hy249
  clear hy249
  replace H := Option.bind_eq_some_iff.mp H
  obtain ⟨⟨t253, t254⟩, A140, H⟩ := H
  (try dsimp only at H)
  have A14 := Aside0.mk A140
  clear A140
  by_cases c15 : t248 < (l0.length : Int)
  rotate_left
  ·rw [if_neg c15] at H
   cases H
  rw [if_pos c15] at H
  have c15b0 := decide_eq_true c15
  clear c15
  by_cases c16 : (wrap64 (((rd_T37 l0 t248).f1) * (wrap64 ((wrap64 (a1 * t254)) - (wrap64 (t253 * a2)))))) ≥ (wrap64 ((wrap64 (((rd_T37 l0 t248).f0) * t254)) * a2))
  rotate_left
  ·rw [if_neg c16] at H
   have c16b0 := decide_eq_false c16
   clear c16
   have c26b0 := eq_true (of_decide_eq_true (by first | (with_reducible assumption) | assumption) : 0 ≤ t248)
   have c27b0 := eq_true (of_decide_eq_true (by first | (with_reducible assumption) | assumption) : t248 ≤ (l0.length : Int))
   obtain ⟨y262, hy262⟩ : ∃ y_ : List (S37), y_ = (l0.take (t248 : Int).toNat) := ⟨_, rfl⟩
   replace H : ((impl_longOf.f kj3 y262).bind fun t266 => ((impl_fraction.f kj3 (wrap64 ((wrap64 ((wrap64 (t266 * t254)) * a2)) + (wrap64 (((rd_T37 l0 t248).f1) * (wrap64 ((wrap64 (a1 * t254)) - (wrap64 (t253 * a2)))))))) (wrap64 (t254 * a2))).bind fun bt267 => (some (bt267.1, bt267.2.1, bt267.2.2)))) = some (r1, r2, r3) := by first | (rw [hy262]; with_reducible exact H) | (have H2_ := (Option.bind_some _ _).symm.trans H; rw [hy262]; with_reducible exact H2_) | (have H2_ := (Option.bind_some _ _).symm.trans H; with_reducible exact H2_) | with_reducible exact H | (rw [hy262]; exact H) | exact H
   have Ny262 := Aside0.mk hy262
   clear hy262
   replace H := Option.bind_eq_some_iff.mp H
   obtain ⟨t266, A280, H⟩ := H
   (try dsimp only at H)
   have A28 := Aside0.mk A280
   clear A280
   replace H := Option.bind_eq_some_iff.mp H
   obtain ⟨⟨t267, t268, t269⟩, A290, H⟩ := H
   (try dsimp only at H)
   have A29 := Aside0.mk A290
   clear A290
   simp only [Option.some.injEq, Prod.mk.injEq] at H
   obtain ⟨rfl, rfl, rfl⟩ := H
   go_wp2_with (first | ((with_reducible refine gate_callee (f := 54) rfl ?_); refine goesL_ (some 25) rfl rfl Tryz.func54 (by kernel_rfl) rfl #[.slice A0 l0.length c0, .int .i64 a1, .int .i64 a2] rfl am_ ?_; (with_reducible refine (impl_legAt.calls kj3 _ _ l0 a1 a2 t248 _ ?side1 ?side2 A11.out).mono ?_); (case side1 => exact cb_ HR0 HB); (case side2 => exact HC0.out); rintro e w30 ⟨rfl, hb⟩; refine ⟨_, rfl, ?_⟩; replace HB := Aside0.mk (below_step (below_to HB) hb); clear hb; have q31 : (t248 : Int) ≤ ((l0.length : Int) : Int) := of_decide_eq_true (by first | (with_reducible assumption) | assumption); obtain ⟨i031, hi031, _, hsz31, _⟩ := info_parts info37; have hroom31 : l0.length ≤ c0 := HC0.out; have hC31 : Kd.C k37 _ A0 l0.length l0 := HR0.out; have hcut31 := cut_to (P := Tryz.prog) 22 37 .i64 Tryz.underlying22 hi031 A0 l0.length c0 t248 (of_decide_eq_true (by first | (with_reducible assumption) | assumption)) q31 hroom31; have hr31 := Kd.C_take (m := (t248 : Int).toNat) hC31 (by omega); have hy31 : y249.length = (t248 : Int).toNat := (by rw [Ny249.out, List.length_take]; omega); rw [← Ny249.out] at hr31; rw [← hy31] at hcut31; have HR252 := Aside0.mk hr31; have HC252 := Aside0.mk (show y249.length ≤ c0 from by omega); clear hr31 hC31 hroom31 hi031 hsz31; have KY31 := Aside0.mk hy31; clear hy31; replace q31 := eq_true q31) | ((with_reducible refine gate_callee (f := 37) rfl ?_); refine goesL_ (some 30) rfl rfl Tryz.func37 (by kernel_rfl) rfl #[.slice A0 y249.length c0] rfl am_ ?_; (with_reducible refine (impl_timeOf.calls kj3 _ _ y249 t253 t254 _ ?side1 ?side2 A14.out).mono ?_); (case side1 => exact cb_ HR252 HB); (case side2 => exact HC252.out); rintro e w32 ⟨rfl, hb⟩; refine ⟨_, rfl, ?_⟩; replace HB := Aside0.mk (below_step (below_to HB) hb); clear hb; have p255 : 0 ≤ (t248 : Int) := of_decide_eq_true (by first | (with_reducible assumption) | assumption); have q255 : t248 < (l0.length : Int) := of_decide_eq_true (by first | (with_reducible assumption) | assumption); obtain ⟨ad255, e255, hx255_0, hx255_1⟩ := at_T37 HR0.out t248 p255 q255; cases e255; replace hx255_0 := (HB.out.cell (World.block_lt_of_cell? w _ hx255_0)).trans hx255_0; replace hx255_1 := (HB.out.cell (World.block_lt_of_cell? w _ hx255_1)).trans hx255_1; replace p255 := eq_true p255; replace q255 := eq_true q255; have p256 : 0 ≤ (t248 : Int) := of_decide_eq_true (by first | (with_reducible assumption) | assumption); have q256 : t248 < (l0.length : Int) := of_decide_eq_true (by first | (with_reducible assumption) | assumption); obtain ⟨ad256, e256, hx256_0, hx256_1⟩ := at_T37 HR0.out t248 p256 q256; obtain rfl : ad255 = ad256 := (by injection e256); replace hx256_0 := (HB.out.cell (World.block_lt_of_cell? w _ hx256_0)).trans hx256_0; replace hx256_1 := (HB.out.cell (World.block_lt_of_cell? w _ hx256_1)).trans hx256_1; replace p256 := eq_true p256; replace q256 := eq_true q256; have q33 : (t248 : Int) ≤ ((l0.length : Int) : Int) := of_decide_eq_true (by first | (with_reducible assumption) | assumption); obtain ⟨i033, hi033, _, hsz33, _⟩ := info_parts info37; have hroom33 : l0.length ≤ c0 := HC0.out; have hC33 : Kd.C k37 _ (some ad255) l0.length l0 := HR0.out; have hcut33 := cut_to (P := Tryz.prog) 22 37 .i64 Tryz.underlying22 hi033 (some ad255) l0.length c0 t248 (of_decide_eq_true (by first | (with_reducible assumption) | assumption)) q33 hroom33; have hr33 := Kd.C_take (m := (t248 : Int).toNat) hC33 (by omega); have hy33 : y262.length = (t248 : Int).toNat := (by rw [Ny262.out, List.length_take]; omega); rw [← Ny262.out] at hr33; rw [← hy33] at hcut33; have HR265 := Aside0.mk hr33; have HC265 := Aside0.mk (show y262.length ≤ c0 from by omega); clear hr33 hC33 hroom33 hi033 hsz33; have KY33 := Aside0.mk hy33; clear hy33; replace q33 := eq_true q33) | ((with_reducible refine gate_callee (f := 40) rfl ?_); refine goesL_ (some 65) rfl rfl Tryz.func40 (by kernel_rfl) rfl #[.slice (some ad255) y262.length c0] rfl (by (try rw [show y262.length = y249.length from by rw [Ny262.out, Ny249.out]]); (try simp only [List.map_toArray, List.map_cons, List.map_nil]); first | done | rfl | (simp only [List.length_drop, List.length_take]; rfl)) ?_; (with_reducible refine (impl_longOf.calls kj3 _ _ y262 t266 _ ?side1 ?side2 A28.out).mono ?_); (case side1 => exact cb_ HR265 HB); (case side2 => exact HC265.out); rintro e w34 ⟨rfl, hb⟩; refine ⟨_, rfl, ?_⟩; replace HB := Aside0.mk (below_step (below_to HB) hb); clear hb) | ((with_reducible refine gate_callee (f := 42) rfl ?_); refine goesL_ (some 75) rfl rfl Tryz.func42 (by kernel_rfl) rfl #[.int .i64 (wrap64 ((wrap64 ((wrap64 (t266 * t254)) * a2)) + (wrap64 (((rd_T37 l0 t248).f1) * (wrap64 ((wrap64 (a1 * t254)) - (wrap64 (t253 * a2)))))))), .int .i64 (wrap64 (t254 * a2))] rfl am_ ?_; (with_reducible refine (impl_fraction.calls kj3 (wrap64 ((wrap64 ((wrap64 (t266 * t254)) * a2)) + (wrap64 (((rd_T37 l0 t248).f1) * (wrap64 ((wrap64 (a1 * t254)) - (wrap64 (t253 * a2)))))))) (wrap64 (t254 * a2)) t267 t268 t269 _ A29.out).mono ?_); rintro e w35 ⟨rfl, hb⟩; refine ⟨_, rfl, ?_⟩; replace HB := Aside0.mk (below_step (below_to HB) hb); clear hb))
   go_ret3
   exact ⟨rtE_, below_to HB⟩
  rw [if_pos c16] at H
  have c16b0 := decide_eq_true c16
  clear c16
  obtain ⟨ji17, hji17⟩ : ∃ j_ : Int, (wrap64 (t248 + 1)) = j_ := ⟨_, rfl⟩
  replace H : (if 0 ≤ (ji17) then (if (ji17) ≤ (l0.length : Int) then ((impl_longOf.f kj3 (l0.take ((ji17) : Int).toNat)).bind fun t261 => (some (t261, 1, true))) else (none)) else (none)) = some (r1, r2, r3) := by first | (rw [hji17] at H; exact H) | (simp only [hji17] at H ⊢; exact H)
  (try rw [hji17] at A11)
  (try rw [hji17] at A14)
  have hji17w : (IntKind.i64.wrap (t248 + 1)) = ji17 := (i64_w _).trans hji17
  by_cases c18 : 0 ≤ (ji17)
  rotate_left
  ·rw [if_neg c18] at H
   cases H
  rw [if_pos c18] at H
  have c18b0 := eq_true c18
  have c18b1 := decide_eq_true c18
  clear c18
  by_cases c19 : (ji17) ≤ (l0.length : Int)
  ·rw [if_pos c19] at H
   have c19b0 := eq_true c19
   have c19b1 := decide_eq_true c19
   clear c19
   obtain ⟨y257, hy257⟩ : ∃ y_ : List (S37), y_ = (l0.take ((ji17) : Int).toNat) := ⟨_, rfl⟩
   replace H : ((impl_longOf.f kj3 y257).bind fun t261 => (some (t261, 1, true))) = some (r1, r2, r3) := by first | (rw [hy257]; with_reducible exact H) | (have H2_ := (Option.bind_some _ _).symm.trans H; rw [hy257]; with_reducible exact H2_) | (have H2_ := (Option.bind_some _ _).symm.trans H; with_reducible exact H2_) | with_reducible exact H | (rw [hy257]; exact H) | exact H
   have Ny257 := Aside0.mk hy257
   clear hy257
   replace H := Option.bind_eq_some_iff.mp H
   obtain ⟨t261, A200, H⟩ := H
   (try dsimp only at H)
   have A20 := Aside0.mk A200
   clear A200
   simp only [Option.some.injEq, Prod.mk.injEq] at H
   obtain ⟨rfl, rfl, rfl⟩ := H
   go_wp2_with (first | ((with_reducible refine gate_callee (f := 54) rfl ?_); refine goesL_ (some 25) rfl rfl Tryz.func54 (by kernel_rfl) rfl #[.slice A0 l0.length c0, .int .i64 a1, .int .i64 a2] rfl am_ ?_; (with_reducible refine (impl_legAt.calls kj3 _ _ l0 a1 a2 t248 _ ?side1 ?side2 A11.out).mono ?_); (case side1 => exact cb_ HR0 HB); (case side2 => exact HC0.out); rintro e w21 ⟨rfl, hb⟩; refine ⟨_, rfl, ?_⟩; replace HB := Aside0.mk (below_step (below_to HB) hb); clear hb; have q22 : (t248 : Int) ≤ ((l0.length : Int) : Int) := of_decide_eq_true (by first | (with_reducible assumption) | assumption); obtain ⟨i022, hi022, _, hsz22, _⟩ := info_parts info37; have hroom22 : l0.length ≤ c0 := HC0.out; have hC22 : Kd.C k37 _ A0 l0.length l0 := HR0.out; have hcut22 := cut_to (P := Tryz.prog) 22 37 .i64 Tryz.underlying22 hi022 A0 l0.length c0 t248 (of_decide_eq_true (by first | (with_reducible assumption) | assumption)) q22 hroom22; have hr22 := Kd.C_take (m := (t248 : Int).toNat) hC22 (by omega); have hy22 : y249.length = (t248 : Int).toNat := (by rw [Ny249.out, List.length_take]; omega); rw [← Ny249.out] at hr22; rw [← hy22] at hcut22; have HR252 := Aside0.mk hr22; have HC252 := Aside0.mk (show y249.length ≤ c0 from by omega); clear hr22 hC22 hroom22 hi022 hsz22; have KY22 := Aside0.mk hy22; clear hy22; replace q22 := eq_true q22) | ((with_reducible refine gate_callee (f := 37) rfl ?_); refine goesL_ (some 30) rfl rfl Tryz.func37 (by kernel_rfl) rfl #[.slice A0 y249.length c0] rfl am_ ?_; (with_reducible refine (impl_timeOf.calls kj3 _ _ y249 t253 t254 _ ?side1 ?side2 A14.out).mono ?_); (case side1 => exact cb_ HR252 HB); (case side2 => exact HC252.out); rintro e w23 ⟨rfl, hb⟩; refine ⟨_, rfl, ?_⟩; replace HB := Aside0.mk (below_step (below_to HB) hb); clear hb; have p255 : 0 ≤ (t248 : Int) := of_decide_eq_true (by first | (with_reducible assumption) | assumption); have q255 : t248 < (l0.length : Int) := of_decide_eq_true (by first | (with_reducible assumption) | assumption); obtain ⟨ad255, e255, hx255_0, hx255_1⟩ := at_T37 HR0.out t248 p255 q255; cases e255; replace hx255_0 := (HB.out.cell (World.block_lt_of_cell? w _ hx255_0)).trans hx255_0; replace hx255_1 := (HB.out.cell (World.block_lt_of_cell? w _ hx255_1)).trans hx255_1; replace p255 := eq_true p255; replace q255 := eq_true q255; have p256 : 0 ≤ (t248 : Int) := of_decide_eq_true (by first | (with_reducible assumption) | assumption); have q256 : t248 < (l0.length : Int) := of_decide_eq_true (by first | (with_reducible assumption) | assumption); obtain ⟨ad256, e256, hx256_0, hx256_1⟩ := at_T37 HR0.out t248 p256 q256; obtain rfl : ad255 = ad256 := (by injection e256); replace hx256_0 := (HB.out.cell (World.block_lt_of_cell? w _ hx256_0)).trans hx256_0; replace hx256_1 := (HB.out.cell (World.block_lt_of_cell? w _ hx256_1)).trans hx256_1; replace p256 := eq_true p256; replace q256 := eq_true q256; have q24 : ((ji17) : Int) ≤ ((l0.length : Int) : Int) := of_decide_eq_true (by first | (with_reducible assumption) | assumption); obtain ⟨i024, hi024, _, hsz24, _⟩ := info_parts info37; have hroom24 : l0.length ≤ c0 := HC0.out; have hC24 : Kd.C k37 _ (some ad255) l0.length l0 := HR0.out; have hcut24 := cut_to (P := Tryz.prog) 22 37 .i64 Tryz.underlying22 hi024 (some ad255) l0.length c0 (ji17) (of_decide_eq_true (by first | (with_reducible assumption) | assumption)) q24 hroom24; have hr24 := Kd.C_take (m := ((ji17) : Int).toNat) hC24 (by omega); have hy24 : y257.length = ((ji17) : Int).toNat := (by rw [Ny257.out, List.length_take]; omega); rw [← Ny257.out] at hr24; rw [← hy24] at hcut24; have HR260 := Aside0.mk hr24; have HC260 := Aside0.mk (show y257.length ≤ c0 from by omega); clear hr24 hC24 hroom24 hi024 hsz24; have KY24 := Aside0.mk hy24; clear hy24; replace q24 := eq_true q24) | ((with_reducible refine gate_callee (f := 40) rfl ?_); refine goesL_ (some 61) rfl rfl Tryz.func40 (by kernel_rfl) rfl #[.slice (some ad255) y257.length c0] rfl am_ ?_; (with_reducible refine (impl_longOf.calls kj3 _ _ y257 t261 _ ?side1 ?side2 A20.out).mono ?_); (case side1 => exact cb_ HR260 HB); (case side2 => exact HC260.out); rintro e w25 ⟨rfl, hb⟩; refine ⟨_, rfl, ?_⟩; replace HB := Aside0.mk (below_step (below_to HB) hb); clear hb))
   go_ret3
   exact ⟨by first | rfl | (simp [errW_none, errW_some] <;> rfl) | (simp only [← hji17]; first | rfl | (simp [errW_none, errW_some] <;> rfl)) | (simp [*, errW_none, errW_some] <;> rfl), below_to HB⟩
  ·rw [if_neg c19] at H
   cases H
def impl_LegAt.f (k : Nat) (l0 : List (S37)) (a1 : Int) (a2 : Int) : Option (Int × Bool) := (impl_AreLegs.f k l0).bind fun t270 => (if t270 = true then ((impl_isLegTime.f a1 a2).bind fun t271 => (if t271 = true then ((impl_legAt.f k l0 a1 a2).bind fun t272 => (some (t272, true))) else (some (0, false)))) else (some (0, false)))
theorem impl_LegAt.calls (k : Nat) (A0 : Option Addr) (c0 : Nat) (l0 : List (S37)) (a1 : Int) (a2 : Int) (r1 : Int) (r2 : Bool) (w : World) (hr0 : Kd.C k37 w A0 l0.length l0) (hc0 : l0.length ≤ c0) (h : impl_LegAt.f k l0 a1 a2 = some (r1, r2)) :
  Calls Tryz.prog 22 #[.slice A0 l0.length c0, .int .i64 a1, .int .i64 a2] w fun e w' => e = .returned (.tuple #[.int .i64 r1, .bool r2]) ∧ Below w.heap.size w w' := by
 have HR0 := Aside0.mk hr0
 have HC0 := Aside0.mk hc0
 clear hr0 hc0
 have HB := Aside0.mk (Below.refl w.heap.size w)
 have H := h
 unfold impl_LegAt.f at H
 clear h
 replace H := Option.bind_eq_some_iff.mp H
 obtain ⟨t270, A40, H⟩ := H
 (try dsimp only at H)
 have A4 := Aside0.mk A40
 clear A40
 by_cases c5 : t270 = true
 rotate_left
 ·replace c5 := Bool.eq_false_iff.mpr c5
  subst c5
  rw [if_neg ft_] at H
  simp only [Option.some.injEq, Prod.mk.injEq] at H
  obtain ⟨rfl, rfl⟩ := H
  go_enter Tryz.func22, Tryz.ntmps22
  go_wp2_with (first | ((with_reducible refine gate_callee (f := 18) rfl ?_); refine goesL_ (some 9) rfl rfl Tryz.func18 (by kernel_rfl) rfl #[.slice A0 l0.length c0] rfl am_ ?_; (with_reducible refine (impl_AreLegs.calls k _ _ l0 false _ ?side1 ?side2 A4.out).mono ?_); (case side1 => exact c_to HR0); (case side2 => exact HC0.out); rintro e w12 ⟨rfl, hb⟩; refine ⟨_, rfl, ?_⟩; replace HB := Aside0.mk (below_step (below_to HB) hb); clear hb))
  go_ret2
  exact ⟨rtE_, below_to HB⟩
 subst c5
 rw [if_pos rfl] at H
 replace H := Option.bind_eq_some_iff.mp H
 obtain ⟨t271, A60, H⟩ := H
 (try dsimp only at H)
 have A6 := Aside0.mk A60
 clear A60
 by_cases c7 : t271 = true
 ·subst c7
  rw [if_pos rfl] at H
  replace H := Option.bind_eq_some_iff.mp H
  obtain ⟨t272, A80, H⟩ := H
  (try dsimp only at H)
  have A8 := Aside0.mk A80
  clear A80
  simp only [Option.some.injEq, Prod.mk.injEq] at H
  obtain ⟨rfl, rfl⟩ := H
  go_enter Tryz.func22, Tryz.ntmps22
  go_wp2_with (first | ((with_reducible refine gate_callee (f := 18) rfl ?_); refine goesL_ (some 9) rfl rfl Tryz.func18 (by kernel_rfl) rfl #[.slice A0 l0.length c0] rfl am_ ?_; (with_reducible refine (impl_AreLegs.calls k _ _ l0 true _ ?side1 ?side2 A4.out).mono ?_); (case side1 => exact c_to HR0); (case side2 => exact HC0.out); rintro e w9 ⟨rfl, hb⟩; refine ⟨_, rfl, ?_⟩; replace HB := Aside0.mk (below_step (below_to HB) hb); clear hb) | (go_at_call 53; (with_reducible refine (impl_isLegTime.calls a1 a2 true _ A6.out).mono ?_); rintro e w' ⟨rfl, ⟨nd, rfl⟩⟩) | ((with_reducible refine gate_callee (f := 54) rfl ?_); refine goesL_ (some 20) rfl rfl Tryz.func54 (by kernel_rfl) rfl #[.slice A0 l0.length c0, .int .i64 a1, .int .i64 a2] rfl am_ ?_; (with_reducible refine (impl_legAt.calls k _ _ l0 a1 a2 t272 _ ?side1 ?side2 A8.out).mono ?_); (case side1 => repeat (first | exact (Kd.C_below HR0.out (below_to HB)) | (with_reducible refine Kd.C_alloc ?_ _) | (with_reducible refine Kd.C_drewN ?_ _) | (with_reducible refine Kd.C_drew ?_))); (case side2 => exact HC0.out); rintro e w10 ⟨rfl, hb⟩; refine ⟨_, rfl, ?_⟩; replace HB := Aside0.mk (below_step (below_to HB) hb); clear hb))
  go_ret2
  exact ⟨rtE_, below_to HB⟩
 ·replace c7 := Bool.eq_false_iff.mpr c7
  subst c7
  rw [if_neg ft_] at H
  simp only [Option.some.injEq, Prod.mk.injEq] at H
  obtain ⟨rfl, rfl⟩ := H
  go_enter Tryz.func22, Tryz.ntmps22
  go_wp2_with (first | ((with_reducible refine gate_callee (f := 18) rfl ?_); refine goesL_ (some 9) rfl rfl Tryz.func18 (by kernel_rfl) rfl #[.slice A0 l0.length c0] rfl am_ ?_; (with_reducible refine (impl_AreLegs.calls k _ _ l0 true _ ?side1 ?side2 A4.out).mono ?_); (case side1 => exact c_to HR0); (case side2 => exact HC0.out); rintro e w11 ⟨rfl, hb⟩; refine ⟨_, rfl, ?_⟩; replace HB := Aside0.mk (below_step (below_to HB) hb); clear hb) | (go_at_call 53; (with_reducible refine (impl_isLegTime.calls a1 a2 false _ A6.out).mono ?_); rintro e w' ⟨rfl, ⟨nd, rfl⟩⟩))
  go_ret2
  exact ⟨rtE_, below_to HB⟩
def strings_Split.f (a0 : ByteArray) (a1 : ByteArray) : Option (List ByteArray) := if a0.size < 4294967281 ∧ 1 ≤ a1.size then some (Lib.splitB a1 0 (Lib.countB a0 a1) a0) else none
theorem strings_Split.calls (a0 : ByteArray) (a1 : ByteArray) (r : List ByteArray) (w : World) (h : strings_Split.f a0 a1 = some r) (hT_ : Go.Proofs.YtbhnpccbjgbcbaaGreatDoor.XText.T2 w) :
  Calls Tryz.prog 55 #[.string a0, .string a1] w fun e w' => ∃ Aa : Value, e = .returned (Aa) ∧ Kd.R Kd.string 9 w' w.heap.size (fun _ => True) Aa r ∧ Below w.heap.size w w' := by
 unfold strings_Split.f at h
 by_cases c : a0.size < 4294967281 ∧ 1 ≤ a1.size
 ·rw [if_pos c] at h
  obtain rfl := Option.some.inj h
  exact Go.Proofs.YtbhnpccbjgbcbaaGreatDoor.XText.split_calls a0 a1 w c.1 c.2 hT_
 ·rw [if_neg c] at h
  cases h
def impl_readNumber.f (a0 : ByteArray) : Option (Int × Bool) := if a0.size ≤ 281474976710656 then some (((Go.Proofs.YtbhnpccbjgbcbaaGreatDoor.XText.rdNum a0).1, (Go.Proofs.YtbhnpccbjgbcbaaGreatDoor.XText.rdNum a0).2)) else none
theorem impl_readNumber.calls (a0 : ByteArray) (r1 : Int) (r2 : Bool) (w : World) (h : impl_readNumber.f a0 = some (r1, r2)) (hT_ : Go.Proofs.YtbhnpccbjgbcbaaGreatDoor.XText.T2 w) :
  Calls Tryz.prog 81 #[.string a0] w fun e w' => e = .returned (.tuple #[.int .i64 r1, .bool r2]) ∧ Below w.heap.size w w' := by
 unfold impl_readNumber.f at h
 by_cases c : a0.size ≤ 281474976710656
 ·rw [if_pos c] at h
  have h := Option.some.inj h
  simp only [Prod.mk.injEq] at h
  obtain ⟨rfl, rfl⟩ := h
  exact Go.Proofs.YtbhnpccbjgbcbaaGreatDoor.XText.readNumber_calls a0 w c hT_
 ·rw [if_neg c] at h
  cases h
def impl_readNumbers.l0 : Nat → List Int → List ByteArray → Int → Int → Option (List Int × Bool)
 | 0, _, _, _, _ => none
 | k + 1, x6, x13, x14, x15 => if x15 < x14 then (if 0 ≤ x15 then (if x15 < (x13.length : Int) then ((impl_readNumber.f (rdOf ByteArray.empty x13 x15)).bind fun bt277 => (if bt277.2 = true then (if x6.length < 17592186044416 then (impl_readNumbers.l0 k (x6 ++ [bt277.1]) x13 x14 (wrap64 (x15 + 1))) else (none)) else (some (([] : List Int), false)))) else (none)) else (none)) else (some (x6, true))
def impl_readNumbers.f (k : Nat) (a0 : ByteArray) (a1 : ByteArray) : Option (List Int × Bool) := (strings_Split.f a0 a1).bind fun t273 => (impl_readNumbers.l0 k ([] : List Int) t273 (t273.length : Int) 0)
theorem impl_readNumbers.calls (k : Nat) (a0 : ByteArray) (a1 : ByteArray) (r1 : List Int) (r2 : Bool) (w : World) (h : impl_readNumbers.f k a0 a1 = some (r1, r2)) (hT_ : Go.Proofs.YtbhnpccbjgbcbaaGreatDoor.XText.T2 w) :
  Calls Tryz.prog 56 #[.string a0, .string a1] w fun e w' => ∃ Aa : Value, e = .returned (.tuple #[Aa, .bool r2]) ∧ Kd.R (Kd.int .i64) 3 w' w.heap.size (fun _ => True) Aa r1 ∧ Below w.heap.size w w' := by
 have HTab_ := Aside0.mk hT_
 clear hT_
 have HB := Aside0.mk (Below.refl w.heap.size w)
 have H := h
 unfold impl_readNumbers.f at H
 clear h
 replace H := Option.bind_eq_some_iff.mp H
 obtain ⟨t273, A30, H⟩ := H
 (try dsimp only at H)
 have A3 := Aside0.mk A30
 clear A30
 have H' := Aside0.mk H
 clear H
 go_enter Tryz.func56, Tryz.ntmps56
 go_wp2_with (first | ((with_reducible refine gate_callee (f := 55) rfl ?_); refine goesL_ (some 13) rfl rfl Tryz.func55 (by kernel_rfl) rfl #[.string a0, .string a1] rfl am_ ?_; (with_reducible refine (strings_Split.calls a0 a1 t273 _ A3.out ?sidet).mono ?_); (case sidet => refine Go.Proofs.YtbhnpccbjgbcbaaGreatDoor.XText.T2.on (w := w) HTab_.out ?_; repeat (first | (with_reducible first | exact HB.out | exact Below.refl _ _ | apply below_alloc | apply pw_below_drewN | apply below_drew1) | exact HB.out | exact Below.refl _ _)); rintro e w4 ⟨v274, rfl, ho0, hb⟩; refine ⟨_, rfl, ?_⟩; have HO275 := Aside0.mk (Kd.R_lower ho0 (below_size (below_to HB))); replace HB := Aside0.mk (below_step (below_to HB) hb); clear hb; (try clear ho0); obtain ⟨Ao5, co5, eo5⟩ := Kd.R_slice HO275.out; subst eo5))
 go_loopg [6, 15] k (fun kq v6 v15 w' => ∃ (x6_1 : List Int) (x15_1 : Int), v15 = .int .i64 x15_1 ∧ Aside0 (impl_readNumbers.l0 kq x6_1 t273 (t273.length : Int) x15_1 = some (r1, r2)) ∧ Aside0 (kq ≤ k) ∧ Aside0 (Kd.R (Kd.int .i64) 3 w' w.heap.size (fun _ => True) v6 x6_1) ∧ Aside0 (Kd.R Kd.string 9 w' w.heap.size (fun _ => True) (.slice Ao5 t273.length co5) t273) ∧ Aside0 (Below w.heap.size w w'))
 case atStart => exact ⟨(([] : List Int)), (0), rt_, H', ⟨Nat.le_refl _⟩, ⟨by first | exact Kd.R_nil _ _ _ _ _ | exact Kd.N_nil _ _ _ _ _ | exact Kd.V_nil _ _ _ _ _ | exact Kd.Q_nil _ _ _ _ _ | exact Kd.S_nil _ _ _ _ _⟩, ⟨kd_to HO275⟩, ⟨below_to HB⟩⟩
 clear H'
 try clear p2
 try clear c5
 obtain ⟨x6_1, x15_1, rfl, HA, HK1, HO_6, HO_13, HB⟩ := hrel
 cases gk with
 | zero => exact absurd HA.out (by simp [impl_readNumbers.l0])
 | succ k1 =>
  have H := HA.out
  clear HA
  simp only [impl_readNumbers.l0] at H
  by_cases c6 : x15_1 < (t273.length : Int)
  rotate_left
  ·rw [if_neg c6] at H
   have c6b0 := decide_eq_false c6
   clear c6
   simp only [Option.some.injEq, Prod.mk.injEq] at H
   obtain ⟨rfl, rfl⟩ := H
   go_wp2
   go_ret2
   exact ⟨_, rtE_, kd_to HO_6, below_to HB⟩
  rw [if_pos c6] at H
  have c6b0 := decide_eq_true c6
  clear c6
  by_cases c7 : 0 ≤ x15_1
  rotate_left
  ·rw [if_neg c7] at H
   cases H
  rw [if_pos c7] at H
  have c7b0 := decide_eq_true c7
  clear c7
  by_cases c8 : x15_1 < (t273.length : Int)
  rotate_left
  ·rw [if_neg c8] at H
   cases H
  rw [if_pos c8] at H
  have c8b0 := decide_eq_true c8
  clear c8
  replace H := Option.bind_eq_some_iff.mp H
  obtain ⟨⟨t277, t278⟩, A90, H⟩ := H
  (try dsimp only at H)
  have A9 := Aside0.mk A90
  clear A90
  by_cases c10 : t278 = true
  rotate_left
  ·replace c10 := Bool.eq_false_iff.mpr c10
   subst c10
   rw [if_neg ft_] at H
   simp only [Option.some.injEq, Prod.mk.injEq] at H
   obtain ⟨rfl, rfl⟩ := H
   have p276 : 0 ≤ (x15_1 : Int) := odt_
   have q276 : x15_1 < (t273.length : Int) := odt_
   obtain ⟨ad276, e276, hx276_0⟩ := Kd.at_string (Kd.R_reads' HO_13.out).2.2 x15_1 p276 q276
   cases e276
   replace p276 := eq_true p276
   replace q276 := eq_true q276
   go_wp2_with (first | ((with_reducible refine gate_callee (f := 81) rfl ?_); refine goesL_ (some 21) rfl rfl Tryz.func81 (by kernel_rfl) rfl #[.string (rdOf ByteArray.empty t273 x15_1)] rfl am_ ?_; (with_reducible refine (impl_readNumber.calls (rdOf ByteArray.empty t273 x15_1) t277 false _ A9.out ?sidet).mono ?_); (case sidet => refine Go.Proofs.YtbhnpccbjgbcbaaGreatDoor.XText.T2.on (w := w) HTab_.out ?_; repeat (first | (with_reducible first | exact HB.out | exact Below.refl _ _ | apply below_alloc | apply pw_below_drewN | apply below_drew1) | exact HB.out | exact Below.refl _ _)); rintro e w14 ⟨rfl, hb⟩; refine ⟨_, rfl, ?_⟩; replace HO_6 := Aside0.mk (Kd.R_below (kd_to HO_6) hb); replace HO_13 := Aside0.mk (Kd.R_below (kd_to HO_13) hb); replace HB := Aside0.mk (below_step (below_to HB) hb); clear hb))
   go_ret2
   exact ⟨_, rtE_, by first | exact Kd.R_nil _ _ _ _ _ | exact Kd.N_nil _ _ _ _ _ | exact Kd.V_nil _ _ _ _ _ | exact Kd.Q_nil _ _ _ _ _ | exact Kd.S_nil _ _ _ _ _, below_to HB⟩
  subst c10
  rw [if_pos rfl] at H
  by_cases c11 : x6_1.length < 17592186044416
  ·rw [if_pos c11] at H
   have LMc11 := Aside0.mk c11
   clear c11
   obtain ⟨y279, hy279⟩ : ∃ y_ : List Int, y_ = (x6_1 ++ [t277]) := ⟨_, rfl⟩
   replace H : (impl_readNumbers.l0 k1 y279 t273 (t273.length : Int) (wrap64 (x15_1 + 1))) = some (r1, r2) := by first | (rw [hy279]; with_reducible exact H) | (have H2_ := (Option.bind_some _ _).symm.trans H; rw [hy279]; with_reducible exact H2_) | (have H2_ := (Option.bind_some _ _).symm.trans H; with_reducible exact H2_) | with_reducible exact H | (rw [hy279]; exact H) | exact H
   have Ny279 := Aside0.mk hy279
   clear hy279
   have H' := Aside0.mk H
   clear H
   have p276 : 0 ≤ (x15_1 : Int) := odt_
   have q276 : x15_1 < (t273.length : Int) := odt_
   obtain ⟨ad276, e276, hx276_0⟩ := Kd.at_string (Kd.R_reads' HO_13.out).2.2 x15_1 p276 q276
   cases e276
   replace p276 := eq_true p276
   replace q276 := eq_true q276
   go_wp2_with (first | ((with_reducible refine gate_callee (f := 81) rfl ?_); refine goesL_ (some 21) rfl rfl Tryz.func81 (by kernel_rfl) rfl #[.string (rdOf ByteArray.empty t273 x15_1)] rfl am_ ?_; (with_reducible refine (impl_readNumber.calls (rdOf ByteArray.empty t273 x15_1) t277 true _ A9.out ?sidet).mono ?_); (case sidet => refine Go.Proofs.YtbhnpccbjgbcbaaGreatDoor.XText.T2.on (w := w) HTab_.out ?_; repeat (first | (with_reducible first | exact HB.out | exact Below.refl _ _ | apply below_alloc | apply pw_below_drewN | apply below_drew1) | exact HB.out | exact Below.refl _ _)); rintro e w12 ⟨rfl, hb⟩; refine ⟨_, rfl, ?_⟩; replace HO_6 := Aside0.mk (Kd.R_below (kd_to HO_6) hb); replace HO_13 := Aside0.mk (Kd.R_below (kd_to HO_13) hb); replace HB := Aside0.mk (below_step (below_to HB) hb); clear hb) | ((with_reducible refine gate_builtin (b := .append) (xs := #[.tmp 26, .tmp 28]) rfl ?_); at_builtin; refine Kd.R_append (Kd.int .i64) (w0 := w) w.heap.size rfl (.tmp 26) (.tmp 28) 23 3 (.int .i64 0) 8 rfl Tryz.underlying23 info3 rfl (by decide) (by omega) u6 x6_1 t277 [.int .i64 t277] (fun _ => True) (fun _ => False) rfl rfl ?aP (fun _ hk => hk.elim) ?aF ?aO ?aB ?aS ?aL ?_; (case aP => exact rfl); (case aB => exact (below_to HB)); (case aF => exact (fun _ _ => trivial)); (case aO => exact (kd_to HO_6)); (case aS => exact (below_size (below_to HB))); (case aL => have := LMc11.out; omega); intro v280 w13 ho hb hg hat; rw [← Ny279.out] at ho; replace HO_13 := Aside0.mk (Kd.R_over' (kd_to HO_13) (Kd.R_typed (kd_to HO_6)) (by decide) hg); replace HB := Aside0.mk (hb); have HO281 := Aside0.mk (ho); clear HO_6; clear ho hb hg hat))
   go_roundg k1
   case measure => have := HK1.out; omega
   case rel => exact ⟨(y279), (wrap64 (x15_1 + 1)), rt_, H', ⟨by have := HK1.out; omega⟩, ⟨kd_to HO281⟩, ⟨kd_to HO_13⟩, ⟨below_to HB⟩⟩
  ·rw [if_neg c11] at H
   cases H
end Go.Proofs.YtbhnpccbjgbcbaaGreatDoor.QD
