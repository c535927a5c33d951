import Derived.Test.YtbhnpccbjgbcbaaGreatDoorQDx1
import Derived.Test.YtbhnpccbjgbcbaaGreatDoorQDx7
namespace Go.Proofs.YtbhnpccbjgbcbaaGreatDoor.QD
open Go.Proofs.YtbhnpccbjgbcbaaGreatDoor.X Go.RowKit Go.Proofs.YtbhnpccbjgbcbaaGreatDoorW.PrintWords Go.Proofs.YtbhnpccbjgbcbaaGreatDoorW.PrintLast Go.Proofs.YtbhnpccbjgbcbaaGreatDoorW.PrintMore
set_option maxHeartbeats 8000000
set_option maxRecDepth 100000
attribute [local go_sem] max2_int min2_int max_two min_two max_three min_three max_four min_four
set_option linter.unusedVariables false
set_option linter.unusedSimpArgs false
attribute [local go_sem high] eqA37
def impl_ParseLegs.l0 : Nat → List (S37) → List ByteArray → Int → Int → Option ((List (S37)) × Bool)
 | 0, _, _, _, _ => none
 | k + 1, x4, x10, x11, x12 => if x12 < x11 then (if 0 ≤ x12 then (if x12 < (x10.length : Int) then ((impl_readNumbers.f k (rdOf ByteArray.empty x10 x12) (⟨#[47]⟩ : ByteArray)).bind fun bt286 => (if bt286.2 = true then (if (bt286.1.length : Int) = 2 then (if 0 < (bt286.1.length : Int) then (if 1 < (bt286.1.length : Int) then (if x4.length < 8796093022208 then (impl_ParseLegs.l0 k (x4 ++ [(⟨rd bt286.1 0, rd bt286.1 1⟩ : S37)]) x10 x11 (wrap64 (x12 + 1))) else (none)) else (none)) else (none)) else (some (([] : List (S37)), false))) else (some (([] : List (S37)), false)))) else (none)) else (none)) else ((impl_AreLegs.f k x4).bind fun t295 => (if t295 = true then (some (x4, true)) else (some (([] : List (S37)), false))))
def impl_ParseLegs.f (k : Nat) (a0 : ByteArray) : Option ((List (S37)) × Bool) := (strings_Split.f a0 (⟨#[43]⟩ : ByteArray)).bind fun t282 => (impl_ParseLegs.l0 k ([] : List (S37)) t282 (t282.length : Int) 0)
def impl_ParseLegs.T8 : Bool × List (List Nat × List Nat) := (true, [([], []), ([], []), ([1], [1]), ([2], [2]), ([], []), ([4], [4]), ([5], [5]), ([3, 6], [3, 6]), ([7], [7]), ([0, 8], [0, 8]), ([9, 9, 0, 1, 2, 3, 4, 5, 6, 7, 8, 9], [0, 9])])
def impl_ParseLegs.B8 : List Nat := [0, 0, 2, 6, 0, 16, 48, 126, 254, 511, 1023]
theorem impl_ParseLegs.tab8 : rtab .any (opsOf Tryz.f23 8) = impl_ParseLegs.T8 := by kernel_rfl
theorem impl_ParseLegs.bits8 : waitsOk impl_ParseLegs.T8.2 impl_ParseLegs.B8 = true := by kernel_rfl
theorem impl_ParseLegs.calls (k : Nat) (a0 : ByteArray) (r1 : List (S37)) (r2 : Bool) (w : World) (h : impl_ParseLegs.f k a0 = some (r1, r2)) (hT_ : Go.Proofs.YtbhnpccbjgbcbaaGreatDoor.XText.T2 w) :
  Calls Tryz.prog 23 #[.string a0] w fun e w' => ∃ Aa : Value, e = .returned (.tuple #[Aa, .bool r2]) ∧ Kd.R k37 37 w' w.heap.size (fun _ => True) Aa r1 ∧ Below w.heap.size w w' := by
 have HTab_ := Aside0.mk hT_
 clear hT_
 have hu37 := Tryz.underlying37
 have HB := Aside0.mk (Below.refl w.heap.size w)
 have H := h
 unfold impl_ParseLegs.f at H
 clear h
 replace H := Option.bind_eq_some_iff.mp H
 obtain ⟨t282, A20, H⟩ := H
 (try dsimp only at H)
 have A2 := Aside0.mk A20
 clear A20
 have H' := Aside0.mk H
 clear H
 go_enter Tryz.func23, Tryz.ntmps23
 go_wp2_with (first | ((with_reducible refine gate_callee (f := 55) rfl ?_); refine goesL_ (some 10) rfl rfl Tryz.func55 (by kernel_rfl) rfl #[.string a0, .string (⟨#[43]⟩ : ByteArray)] rfl am_ ?_; (with_reducible refine (strings_Split.calls a0 (⟨#[43]⟩ : ByteArray) t282 _ A2.out ?sidet).mono ?_); (case sidet => refine Go.Proofs.YtbhnpccbjgbcbaaGreatDoor.XText.T2.on (w := w) HTab_.out ?_; repeat (first | (with_reducible first | exact HB.out | exact Below.refl _ _ | apply below_alloc | apply pw_below_drewN | apply below_drew1) | exact HB.out | exact Below.refl _ _)); rintro e w3 ⟨v283, rfl, ho0, hb⟩; refine ⟨_, rfl, ?_⟩; have HO284 := Aside0.mk (Kd.R_lower ho0 (below_size (below_to HB))); replace HB := Aside0.mk (below_step (below_to HB) hb); clear hb; (try clear ho0); obtain ⟨Ao4, co4, eo4⟩ := Kd.R_slice HO284.out; subst eo4))
 go_loopg [4, 12] k (fun kq v4 v12 w' => ∃ (x4_1 : List (S37)) (x12_1 : Int), v12 = .int .i64 x12_1 ∧ Aside0 (impl_ParseLegs.l0 kq x4_1 t282 (t282.length : Int) x12_1 = some (r1, r2)) ∧ Aside0 (kq ≤ k) ∧ Aside0 (Kd.R k37 37 w' w.heap.size (fun _ => True) v4 x4_1) ∧ Aside0 (Kd.R Kd.string 9 w' w.heap.size (fun _ => True) (.slice Ao4 t282.length co4) t282) ∧ Aside0 (Below w.heap.size w w'))
 case atStart => exact ⟨(([] : List (S37))), (0), rt_, H', ⟨Nat.le_refl _⟩, ⟨by first | exact Kd.R_nil _ _ _ _ _ | exact Kd.N_nil _ _ _ _ _ | exact Kd.V_nil _ _ _ _ _ | exact Kd.Q_nil _ _ _ _ _ | exact Kd.S_nil _ _ _ _ _⟩, ⟨kd_to HO284⟩, ⟨below_to HB⟩⟩
 clear H'
 try clear c2
 try clear p2
 obtain ⟨x4_1, x12_1, rfl, HA, HK1, HO_4, HO_10, HB⟩ := hrel
 cases gk with
 | zero => exact absurd HA.out (by simp [impl_ParseLegs.l0])
 | succ k1 =>
  have H := HA.out
  clear HA
  simp only [impl_ParseLegs.l0] at H
  by_cases c5 : x12_1 < (t282.length : Int)
  rotate_left
  ·rw [if_neg c5] at H
   have c5b0 := decide_eq_false c5
   clear c5
   replace H := Option.bind_eq_some_iff.mp H
   obtain ⟨t295, A210, H⟩ := H
   (try dsimp only at H)
   have A21 := Aside0.mk A210
   clear A210
   by_cases c22 : t295 = true
   ·subst c22
    rw [if_pos rfl] at H
    simp only [Option.some.injEq, Prod.mk.injEq] at H
    obtain ⟨rfl, rfl⟩ := H
    obtain ⟨Ao23, co23, eo23⟩ := Kd.R_slice HO_4.out
    subst eo23
    go_wp2_with (first | ((with_reducible refine gate_callee (f := 18) rfl ?_); refine goesL_ (some 40) rfl rfl Tryz.func18 (by kernel_rfl) rfl #[.slice Ao23 x4_1.length co23] rfl am_ ?_; (with_reducible refine (impl_AreLegs.calls k1 _ _ x4_1 true _ ?side1 ?side2 A21.out).mono ?_); (case side1 => exact cR_ HO_4); (case side2 => exact (Kd.R_reads' HO_4.out).2.1); rintro e w24 ⟨rfl, hb⟩; refine ⟨_, rfl, ?_⟩; replace HO_4 := Aside0.mk (Kd.R_below (kd_to HO_4) hb); replace HO_10 := Aside0.mk (Kd.R_below (kd_to HO_10) hb); replace HB := Aside0.mk (below_step (below_to HB) hb); clear hb))
    go_ret2
    exact ⟨_, rtE_, kd_to HO_4, below_to HB⟩
   ·replace c22 := Bool.eq_false_iff.mpr c22
    subst c22
    rw [if_neg ft_] at H
    simp only [Option.some.injEq, Prod.mk.injEq] at H
    obtain ⟨rfl, rfl⟩ := H
    obtain ⟨Ao25, co25, eo25⟩ := Kd.R_slice HO_4.out
    subst eo25
    go_wp2_with (first | ((with_reducible refine gate_callee (f := 18) rfl ?_); refine goesL_ (some 40) rfl rfl Tryz.func18 (by kernel_rfl) rfl #[.slice Ao25 x4_1.length co25] rfl am_ ?_; (with_reducible refine (impl_AreLegs.calls k1 _ _ x4_1 false _ ?side1 ?side2 A21.out).mono ?_); (case side1 => exact cR_ HO_4); (case side2 => exact (Kd.R_reads' HO_4.out).2.1); rintro e w26 ⟨rfl, hb⟩; refine ⟨_, rfl, ?_⟩; replace HO_4 := Aside0.mk (Kd.R_below (kd_to HO_4) hb); replace HO_10 := Aside0.mk (Kd.R_below (kd_to HO_10) hb); replace HB := Aside0.mk (below_step (below_to HB) hb); clear hb))
    go_ret2
    exact ⟨_, rtE_, by first | exact Kd.R_nil _ _ _ _ _ | exact Kd.N_nil _ _ _ _ _ | exact Kd.V_nil _ _ _ _ _ | exact Kd.Q_nil _ _ _ _ _ | exact Kd.S_nil _ _ _ _ _, below_to HB⟩
  rw [if_pos c5] at H
  have c5b0 := decide_eq_true c5
  clear c5
  by_cases c6 : 0 ≤ x12_1
  rotate_left
  ·rw [if_neg c6] at H
   cases H
  rw [if_pos c6] at H
  have c6b0 := decide_eq_true c6
  clear c6
  by_cases c7 : x12_1 < (t282.length : Int)
  rotate_left
  ·rw [if_neg c7] at H
   cases H
  rw [if_pos c7] at H
  have c7b0 := decide_eq_true c7
  clear c7
  replace H := Option.bind_eq_some_iff.mp H
  obtain ⟨⟨t286, t287⟩, A80, H⟩ := H
  (try dsimp only at H)
  have A8 := Aside0.mk A80
  clear A80
  by_cases c9 : t287 = true
  rotate_left
  ·replace c9 := Bool.eq_false_iff.mpr c9
   subst c9
   rw [if_neg ft_] at H
   simp only [Option.some.injEq, Prod.mk.injEq] at H
   obtain ⟨rfl, rfl⟩ := H
   have p285 : 0 ≤ (x12_1 : Int) := odt_
   have q285 : x12_1 < (t282.length : Int) := odt_
   obtain ⟨ad285, e285, hx285_0⟩ := Kd.at_string (Kd.R_reads' HO_10.out).2.2 x12_1 p285 q285
   cases e285
   replace p285 := eq_true p285
   replace q285 := eq_true q285
   go_wp2_with (first | ((with_reducible refine gate_callee (f := 56) rfl ?_); refine goesL_ (some 18) rfl rfl Tryz.func56 (by kernel_rfl) rfl #[.string (rdOf ByteArray.empty t282 x12_1), .string (⟨#[47]⟩ : ByteArray)] rfl am_ ?_; (with_reducible refine (impl_readNumbers.calls k1 (rdOf ByteArray.empty t282 x12_1) (⟨#[47]⟩ : ByteArray) t286 false _ A8.out ?sidet).mono ?_); (case sidet => refine Go.Proofs.YtbhnpccbjgbcbaaGreatDoor.XText.T2.on (w := w) HTab_.out ?_; repeat (first | (with_reducible first | exact HB.out | exact Below.refl _ _ | apply below_alloc | apply pw_below_drewN | apply below_drew1) | exact HB.out | exact Below.refl _ _)); rintro e w20 ⟨v288, rfl, ho0, hb⟩; refine ⟨_, rfl, ?_⟩; replace HO_4 := Aside0.mk (Kd.R_below (kd_to HO_4) hb); replace HO_10 := Aside0.mk (Kd.R_below (kd_to HO_10) hb); have HO289 := Aside0.mk (Kd.R_lower ho0 (below_size (below_to HB))); replace HB := Aside0.mk (below_step (below_to HB) hb); clear hb; (try clear ho0)))
   go_ret2
   exact ⟨_, rtE_, by first | exact Kd.R_nil _ _ _ _ _ | exact Kd.N_nil _ _ _ _ _ | exact Kd.V_nil _ _ _ _ _ | exact Kd.Q_nil _ _ _ _ _ | exact Kd.S_nil _ _ _ _ _, below_to HB⟩
  subst c9
  rw [if_pos rfl] at H
  by_cases c10 : (t286.length : Int) = 2
  rotate_left
  ·rw [if_neg c10] at H
   have c10b0 := beq_eq_false_iff_ne.mpr c10
   have c10b1 := bne_iff_ne.mpr c10
   simp only [Option.some.injEq, Prod.mk.injEq] at H
   obtain ⟨rfl, rfl⟩ := H
   have p285 : 0 ≤ (x12_1 : Int) := odt_
   have q285 : x12_1 < (t282.length : Int) := odt_
   obtain ⟨ad285, e285, hx285_0⟩ := Kd.at_string (Kd.R_reads' HO_10.out).2.2 x12_1 p285 q285
   cases e285
   replace p285 := eq_true p285
   replace q285 := eq_true q285
   go_wp2_with (first | ((with_reducible refine gate_callee (f := 56) rfl ?_); refine goesL_ (some 18) rfl rfl Tryz.func56 (by kernel_rfl) rfl #[.string (rdOf ByteArray.empty t282 x12_1), .string (⟨#[47]⟩ : ByteArray)] rfl am_ ?_; (with_reducible refine (impl_readNumbers.calls k1 (rdOf ByteArray.empty t282 x12_1) (⟨#[47]⟩ : ByteArray) t286 true _ A8.out ?sidet).mono ?_); (case sidet => refine Go.Proofs.YtbhnpccbjgbcbaaGreatDoor.XText.T2.on (w := w) HTab_.out ?_; repeat (first | (with_reducible first | exact HB.out | exact Below.refl _ _ | apply below_alloc | apply pw_below_drewN | apply below_drew1) | exact HB.out | exact Below.refl _ _)); rintro e w18 ⟨v288, rfl, ho0, hb⟩; refine ⟨_, rfl, ?_⟩; replace HO_4 := Aside0.mk (Kd.R_below (kd_to HO_4) hb); replace HO_10 := Aside0.mk (Kd.R_below (kd_to HO_10) hb); have HO289 := Aside0.mk (Kd.R_lower ho0 (below_size (below_to HB))); replace HB := Aside0.mk (below_step (below_to HB) hb); clear hb; (try clear ho0); obtain ⟨Ao19, co19, eo19⟩ := Kd.R_slice HO289.out; subst eo19))
   go_ret2
   exact ⟨_, rtE_, by first | exact Kd.R_nil _ _ _ _ _ | exact Kd.N_nil _ _ _ _ _ | exact Kd.V_nil _ _ _ _ _ | exact Kd.Q_nil _ _ _ _ _ | exact Kd.S_nil _ _ _ _ _, below_to HB⟩
  rw [if_pos c10] at H
  have c10b0 := beq_iff_eq.mpr c10
  have c10b1 := bne_eq_false_iff_eq.mpr c10
  clear c10
  by_cases c11 : 0 < (t286.length : Int)
  rotate_left
  ·rw [if_neg c11] at H
   cases H
  rw [if_pos c11] at H
  have c11b0 := decide_eq_true c11
  have c11b1 : decide (0 < t286.length) = true := decide_eq_true (by omega)
  clear c11
  by_cases c12 : 1 < (t286.length : Int)
  rotate_left
  ·rw [if_neg c12] at H
   cases H
  rw [if_pos c12] at H
  have c12b0 := decide_eq_true c12
  have c12b1 : decide (1 < t286.length) = true := decide_eq_true (by omega)
  clear c12
  by_cases c13 : x4_1.length < 8796093022208
  rotate_left
  ·rw [if_neg c13] at H
   cases H
  rw [if_pos c13] at H
  have LMc13 := Aside0.mk c13
  clear c13
  obtain ⟨y292, hy292⟩ : ∃ y_ : List (S37), y_ = (x4_1 ++ [(⟨rd t286 0, rd t286 1⟩ : S37)]) := ⟨_, rfl⟩
  replace H : (impl_ParseLegs.l0 k1 y292 t282 (t282.length : Int) (wrap64 (x12_1 + 1))) = some (r1, r2) := by first | (rw [hy292]; with_reducible exact H) | (have H2_ := (Option.bind_some _ _).symm.trans H; rw [hy292]; with_reducible exact H2_) | (have H2_ := (Option.bind_some _ _).symm.trans H; with_reducible exact H2_) | with_reducible exact H | (rw [hy292]; exact H) | exact H
  have Ny292 := Aside0.mk hy292
  clear hy292
  have H' := Aside0.mk H
  clear H
  have p285 : 0 ≤ (x12_1 : Int) := odt_
  have q285 : x12_1 < (t282.length : Int) := odt_
  obtain ⟨ad285, e285, hx285_0⟩ := Kd.at_string (Kd.R_reads' HO_10.out).2.2 x12_1 p285 q285
  cases e285
  replace p285 := eq_true p285
  replace q285 := eq_true q285
  try go_wp2_with (first | ((with_reducible refine gate_callee (f := 56) rfl ?_); refine goesL_ (some 18) rfl rfl Tryz.func56 (by kernel_rfl) rfl #[.string (rdOf ByteArray.empty t282 x12_1), .string (⟨#[47]⟩ : ByteArray)] rfl am_ ?_; (with_reducible refine (impl_readNumbers.calls k1 (rdOf ByteArray.empty t282 x12_1) (⟨#[47]⟩ : ByteArray) t286 true _ A8.out ?sidet).mono ?_); (case sidet => refine Go.Proofs.YtbhnpccbjgbcbaaGreatDoor.XText.T2.on (w := w) HTab_.out ?_; repeat (first | (with_reducible first | exact HB.out | exact Below.refl _ _ | apply below_alloc | apply pw_below_drewN | apply below_drew1) | exact HB.out | exact Below.refl _ _)); rintro e w14 ⟨v288, rfl, ho0, hb⟩; refine ⟨_, rfl, ?_⟩; replace HO_4 := Aside0.mk (Kd.R_below (kd_to HO_4) hb); replace HO_10 := Aside0.mk (Kd.R_below (kd_to HO_10) hb); have HO289 := Aside0.mk (Kd.R_lower ho0 (below_size (below_to HB))); replace HB := Aside0.mk (below_step (below_to HB) hb); clear hb; (try clear ho0); obtain ⟨Ao15, co15, eo15⟩ := Kd.R_slice HO289.out; subst eo15))
  have n0_ := Aside0.mk (Kd.R_drew HO_4.out)
  have n1_ := Aside0.mk (Kd.R_drew HO_10.out)
  have n2_ := Aside0.mk (Kd.R_drew HO289.out)
  have n3_ := Aside0.mk (below_drew1 HB.out)
  clear HO_4
  clear HO_10
  clear HO289
  clear HB
  have HO_4 := n0_
  have HO_10 := n1_
  have HO289 := n2_
  have HB := n3_
  clear n0_ n1_ n2_ n3_
  have p290 : 0 ≤ (0 : Int) := (by omega)
  have q290 : 0 < (t286.length : Int) := odt_
  obtain ⟨ad290, e290, hx290_0⟩ := Kd.at_int (Kd.R_reads' HO289.out).2.2 0 p290 q290
  cases e290
  have qi290 : (0 < t286.length) = True := eq_true (by omega)
  (try rw [show ((0 : Int)).toNat = 0 from rfl] at hx290_0)
  (try rw [Addr.add_zero'] at hx290_0)
  replace p290 := eq_true p290
  replace q290 := eq_true q290
  have p291 : 0 ≤ (1 : Int) := (by omega)
  have q291 : 1 < (t286.length : Int) := odt_
  obtain ⟨ad291, e291, hx291_0⟩ := Kd.at_int (Kd.R_reads' HO289.out).2.2 1 p291 q291
  obtain rfl : ad290 = ad291 := (by injection e291)
  (try simp only [show (1 : Int).toNat = 1 from rfl, Nat.reduceMul, Nat.reduceEqDiff, Go.Addr.add, ↓reduceIte] at hx291_0)
  have qi291 : (1 < t286.length) = True := eq_true (by omega)
  (try rw [show ((1 : Int)).toNat = 1 from rfl] at hx291_0)
  replace p291 := eq_true p291
  replace q291 := eq_true q291
  refine start_ (n := 11) (S := fun w' => w'.cell? ad290 = some (.int .i64 (rd t286 0)) ∧ w'.cell? ⟨ad290.block, ad290.off + 1, none⟩ = some (.int .i64 (rd t286 1))) (ds := [8, 9]) #[false, false, false, false, false, false, false, false, false, false, false] (by kernel_rfl) rfl rfl ⟨hx290_0, hx291_0⟩ (fun hHeld => ?_); refine with_tabW impl_ParseLegs.tab8 impl_ParseLegs.bits8 (fun HT_ HW_ => ?_)
  generalize w14.drew = w16 at HO_4 HO_10 HO289 HB hx290_0 hx291_0 hHeld ⊢
  refine purS_ (i := 0) (N := some 28) (fl_ 11 1) HT_.out ?_
  refine purS_ (i := 1) (N := some 29) (fl_ 11 2) HT_.out ?_
  refine purS_ (i := 2) (N := some 30) (fl_ 11 3) HT_.out ?_
  refine purS_ (i := 4) (N := some 32) #[true, true, true, false, true, false, false, false, false, false, false] HT_.out ?_
  refine purS_ (i := 5) (N := some 33) #[true, true, true, false, true, true, false, false, false, false, false] HT_.out ?_
  refine take_ (i := 3) (N := some 31) (v := ?_) (a' := ?_) #[true, true, true, true, true, true, false, false, false, false, false] rfl rfl (take_ofW HT_.out HW_.out (by kernel_rfl)) (fun _ _ _ h => h) (Or.inl ⟨by rfl, ?_⟩) hHeld ?_ ?_
  rotate_left
  ·rintro w' ⟨s0, s1⟩
   go_simp
   with_reducible rfl
  rotate_left
  ·simp only [Act.put, List.setIfInBounds_toArray, List.set_cons_zero, List.set_cons_succ, i64_w, i32_w]
   rfl
  refine take_ (i := 6) (N := some 34) (v := ?_) (a' := ?_) #[true, true, true, true, true, true, true, false, false, false, false] rfl rfl (take_ofW HT_.out HW_.out (by kernel_rfl)) (fun _ _ _ h => h) (Or.inl ⟨by rfl, ?_⟩) hHeld ?_ ?_
  rotate_left
  ·rintro w' ⟨s0, s1⟩
   go_simp
   with_reducible rfl
  rotate_left
  ·simp only [Act.put, List.setIfInBounds_toArray, List.set_cons_zero, List.set_cons_succ, i64_w, i32_w]
   rfl
  refine purS_ (i := 7) (N := some 35) (fl_ 11 8) HT_.out ?_
  refine last_ (i := 8) (N := some 36) #[true, true, true, true, true, true, true, true, true, false, false] rfl rfl (one_of HT_.out (by kernel_rfl)) (by decide) (fun K hK => ?_)
  refine value_ (w1 := ?_) (v := ?_) (by rfl) rfl ?_ ?_
  rotate_left 2
  ·go_simp
   constructor
   ·rfl
   ·rfl
  refine hK.out _ _ ?_
  clear hK K
  refine norm_ (a' := ?_) ?_ ?_
  rotate_left
  ·show Act.put _ (some 36) _ = _
   simp only [Act.put, List.setIfInBounds_toArray, List.set_cons_zero, List.set_cons_succ, i64_w, i32_w]
   rfl
  refine last_ (i := 9) (N := some 37) #[true, true, true, true, true, true, true, true, true, true, false] rfl rfl (one_of HT_.out (by kernel_rfl)) (by decide) (fun K hK => ?_)
  refine Kd.R_append_step k37 (w0 := w) w.heap.size (by rfl) (.tmp 28) (.tmp 36) 22 37 (.agg #[(.int .i64 0), (.int .i64 0)]) 16 rfl Tryz.underlying22 info37 rfl (by decide) (by omega) u4 x4_1 (⟨rd t286 0, rd t286 1⟩ : S37) [.int .i64 (rd t286 0), .int .i64 (rd t286 1)] (fun _ => True) (fun _ => False) rfl rfl ?aP (fun _ hk => hk.elim) ?aF ?aO ?aB ?aS ?aL ?_
  (case aP => exact k37_mkM _ _ _ (⟨rd t286 0, rd t286 1⟩ : S37))
  (case aB => exact (below_to HB))
  (case aF => exact (fun _ _ => trivial))
  (case aO => exact (kd_to HO_4))
  (case aS => exact (below_size (below_to HB)))
  (case aL => have := LMc13.out; omega)
  intro v293 w17 ho hb hg hat
  rw [← Ny292.out] at ho
  have n0_ := Aside0.mk (Kd.R_over' (kd_to HO_10) (Kd.R_typed (kd_to HO_4)) (by decide) hg)
  have n1_ := Aside0.mk (Kd.R_over' (kd_to HO289) (Kd.R_typed (kd_to HO_4)) (by decide) hg)
  have n2_ := Aside0.mk (hb)
  have n3_ := Aside0.mk (ho)
  clear HO_10
  clear HO289
  clear HB
  clear HO_4
  have HO_10 := n0_
  have HO289 := n1_
  have HB := n2_
  have HO294 := n3_
  clear n0_ n1_ n2_ n3_
  clear ho hb hg hat
  refine hK.out _ _ ?_
  clear hK K
  refine norm_ (a' := ?_) ?_ ?_
  rotate_left
  ·show Act.put _ (some 37) _ = _
   simp only [Act.put, List.setIfInBounds_toArray, List.set_cons_zero, List.set_cons_succ, i64_w, i32_w]
   rfl
  refine purS_ (i := 10) (N := some 4) (fl_ 11 11) HT_.out ?_
  refine done_ (done_of HT_.out (by kernel_rfl)) ?_
  try go_wp2
  go_roundg k1
  case measure => have := HK1.out; omega
  case rel => exact ⟨(y292), (wrap64 (x12_1 + 1)), rt_, H', ⟨by have := HK1.out; omega⟩, ⟨kd_to HO294⟩, ⟨kd_to HO_10⟩, ⟨below_to HB⟩⟩
def laws_yLegs.l0 : Nat → List (S37) → List (S37) → Int → Int → Option (Bool)
 | 0, _, _, _, _ => none
 | k + 1, x0, x1, x12, x13 => if x13 < x12 then (if 0 ≤ x13 then (if x13 < (x0.length : Int) then (if x13 < (x1.length : Int) then (if (!(((rd_T37 x0 x13).f0) == ((rd_T37 x1 x13).f0)) || (!(((rd_T37 x0 x13).f1) == ((rd_T37 x1 x13).f1)))) = true then (some false) else (laws_yLegs.l0 k x0 x1 x12 (wrap64 (x13 + 1)))) else (none)) else (none)) else (none)) else (some true)
def laws_yLegs.f (k : Nat) (l0 : List (S37)) (l1 : List (S37)) : Option (Bool) := if (l0.length : Int) = (l1.length : Int) then (laws_yLegs.l0 k l0 l1 (l0.length : Int) 0) else (some false)
theorem laws_yLegs.calls (k : Nat) (A0 : Option Addr) (c0 : Nat) (l0 : List (S37)) (A1 : Option Addr) (c1 : Nat) (l1 : List (S37)) (r : Bool) (w : World) (hr0 : Kd.C k37 w A0 l0.length l0) (hc0 : l0.length ≤ c0) (hr1 : Kd.C k37 w A1 l1.length l1) (hc1 : l1.length ≤ c1) (h : laws_yLegs.f k l0 l1 = some r) :
  Calls Tryz.prog 24 #[.slice A0 l0.length c0, .slice A1 l1.length c1] w fun e w' => e = .returned (.bool r) ∧ Drawn0 w w' := by
 have hu37 := Tryz.underlying37
 have HR0 := Aside0.mk hr0
 have HC0 := Aside0.mk hc0
 clear hr0 hc0
 have HR1 := Aside0.mk hr1
 have HC1 := Aside0.mk hc1
 clear hr1 hc1
 have H := h
 unfold laws_yLegs.f at H
 clear h
 by_cases c3 : (l0.length : Int) = (l1.length : Int)
 rotate_left
 ·rw [if_neg c3] at H
  have c3b0 := beq_eq_false_iff_ne.mpr c3
  have c3b1 := bne_iff_ne.mpr c3
  have c3b2 : (l0.length == l1.length) = false := by first | simpa using c3 | (simp at c3 ⊢; omega)
  obtain rfl := Option.some.inj H
  go_enter Tryz.func24, Tryz.ntmps24
  go_wp2
  repeat (go_quiet (fail); try go_wp2)
  go_ret
  exact ⟨rt_, d0_⟩
 rw [if_pos c3] at H
 have c3b0 := beq_iff_eq.mpr c3
 have c3b1 := bne_eq_false_iff_eq.mpr c3
 have c3b2 : (l0.length == l1.length) = true := by first | simpa using c3 | (simp at c3 ⊢; omega)
 clear c3
 have H' := Aside0.mk H
 clear H
 go_enter Tryz.func24, Tryz.ntmps24
 go_wp2
 repeat (go_quiet (fail); try go_wp2)
 go_loopg [13] k (fun kq v13 w' => ∃ (x13_1 : Int), v13 = .int .i64 x13_1 ∧ Aside0 (laws_yLegs.l0 kq l0 l1 (l0.length : Int) x13_1 = some r) ∧ Aside0 (kq ≤ k) ∧ Drawn0 w w')
 case atStart => exact ⟨(0), rt_, H', ⟨Nat.le_refl _⟩, d0_⟩
 clear H'
 try clear c1
 try clear c2
 try clear p2
 try clear c3
 try clear c3b0
 try clear c3b1
 try clear c3b2
 obtain ⟨x13_1, rfl, HA, HK1, ⟨m1, rfl⟩⟩ := hrel
 cases gk with
 | zero => exact absurd HA.out (by simp [laws_yLegs.l0])
 | succ k1 =>
  have H := HA.out
  clear HA
  simp only [laws_yLegs.l0] at H
  by_cases c4 : x13_1 < (l0.length : Int)
  rotate_left
  ·rw [if_neg c4] at H
   have c4b0 := decide_eq_false c4
   clear c4
   obtain rfl := Option.some.inj H
   go_wp2
   repeat (go_quiet (fail); try go_wp2)
   go_ret
   exact ⟨rt_, d0_⟩
  rw [if_pos c4] at H
  have c4b0 := decide_eq_true c4
  clear c4
  by_cases c5 : 0 ≤ x13_1
  rotate_left
  ·rw [if_neg c5] at H
   cases H
  rw [if_pos c5] at H
  have c5b0 := decide_eq_true c5
  clear c5
  by_cases c6 : x13_1 < (l0.length : Int)
  rotate_left
  ·rw [if_neg c6] at H
   cases H
  rw [if_pos c6] at H
  have c6b0 := decide_eq_true c6
  clear c6
  by_cases c7 : x13_1 < (l1.length : Int)
  rotate_left
  ·rw [if_neg c7] at H
   cases H
  rw [if_pos c7] at H
  have c7b0 := decide_eq_true c7
  clear c7
  by_cases c8 : (!(((rd_T37 l0 x13_1).f0) == ((rd_T37 l1 x13_1).f0)) || (!(((rd_T37 l0 x13_1).f1) == ((rd_T37 l1 x13_1).f1)))) = true
  ·rw [if_pos c8] at H
   have c8b0 : (!(((rd_T37 l0 x13_1).f0) == ((rd_T37 l1 x13_1).f0)) || (!(((rd_T37 l0 x13_1).f1) == ((rd_T37 l1 x13_1).f1)))) = true := c8
   clear c8
   obtain rfl := Option.some.inj H
   have p296 : 0 ≤ (x13_1 : Int) := odt_
   have q296 : x13_1 < (l0.length : Int) := odt_
   obtain ⟨ad296, e296, hx296_0, hx296_1⟩ := at_T37 HR0.out x13_1 p296 q296
   cases e296
   replace p296 := eq_true p296
   replace q296 := eq_true q296
   have p297 : 0 ≤ (x13_1 : Int) := odt_
   have q297 : x13_1 < (l1.length : Int) := odt_
   obtain ⟨ad297, e297, hx297_0, hx297_1⟩ := at_T37 HR1.out x13_1 p297 q297
   cases e297
   replace p297 := eq_true p297
   replace q297 := eq_true q297
   go_wp2
   repeat (go_quiet (fail); try go_wp2)
   go_ret
   exact ⟨rt_, d0_⟩
  ·rw [if_neg c8] at H
   have c8b0 : (!(((rd_T37 l0 x13_1).f0) == ((rd_T37 l1 x13_1).f0)) || (!(((rd_T37 l0 x13_1).f1) == ((rd_T37 l1 x13_1).f1)))) = false := by simpa using c8
   clear c8
   have H' := Aside0.mk H
   clear H
   have p296 : 0 ≤ (x13_1 : Int) := odt_
   have q296 : x13_1 < (l0.length : Int) := odt_
   obtain ⟨ad296, e296, hx296_0, hx296_1⟩ := at_T37 HR0.out x13_1 p296 q296
   cases e296
   replace p296 := eq_true p296
   replace q296 := eq_true q296
   have p297 : 0 ≤ (x13_1 : Int) := odt_
   have q297 : x13_1 < (l1.length : Int) := odt_
   obtain ⟨ad297, e297, hx297_0, hx297_1⟩ := at_T37 HR1.out x13_1 p297 q297
   cases e297
   replace p297 := eq_true p297
   replace q297 := eq_true q297
   go_wp2
   repeat (go_quiet (fail); try go_wp2)
   go_roundg k1
   case measure => have := HK1.out; omega
   case rel => exact ⟨(wrap64 (x13_1 + 1)), rt_, H', ⟨by have := HK1.out; omega⟩, d0_⟩
def spec_reMoment.f (a0 : Int) (a1 : Int) : Option (Bool) := (spec_l1In.f a0 0 100000).bind fun t298 => (if t298 = true then ((spec_l1In.f a1 1 1000).bind fun t299 => (some t299)) else (some false))
theorem spec_reMoment.calls (a0 : Int) (a1 : Int) (r : Bool) (w : World) (h : spec_reMoment.f a0 a1 = some r) :
  Calls Tryz.prog 57 #[.int .i64 a0, .int .i64 a1] w fun e w' => e = .returned (.bool r) ∧ Drawn0 w w' := by
 have H := h
 unfold spec_reMoment.f at H
 clear h
 replace H := Option.bind_eq_some_iff.mp H
 obtain ⟨t298, A30, H⟩ := H
 (try dsimp only at H)
 have A3 := Aside0.mk A30
 clear A30
 by_cases c4 : t298 = true
 ·subst c4
  rw [if_pos rfl] at H
  replace H := Option.bind_eq_some_iff.mp H
  obtain ⟨t299, A50, H⟩ := H
  replace H : (some t299) = some r := H
  have A5 := Aside0.mk A50
  clear A50
  obtain rfl := Option.some.inj H
  go_enter Tryz.func57, Tryz.ntmps57
  go_wp2_with (first | ((with_reducible refine gate_callee (f := 72) rfl ?_); refine goesL_ (some 6) rfl rfl Tryz.func72 (by kernel_rfl) rfl #[.int .i64 a0, .int .i64 0, .int .i64 100000] rfl am_ ?_; (with_reducible refine (spec_l1In.calls a0 0 100000 true _ A3.out).mono ?_); rintro e w' ⟨rfl, ⟨nd, rfl⟩⟩; refine ⟨_, rfl, ?_⟩) | (go_at_call 72; (with_reducible refine (spec_l1In.calls a1 1 1000 t299 _ A5.out).mono ?_); rintro e w' ⟨rfl, ⟨nd, rfl⟩⟩))
  go_ret
  exact ⟨rt_, d0_⟩
 ·replace c4 := Bool.eq_false_iff.mpr c4
  subst c4
  rw [if_neg ft_] at H
  obtain rfl := Option.some.inj H
  go_enter Tryz.func57, Tryz.ntmps57
  go_wp2_with (first | ((with_reducible refine gate_callee (f := 72) rfl ?_); refine goesL_ (some 6) rfl rfl Tryz.func72 (by kernel_rfl) rfl #[.int .i64 a0, .int .i64 0, .int .i64 100000] rfl am_ ?_; (with_reducible refine (spec_l1In.calls a0 0 100000 false _ A3.out).mono ?_); rintro e w' ⟨rfl, ⟨nd, rfl⟩⟩; refine ⟨_, rfl, ?_⟩))
  go_ret
  exact ⟨rt_, d0_⟩
def spec_reOn.l0 : Nat → List (S37) → Int → Int → Int → Option (Int)
 | 0, _, _, _, _ => none
 | k + 1, x0, x1, x2, x7 => if x7 < (x0.length : Int) then (if 0 ≤ (wrap64 (x7 + 1)) then (if (wrap64 (x7 + 1)) ≤ (x0.length : Int) then ((spec_reTime.f k (x0.take ((wrap64 (x7 + 1)) : Int).toNat)).bind fun bt304 => (if (wrap64 (x1 * bt304.2)) < (wrap64 (bt304.1 * x2)) then (some x7) else (spec_reOn.l0 k x0 x1 x2 (wrap64 (x7 + 1))))) else (none)) else (none)) else (some x7)
def spec_reOn.f (k : Nat) (l0 : List (S37)) (a1 : Int) (a2 : Int) : Option (Int) := spec_reOn.l0 k l0 a1 a2 0
theorem spec_reOn.calls (k : Nat) (A0 : Option Addr) (c0 : Nat) (l0 : List (S37)) (a1 : Int) (a2 : Int) (r : Int) (w : World) (hr0 : Kd.C k37 w A0 l0.length l0) (hc0 : l0.length ≤ c0) (h : spec_reOn.f k l0 a1 a2 = some r) :
  Calls Tryz.prog 58 #[.slice A0 l0.length c0, .int .i64 a1, .int .i64 a2] w fun e w' => e = .returned (.int .i64 r) ∧ Below w.heap.size w w' := by
 have HR0 := Aside0.mk hr0
 have HC0 := Aside0.mk hc0
 clear hr0 hc0
 have HB := Aside0.mk (Below.refl w.heap.size w)
 have H : (spec_reOn.l0 k l0 a1 a2 0) = some r := h
 clear h
 have H' := Aside0.mk H
 clear H
 go_enter Tryz.func58, Tryz.ntmps58
 go_wp2
 go_loopg [7] k (fun kq v7 w' => ∃ (x7_1 : Int), v7 = .int .i64 x7_1 ∧ Aside0 (spec_reOn.l0 kq l0 a1 a2 x7_1 = some r) ∧ Aside0 (kq ≤ k) ∧ Aside0 (Below w.heap.size w w'))
 case atStart => exact ⟨(0), rt_, H', ⟨Nat.le_refl _⟩, ⟨below_to HB⟩⟩
 clear H'
 try clear p2
 obtain ⟨x7_1, rfl, HA, HK1, HB⟩ := hrel
 cases gk with
 | zero => exact absurd HA.out (by simp [spec_reOn.l0])
 | succ k1 =>
  have H := HA.out
  clear HA
  simp only [spec_reOn.l0] at H
  by_cases c4 : x7_1 < (l0.length : Int)
  rotate_left
  ·rw [if_neg c4] at H
   have c4b0 := decide_eq_false c4
   clear c4
   obtain rfl := Option.some.inj H
   go_wp2
   go_ret
   exact ⟨rtE_, below_to HB⟩
  rw [if_pos c4] at H
  have c4b0 := decide_eq_true c4
  clear c4
  obtain ⟨ji5, hji5⟩ : ∃ j_ : Int, (wrap64 (x7_1 + 1)) = j_ := ⟨_, rfl⟩
  replace H : (if 0 ≤ (ji5) then (if (ji5) ≤ (l0.length : Int) then ((spec_reTime.f k1 (l0.take ((ji5) : Int).toNat)).bind fun bt304 => (if (wrap64 (a1 * bt304.2)) < (wrap64 (bt304.1 * a2)) then (some x7_1) else (spec_reOn.l0 k1 l0 a1 a2 ji5))) else (none)) else (none)) = some r := by first | (rw [hji5] at H; exact H) | (simp only [hji5] at H ⊢; exact H)
  have hji5w : (IntKind.i64.wrap (x7_1 + 1)) = ji5 := (i64_w _).trans hji5
  by_cases c6 : 0 ≤ (ji5)
  rotate_left
  ·rw [if_neg c6] at H
   cases H
  rw [if_pos c6] at H
  have c6b0 := eq_true c6
  have c6b1 := decide_eq_true c6
  clear c6
  by_cases c7 : (ji5) ≤ (l0.length : Int)
  rotate_left
  ·rw [if_neg c7] at H
   cases H
  rw [if_pos c7] at H
  have c7b0 := eq_true c7
  have c7b1 := decide_eq_true c7
  clear c7
  obtain ⟨y300, hy300⟩ : ∃ y_ : List (S37), y_ = (l0.take ((ji5) : Int).toNat) := ⟨_, rfl⟩
  replace H : ((spec_reTime.f k1 y300).bind fun bt304 => (if (wrap64 (a1 * bt304.2)) < (wrap64 (bt304.1 * a2)) then (some x7_1) else (spec_reOn.l0 k1 l0 a1 a2 ji5))) = some r := by first | (rw [hy300]; with_reducible exact H) | (have H2_ := (Option.bind_some _ _).symm.trans H; rw [hy300]; with_reducible exact H2_) | (have H2_ := (Option.bind_some _ _).symm.trans H; with_reducible exact H2_) | with_reducible exact H | (rw [hy300]; exact H) | exact H
  have Ny300 := Aside0.mk hy300
  clear hy300
  replace H := Option.bind_eq_some_iff.mp H
  obtain ⟨⟨t304, t305⟩, A80, H⟩ := H
  (try dsimp only at H)
  have A8 := Aside0.mk A80
  clear A80
  by_cases c9 : (wrap64 (a1 * t305)) < (wrap64 (t304 * a2))
  ·rw [if_pos c9] at H
   have c9b0 := decide_eq_true c9
   clear c9
   obtain rfl := Option.some.inj H
   have q10 : ((ji5) : Int) ≤ ((l0.length : Int) : Int) := odt_
   obtain ⟨i010, hi010, _, hsz10, _⟩ := info_parts info37
   have hroom10 : l0.length ≤ c0 := HC0.out
   have hC10 : Kd.C k37 _ A0 l0.length l0 := HR0.out
   have hcut10 := cut_to (P := Tryz.prog) 22 37 .i64 Tryz.underlying22 hi010 A0 l0.length c0 (ji5) (of_decide_eq_true (by first | (with_reducible assumption) | assumption)) q10 hroom10
   have hr10 := Kd.C_take (m := ((ji5) : Int).toNat) hC10 (by omega)
   have hy10 : y300.length = ((ji5) : Int).toNat := (by rw [Ny300.out, List.length_take]; omega)
   rw [← Ny300.out] at hr10
   rw [← hy10] at hcut10
   have HR303 := Aside0.mk hr10
   have HC303 := Aside0.mk (show y300.length ≤ c0 from by omega)
   clear hr10 hC10 hroom10 hi010 hsz10
   have KY10 := Aside0.mk hy10
   clear hy10
   replace q10 := eq_true q10
   go_wp2_with (first | ((with_reducible refine gate_callee (f := 39) rfl ?_); refine goesL_ (some 19) rfl rfl Tryz.func39 (by kernel_rfl) rfl #[.slice A0 y300.length c0] rfl am_ ?_; (with_reducible refine (spec_reTime.calls k1 _ _ y300 t304 t305 _ ?side1 ?side2 A8.out).mono ?_); (case side1 => exact cb_ HR303 HB); (case side2 => exact HC303.out); rintro e w11 ⟨rfl, hb⟩; refine ⟨_, rfl, ?_⟩; replace HB := Aside0.mk (below_step (below_to HB) hb); clear hb))
   go_ret
   exact ⟨by first | rfl | (simp [errW_none, errW_some] <;> rfl) | (simp only [← hji5]; first | rfl | (simp [errW_none, errW_some] <;> rfl)) | (simp [*, errW_none, errW_some] <;> rfl), below_to HB⟩
  rw [if_neg c9] at H
  have c9b0 := decide_eq_false c9
  clear c9
  have H' := Aside0.mk H
  clear H
  have q12 : ((ji5) : Int) ≤ ((l0.length : Int) : Int) := odt_
  obtain ⟨i012, hi012, _, hsz12, _⟩ := info_parts info37
  have hroom12 : l0.length ≤ c0 := HC0.out
  have hC12 : Kd.C k37 _ A0 l0.length l0 := HR0.out
  have hcut12 := cut_to (P := Tryz.prog) 22 37 .i64 Tryz.underlying22 hi012 A0 l0.length c0 (ji5) (of_decide_eq_true (by first | (with_reducible assumption) | assumption)) q12 hroom12
  have hr12 := Kd.C_take (m := ((ji5) : Int).toNat) hC12 (by omega)
  have hy12 : y300.length = ((ji5) : Int).toNat := (by rw [Ny300.out, List.length_take]; omega)
  rw [← Ny300.out] at hr12
  rw [← hy12] at hcut12
  have HR303 := Aside0.mk hr12
  have HC303 := Aside0.mk (show y300.length ≤ c0 from by omega)
  clear hr12 hC12 hroom12 hi012 hsz12
  have KY12 := Aside0.mk hy12
  clear hy12
  replace q12 := eq_true q12
  go_wp2_with (first | ((with_reducible refine gate_callee (f := 39) rfl ?_); refine goesL_ (some 19) rfl rfl Tryz.func39 (by kernel_rfl) rfl #[.slice A0 y300.length c0] rfl am_ ?_; (with_reducible refine (spec_reTime.calls k1 _ _ y300 t304 t305 _ ?side1 ?side2 A8.out).mono ?_); (case side1 => exact cb_ HR303 HB); (case side2 => exact HC303.out); rintro e w13 ⟨rfl, hb⟩; refine ⟨_, rfl, ?_⟩; replace HB := Aside0.mk (below_step (below_to HB) hb); clear hb))
  go_roundg k1
  case measure => have := HK1.out; omega
  case rel => exact ⟨(ji5), (by first | rfl | (simp; done) | (simp only [← hji5] <;> (first | rfl | simp)) | (simp [*]; done)), H', ⟨by have := HK1.out; omega⟩, ⟨below_to HB⟩⟩
end Go.Proofs.YtbhnpccbjgbcbaaGreatDoor.QD
