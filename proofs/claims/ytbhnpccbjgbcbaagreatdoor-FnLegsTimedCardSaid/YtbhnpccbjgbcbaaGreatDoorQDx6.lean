import Derived.Test.YtbhnpccbjgbcbaaGreatDoorQDx5
namespace Go.Proofs.YtbhnpccbjgbcbaaGreatDoor.QD
open Go.Proofs.YtbhnpccbjgbcbaaGreatDoor.X Go.RowKit Go.Proofs.YtbhnpccbjgbcbaaGreatDoorW.PrintWords Go.Proofs.YtbhnpccbjgbcbaaGreatDoorW.PrintLast Go.Proofs.YtbhnpccbjgbcbaaGreatDoorW.PrintMore
set_option maxHeartbeats 8000000
set_option maxRecDepth 100000
attribute [local go_sem] max2_int min2_int max_two min_two max_three min_three max_four min_four
set_option linter.unusedVariables false
set_option linter.unusedSimpArgs false
def spec_reText.l0 : Nat → ByteArray → List (S37) → Int → Int → Option (ByteArray)
 | 0, _, _, _, _ => none
 | k + 1, x3, x6, x7, x8 => if x8 < x7 then (if 0 ≤ x8 then (if x8 < (x6.length : Int) then (if x8 > 0 then (if x3.size + 1 ≤ 9223372036854775807 then ((spec_l1Num.f k ((rd_T37 x6 x8).f0)).bind fun t226 => (if t226.size + 1 ≤ 9223372036854775807 then ((spec_l1Num.f k ((rd_T37 x6 x8).f1)).bind fun t227 => (if (t226 ++ (⟨#[47]⟩ : ByteArray)).size + t227.size ≤ 9223372036854775807 then (if (x3 ++ (⟨#[43]⟩ : ByteArray)).size + ((t226 ++ (⟨#[47]⟩ : ByteArray)) ++ t227).size ≤ 9223372036854775807 then (spec_reText.l0 k ((x3 ++ (⟨#[43]⟩ : ByteArray)) ++ ((t226 ++ (⟨#[47]⟩ : ByteArray)) ++ t227)) x6 x7 (wrap64 (x8 + 1))) else (none)) else (none))) else (none))) else (none)) else ((spec_l1Num.f k ((rd_T37 x6 x8).f0)).bind fun t228 => (if t228.size + 1 ≤ 9223372036854775807 then ((spec_l1Num.f k ((rd_T37 x6 x8).f1)).bind fun t229 => (if (t228 ++ (⟨#[47]⟩ : ByteArray)).size + t229.size ≤ 9223372036854775807 then (if x3.size + ((t228 ++ (⟨#[47]⟩ : ByteArray)) ++ t229).size ≤ 9223372036854775807 then (spec_reText.l0 k (x3 ++ ((t228 ++ (⟨#[47]⟩ : ByteArray)) ++ t229)) x6 x7 (wrap64 (x8 + 1))) else (none)) else (none))) else (none)))) else (none)) else (none)) else (some x3)
def spec_reText.f (k : Nat) (l0 : List (S37)) : Option (ByteArray) := spec_reText.l0 k (⟨#[]⟩ : ByteArray) l0 (l0.length : Int) 0
def spec_reText.T7 : Bool × List (List Nat × List Nat) := (true, [([], []), ([], []), ([1], [1]), ([2], [2]), ([3], [3]), ([], []), ([5], [5]), ([6, 3], [6]), ([4, 7], [4, 7]), ([0, 8], [0, 8]), ([9, 7, 0, 1, 2, 3, 4, 5, 6, 7, 8, 9], [0, 9])])
def spec_reText.B7 : List Nat := [0, 0, 2, 6, 14, 0, 32, 110, 254, 511, 1023]
theorem spec_reText.tab7 : rtab .any (opsOf Tryz.f46 7) = spec_reText.T7 := by kernel_rfl
theorem spec_reText.bits7 : waitsOk spec_reText.T7.2 spec_reText.B7 = true := by kernel_rfl
theorem spec_reText.calls (k : Nat) (A0 : Option Addr) (c0 : Nat) (l0 : List (S37)) (r : ByteArray) (w : World) (hr0 : Kd.C k37 w A0 l0.length l0) (hc0 : l0.length ≤ c0) (h : spec_reText.f k l0 = some r) :
  Calls Tryz.prog 46 #[.slice A0 l0.length c0] w fun e w' => e = .returned (.string r) ∧ Below w.heap.size w w' := by
 have hu37 := Tryz.underlying37
 have HR0 := Aside0.mk hr0
 have HC0 := Aside0.mk hc0
 clear hr0 hc0
 have HB := Aside0.mk (Below.refl w.heap.size w)
 have H := h
 unfold spec_reText.f at H
 clear h
 have H' := Aside0.mk H
 clear H
 go_enter Tryz.func46, Tryz.ntmps46
 go_wp2
 go_loopg [3, 8] k (fun kq v3 v8 w' => ∃ (x3_1 : ByteArray) (x8_1 : Int), v3 = .string x3_1 ∧ v8 = .int .i64 x8_1 ∧ Aside0 (spec_reText.l0 kq x3_1 l0 (l0.length : Int) x8_1 = some r) ∧ Aside0 (kq ≤ k) ∧ Aside0 (Below w.heap.size w w'))
 case atStart => exact ⟨((⟨#[]⟩ : ByteArray)), (0), rt_, rt_, H', ⟨Nat.le_refl _⟩, ⟨below_to HB⟩⟩
 clear H'
 obtain ⟨x3_1, x8_1, rfl, rfl, HA, HK1, HB⟩ := hrel
 cases gk with
 | zero => exact absurd HA.out (by simp [spec_reText.l0])
 | succ k1 =>
  have H := HA.out
  clear HA
  simp only [spec_reText.l0] at H
  by_cases c2 : x8_1 < (l0.length : Int)
  rotate_left
  ·rw [if_neg c2] at H
   have c2b0 := decide_eq_false c2
   clear c2
   obtain rfl := Option.some.inj H
   go_wp2
   go_ret
   exact ⟨rtE_, below_to HB⟩
  rw [if_pos c2] at H
  have c2b0 := decide_eq_true c2
  clear c2
  by_cases c3 : 0 ≤ x8_1
  rotate_left
  ·rw [if_neg c3] at H
   cases H
  rw [if_pos c3] at H
  have c3b0 := decide_eq_true c3
  clear c3
  by_cases c4 : x8_1 < (l0.length : Int)
  rotate_left
  ·rw [if_neg c4] at H
   cases H
  rw [if_pos c4] at H
  have c4b0 := decide_eq_true c4
  clear c4
  by_cases c5 : x8_1 > 0
  rotate_left
  ·rw [if_neg c5] at H
   have c5b0 := decide_eq_false c5
   clear c5
   replace H := Option.bind_eq_some_iff.mp H
   obtain ⟨t228, A180, H⟩ := H
   (try dsimp only at H)
   have A18 := Aside0.mk A180
   clear A180
   by_cases c19 : t228.size + 1 ≤ 9223372036854775807
   rotate_left
   ·rw [if_neg c19] at H
    cases H
   rw [if_pos c19] at H
   have c19b0 := eq_true c19
   have c19b1 := decide_eq_true c19
   try have c19b2 : (9223372036854775807 < t228.size + 1) = False := eq_false (Nat.not_lt.2 c19)
   replace H := Option.bind_eq_some_iff.mp H
   obtain ⟨t229, A200, H⟩ := H
   (try dsimp only at H)
   have A20 := Aside0.mk A200
   clear A200
   by_cases c21 : (t228 ++ (⟨#[47]⟩ : ByteArray)).size + t229.size ≤ 9223372036854775807
   rotate_left
   ·rw [if_neg c21] at H
    cases H
   rw [if_pos c21] at H
   have c21b0 := eq_true c21
   have c21b1 := decide_eq_true c21
   try have c21b2 : (9223372036854775807 < (t228 ++ (⟨#[47]⟩ : ByteArray)).size + t229.size) = False := eq_false (Nat.not_lt.2 c21)
   have c21b8 : (9223372036854775807 < t228.size + 1 + t229.size) = False := eq_false (by have h_ := c21; simp only [ByteArray.size_append] at h_; have : (⟨#[47]⟩ : ByteArray).size = 1 := rfl; omega)
   have c21b9 : decide (t228.size + 1 + t229.size ≤ 9223372036854775807) = true := decide_eq_true (by have h_ := c21; simp only [ByteArray.size_append] at h_; have : (⟨#[47]⟩ : ByteArray).size = 1 := rfl; omega)
   by_cases c22 : x3_1.size + ((t228 ++ (⟨#[47]⟩ : ByteArray)) ++ t229).size ≤ 9223372036854775807
   rotate_left
   ·rw [if_neg c22] at H
    cases H
   rw [if_pos c22] at H
   have c22b0 := eq_true c22
   have c22b1 := decide_eq_true c22
   try have c22b2 : (9223372036854775807 < x3_1.size + ((t228 ++ (⟨#[47]⟩ : ByteArray)) ++ t229).size) = False := eq_false (Nat.not_lt.2 c22)
   have c22b8 : (9223372036854775807 < x3_1.size + (t228.size + 1 + t229.size)) = False := eq_false (by have h_ := c22; simp only [ByteArray.size_append] at h_; have : (⟨#[47]⟩ : ByteArray).size = 1 := rfl; omega)
   have c22b9 : decide (x3_1.size + (t228.size + 1 + t229.size) ≤ 9223372036854775807) = true := decide_eq_true (by have h_ := c22; simp only [ByteArray.size_append] at h_; have : (⟨#[47]⟩ : ByteArray).size = 1 := rfl; omega)
   have H' := Aside0.mk H
   clear H
   have p224 : 0 ≤ (x8_1 : Int) := odt_
   have q224 : x8_1 < (l0.length : Int) := odt_
   obtain ⟨ad224, e224, hx224_0, hx224_1⟩ := at_T37 HR0.out x8_1 p224 q224
   cases e224
   replace hx224_0 := bx_ HB hx224_0
   replace hx224_1 := bx_ HB hx224_1
   replace p224 := eq_true p224
   replace q224 := eq_true q224
   try go_wp2_with (first | ((with_reducible refine gate_dst (N := 5) rfl ?_); refine box_event ?hg (N := 5) ?hd (cs := #[.int .i64 0, .int .i64 0]) (t := 37) ?hr ?_; (case hd => rfl); (case hg => rfl); (case hr => first | (go_simp; done) | (go_simp; rfl)); intro gb225 hg w23 hbox hb; have n0_ := Aside0.mk (below_step (below_to HB) hb); have n1_ := Aside0.mk (hbox); have n2_ := Aside0.mk ((by rw [hg]; exact (below_size (below_to HB)) : w.heap.size ≤ gb225)); have n3_ := Aside0.mk ((by rw [hg]; exact (below_size (below_to HB)) : w.heap.size ≤ gb225)); clear HB; have HB := n0_; have BK225 := n1_; have GW225 := n2_; have GE225 := n3_; clear n0_ n1_ n2_ n3_; clear hb hbox hg; have hcz24_0 : w23.cell? ⟨gb225, 0, none⟩ = some (.int .i64 0) := (blk_cell BK225.out 0).trans rfl; have hcz24_1 : w23.cell? ⟨gb225, 1, none⟩ = some (.int .i64 0) := (blk_cell BK225.out 1).trans rfl; have hfz24_0 := blk_frozen BK225.out 0; have hfz24_1 := blk_frozen BK225.out 1))
   have n0_ : Aside0 (((w23.setCell ⟨gb225, 0, none⟩ (.int .i64 ((rd_T37 l0 x8_1).f0))).setCell ⟨gb225, 1, none⟩ (.int .i64 ((rd_T37 l0 x8_1).f1))).heap[gb225]? = some (.cells #[.int .i64 ((rd_T37 l0 x8_1).f0), .int .i64 ((rd_T37 l0 x8_1).f1)] 37 (0, 0))) := ⟨by (with_reducible repeat (first | refine blk_drewN ?_ _ | refine blk_drew ?_ | refine blk_alloc ?_ _)); refine blk_put (cs := #[.int .i64 ((rd_T37 l0 x8_1).f0), .int .i64 0]) ?_ 1 _ rfl; (with_reducible repeat (first | refine blk_drewN ?_ _ | refine blk_drew ?_ | refine blk_alloc ?_ _)); refine blk_put (cs := #[.int .i64 0, .int .i64 0]) ?_ 0 _ rfl; (with_reducible repeat (first | refine blk_drewN ?_ _ | refine blk_drew ?_ | refine blk_alloc ?_ _)); exact BK225.out⟩
   have n1_ : Aside0 (Below w.heap.size w ((w23.setCell ⟨gb225, 0, none⟩ (.int .i64 ((rd_T37 l0 x8_1).f0))).setCell ⟨gb225, 1, none⟩ (.int .i64 ((rd_T37 l0 x8_1).f1)))) := ⟨below_to1 HB GE225.out⟩
   (try clear BK225)
   (try clear HB)
   generalize ((w23.setCell ⟨gb225, 0, none⟩ (.int .i64 ((rd_T37 l0 x8_1).f0))).setCell ⟨gb225, 1, none⟩ (.int .i64 ((rd_T37 l0 x8_1).f1))) = w25 at n0_ n1_ ⊢
   have BK225 := n0_
   have HB := n1_
   clear n0_ n1_
   have n0_ := Aside0.mk (blk_drew BK225.out)
   have n1_ := Aside0.mk (below_drew1 HB.out)
   clear BK225
   clear HB
   have BK225 := n0_
   have HB := n1_
   clear n0_ n1_
   refine start_ (n := 11) (S := fun w' => w'.cell? ⟨gb225, 0, none⟩ = some (.int .i64 ((rd_T37 l0 x8_1).f0)) ∧ w'.cell? ⟨gb225, 1, none⟩ = some (.int .i64 ((rd_T37 l0 x8_1).f1))) (ds := []) #[false, false, false, false, false, false, false, false, false, false, false] (by kernel_rfl) rfl rfl ⟨(blk_cell BK225.out 0).trans rfl, (blk_cell BK225.out 1).trans rfl⟩ (fun hHeld => ?_); refine with_tabW spec_reText.tab7 spec_reText.bits7 (fun HT_ HW_ => ?_)
   generalize w25.drew = w26 at BK225 HB hHeld ⊢
   refine purS_ (i := 0) (N := some 17) (fl_ 11 1) HT_.out ?_
   refine purS_ (i := 1) (N := some 18) (fl_ 11 2) HT_.out ?_
   refine purS_ (i := 5) (N := some 22) #[true, true, false, false, false, true, false, false, false, false, false] HT_.out ?_
   refine take_ (i := 2) (N := some 19) (v := ?_) (a' := ?_) #[true, true, true, false, false, true, false, false, false, false, false] rfl rfl (take_ofW HT_.out HW_.out (by kernel_rfl)) (fun _ _ _ h => h) (Or.inl ⟨by rfl, ?_⟩) hHeld ?_ ?_
   rotate_left
   ·rintro w' ⟨s0, s1⟩
    go_simp
    with_reducible rfl
   rotate_left
   ·simp only [Act.put, List.setIfInBounds_toArray, List.set_cons_zero, List.set_cons_succ, i64_w, i32_w]
    rfl
   refine take_ (i := 6) (N := some 23) (v := ?_) (a' := ?_) #[true, true, true, false, false, true, true, false, false, false, false] rfl rfl (take_ofW HT_.out HW_.out (by kernel_rfl)) (fun _ _ _ h => h) (Or.inl ⟨by rfl, ?_⟩) hHeld ?_ ?_
   rotate_left
   ·rintro w' ⟨s0, s1⟩
    go_simp
    with_reducible rfl
   rotate_left
   ·simp only [Act.put, List.setIfInBounds_toArray, List.set_cons_zero, List.set_cons_succ, i64_w, i32_w]
    rfl
   refine one_ (i := 3) (N := some 20) #[true, true, true, true, false, true, true, false, false, false, false] rfl rfl (one_of HT_.out (by kernel_rfl)) (by decide) (fun K hK => ?_)
   refine goes_ Tryz.func78 (by kernel_rfl) rfl #[.int .i64 ((rd_T37 l0 x8_1).f0)] (by rfl) rfl rfl am_ ?_
   with_reducible refine (spec_l1Num.calls k1 ((rd_T37 l0 x8_1).f0) t228 _ A18.out).mono ?_
   rintro e w27 ⟨rfl, hb⟩
   refine ⟨_, rfl, ?_⟩
   have n0_ := Aside0.mk (blk_below (blk_to BK225) hb)
   have n1_ := Aside0.mk (below_step (below_to1 HB GE225.out) hb)
   clear BK225
   clear HB
   have BK225 := n0_
   have HB := n1_
   clear n0_ n1_
   (try clear hb)
   (try clear hb2)
   (try clear hk)
   (try clear hi)
   refine hK.out _ _ ⟨(blk_cell BK225.out 0).trans rfl, (blk_cell BK225.out 1).trans rfl⟩ (fun hHeld => ?_)
   clear hK K
   refine norm_ (a' := ?_) ?_ ?_
   rotate_left
   ·show Act.put _ (some 20) _ = _
    simp only [Act.put, List.setIfInBounds_toArray, List.set_cons_zero, List.set_cons_succ, i64_w, i32_w]
    rfl
   refine purS_ (i := 4) (N := some 21) (fl_ 11 7) HT_.out ?_
   refine one_ (i := 7) (N := some 24) #[true, true, true, true, true, true, true, true, false, false, false] rfl rfl (one_of HT_.out (by kernel_rfl)) (by decide) (fun K hK => ?_)
   refine goes_ Tryz.func78 (by kernel_rfl) rfl #[.int .i64 ((rd_T37 l0 x8_1).f1)] (by rfl) rfl rfl am_ ?_
   with_reducible refine (spec_l1Num.calls k1 ((rd_T37 l0 x8_1).f1) t229 _ A20.out).mono ?_
   rintro e w28 ⟨rfl, hb⟩
   refine ⟨_, rfl, ?_⟩
   have n0_ := Aside0.mk (blk_below (blk_to BK225) hb)
   have n1_ := Aside0.mk (below_step (below_to1 HB GE225.out) hb)
   clear BK225
   clear HB
   have BK225 := n0_
   have HB := n1_
   clear n0_ n1_
   (try clear hb)
   (try clear hb2)
   (try clear hk)
   (try clear hi)
   refine hK.out _ _ ⟨(blk_cell BK225.out 0).trans rfl, (blk_cell BK225.out 1).trans rfl⟩ (fun hHeld => ?_)
   clear hK K
   refine norm_ (a' := ?_) ?_ ?_
   rotate_left
   ·show Act.put _ (some 24) _ = _
    simp only [Act.put, List.setIfInBounds_toArray, List.set_cons_zero, List.set_cons_succ, i64_w, i32_w]
    rfl
   refine purS_ (i := 8) (N := some 25) (fl_ 11 9) HT_.out ?_
   refine purS_ (i := 9) (N := some 26) (fl_ 11 10) HT_.out ?_
   refine purS_ (i := 10) (N := some 3) (fl_ 11 11) HT_.out ?_
   refine done_ (done_of HT_.out (by kernel_rfl)) ?_
   try go_wp2
   go_roundg k1
   case measure => have := HK1.out; omega
   case rel => exact ⟨(x3_1 ++ ((t228 ++ (⟨#[47]⟩ : ByteArray)) ++ t229)), (wrap64 (x8_1 + 1)), rt_, rt_, H', ⟨by have := HK1.out; omega⟩, ⟨below_to1 HB GE225.out⟩⟩
  rw [if_pos c5] at H
  have c5b0 := decide_eq_true c5
  clear c5
  by_cases c6 : x3_1.size + 1 ≤ 9223372036854775807
  rotate_left
  ·rw [if_neg c6] at H
   cases H
  rw [if_pos c6] at H
  have c6b0 := eq_true c6
  have c6b1 := decide_eq_true c6
  try have c6b2 : (9223372036854775807 < x3_1.size + 1) = False := eq_false (Nat.not_lt.2 c6)
  replace H := Option.bind_eq_some_iff.mp H
  obtain ⟨t226, A70, H⟩ := H
  (try dsimp only at H)
  have A7 := Aside0.mk A70
  clear A70
  by_cases c8 : t226.size + 1 ≤ 9223372036854775807
  rotate_left
  ·rw [if_neg c8] at H
   cases H
  rw [if_pos c8] at H
  have c8b0 := eq_true c8
  have c8b1 := decide_eq_true c8
  try have c8b2 : (9223372036854775807 < t226.size + 1) = False := eq_false (Nat.not_lt.2 c8)
  replace H := Option.bind_eq_some_iff.mp H
  obtain ⟨t227, A90, H⟩ := H
  (try dsimp only at H)
  have A9 := Aside0.mk A90
  clear A90
  by_cases c10 : (t226 ++ (⟨#[47]⟩ : ByteArray)).size + t227.size ≤ 9223372036854775807
  rotate_left
  ·rw [if_neg c10] at H
   cases H
  rw [if_pos c10] at H
  have c10b0 := eq_true c10
  have c10b1 := decide_eq_true c10
  try have c10b2 : (9223372036854775807 < (t226 ++ (⟨#[47]⟩ : ByteArray)).size + t227.size) = False := eq_false (Nat.not_lt.2 c10)
  have c10b8 : (9223372036854775807 < t226.size + 1 + t227.size) = False := eq_false (by have h_ := c10; simp only [ByteArray.size_append] at h_; have : (⟨#[47]⟩ : ByteArray).size = 1 := rfl; omega)
  have c10b9 : decide (t226.size + 1 + t227.size ≤ 9223372036854775807) = true := decide_eq_true (by have h_ := c10; simp only [ByteArray.size_append] at h_; have : (⟨#[47]⟩ : ByteArray).size = 1 := rfl; omega)
  by_cases c11 : (x3_1 ++ (⟨#[43]⟩ : ByteArray)).size + ((t226 ++ (⟨#[47]⟩ : ByteArray)) ++ t227).size ≤ 9223372036854775807
  rotate_left
  ·rw [if_neg c11] at H
   cases H
  rw [if_pos c11] at H
  have c11b0 := eq_true c11
  have c11b1 := decide_eq_true c11
  try have c11b2 : (9223372036854775807 < (x3_1 ++ (⟨#[43]⟩ : ByteArray)).size + ((t226 ++ (⟨#[47]⟩ : ByteArray)) ++ t227).size) = False := eq_false (Nat.not_lt.2 c11)
  have c11b8 : (9223372036854775807 < x3_1.size + 1 + (t226.size + 1 + t227.size)) = False := eq_false (by have h_ := c11; simp only [ByteArray.size_append] at h_; have : (⟨#[43]⟩ : ByteArray).size = 1 := rfl; have : (⟨#[47]⟩ : ByteArray).size = 1 := rfl; omega)
  have c11b9 : decide (x3_1.size + 1 + (t226.size + 1 + t227.size) ≤ 9223372036854775807) = true := decide_eq_true (by have h_ := c11; simp only [ByteArray.size_append] at h_; have : (⟨#[43]⟩ : ByteArray).size = 1 := rfl; have : (⟨#[47]⟩ : ByteArray).size = 1 := rfl; omega)
  have H' := Aside0.mk H
  clear H
  have p224 : 0 ≤ (x8_1 : Int) := odt_
  have q224 : x8_1 < (l0.length : Int) := odt_
  obtain ⟨ad224, e224, hx224_0, hx224_1⟩ := at_T37 HR0.out x8_1 p224 q224
  cases e224
  replace hx224_0 := bx_ HB hx224_0
  replace hx224_1 := bx_ HB hx224_1
  replace p224 := eq_true p224
  replace q224 := eq_true q224
  try go_wp2_with (first | ((with_reducible refine gate_dst (N := 5) rfl ?_); refine box_event ?hg (N := 5) ?hd (cs := #[.int .i64 0, .int .i64 0]) (t := 37) ?hr ?_; (case hd => rfl); (case hg => rfl); (case hr => first | (go_simp; done) | (go_simp; rfl)); intro gb225 hg w12 hbox hb; have n0_ := Aside0.mk (below_step (below_to HB) hb); have n1_ := Aside0.mk (hbox); have n2_ := Aside0.mk ((by rw [hg]; exact (below_size (below_to HB)) : w.heap.size ≤ gb225)); have n3_ := Aside0.mk ((by rw [hg]; exact (below_size (below_to HB)) : w.heap.size ≤ gb225)); clear HB; have HB := n0_; have BK225 := n1_; have GW225 := n2_; have GE225 := n3_; clear n0_ n1_ n2_ n3_; clear hb hbox hg; have hcz13_0 : w12.cell? ⟨gb225, 0, none⟩ = some (.int .i64 0) := (blk_cell BK225.out 0).trans rfl; have hcz13_1 : w12.cell? ⟨gb225, 1, none⟩ = some (.int .i64 0) := (blk_cell BK225.out 1).trans rfl; have hfz13_0 := blk_frozen BK225.out 0; have hfz13_1 := blk_frozen BK225.out 1))
  have n0_ : Aside0 (((w12.setCell ⟨gb225, 0, none⟩ (.int .i64 ((rd_T37 l0 x8_1).f0))).setCell ⟨gb225, 1, none⟩ (.int .i64 ((rd_T37 l0 x8_1).f1))).heap[gb225]? = some (.cells #[.int .i64 ((rd_T37 l0 x8_1).f0), .int .i64 ((rd_T37 l0 x8_1).f1)] 37 (0, 0))) := ⟨by (with_reducible repeat (first | refine blk_drewN ?_ _ | refine blk_drew ?_ | refine blk_alloc ?_ _)); refine blk_put (cs := #[.int .i64 ((rd_T37 l0 x8_1).f0), .int .i64 0]) ?_ 1 _ rfl; (with_reducible repeat (first | refine blk_drewN ?_ _ | refine blk_drew ?_ | refine blk_alloc ?_ _)); refine blk_put (cs := #[.int .i64 0, .int .i64 0]) ?_ 0 _ rfl; (with_reducible repeat (first | refine blk_drewN ?_ _ | refine blk_drew ?_ | refine blk_alloc ?_ _)); exact BK225.out⟩
  have n1_ : Aside0 (Below w.heap.size w ((w12.setCell ⟨gb225, 0, none⟩ (.int .i64 ((rd_T37 l0 x8_1).f0))).setCell ⟨gb225, 1, none⟩ (.int .i64 ((rd_T37 l0 x8_1).f1)))) := ⟨below_to1 HB GE225.out⟩
  (try clear BK225)
  (try clear HB)
  generalize ((w12.setCell ⟨gb225, 0, none⟩ (.int .i64 ((rd_T37 l0 x8_1).f0))).setCell ⟨gb225, 1, none⟩ (.int .i64 ((rd_T37 l0 x8_1).f1))) = w14 at n0_ n1_ ⊢
  have BK225 := n0_
  have HB := n1_
  clear n0_ n1_
  have n0_ := Aside0.mk (blk_drew BK225.out)
  have n1_ := Aside0.mk (below_drew1 HB.out)
  clear BK225
  clear HB
  have BK225 := n0_
  have HB := n1_
  clear n0_ n1_
  refine start_ (n := 11) (S := fun w' => w'.cell? ⟨gb225, 0, none⟩ = some (.int .i64 ((rd_T37 l0 x8_1).f0)) ∧ w'.cell? ⟨gb225, 1, none⟩ = some (.int .i64 ((rd_T37 l0 x8_1).f1))) (ds := []) #[false, false, false, false, false, false, false, false, false, false, false] (by kernel_rfl) rfl rfl ⟨(blk_cell BK225.out 0).trans rfl, (blk_cell BK225.out 1).trans rfl⟩ (fun hHeld => ?_); refine with_tabW spec_reText.tab7 spec_reText.bits7 (fun HT_ HW_ => ?_)
  generalize w14.drew = w15 at BK225 HB hHeld ⊢
  refine purS_ (i := 0) (N := some 17) (fl_ 11 1) HT_.out ?_
  refine purS_ (i := 1) (N := some 18) (fl_ 11 2) HT_.out ?_
  refine purS_ (i := 5) (N := some 22) #[true, true, false, false, false, true, false, false, false, false, false] HT_.out ?_
  refine take_ (i := 2) (N := some 19) (v := ?_) (a' := ?_) #[true, true, true, false, false, true, false, false, false, false, false] rfl rfl (take_ofW HT_.out HW_.out (by kernel_rfl)) (fun _ _ _ h => h) (Or.inl ⟨by rfl, ?_⟩) hHeld ?_ ?_
  rotate_left
  ·rintro w' ⟨s0, s1⟩
   go_simp
   with_reducible rfl
  rotate_left
  ·simp only [Act.put, List.setIfInBounds_toArray, List.set_cons_zero, List.set_cons_succ, i64_w, i32_w]
   rfl
  refine take_ (i := 6) (N := some 23) (v := ?_) (a' := ?_) #[true, true, true, false, false, true, true, false, false, false, false] rfl rfl (take_ofW HT_.out HW_.out (by kernel_rfl)) (fun _ _ _ h => h) (Or.inl ⟨by rfl, ?_⟩) hHeld ?_ ?_
  rotate_left
  ·rintro w' ⟨s0, s1⟩
   go_simp
   with_reducible rfl
  rotate_left
  ·simp only [Act.put, List.setIfInBounds_toArray, List.set_cons_zero, List.set_cons_succ, i64_w, i32_w]
   rfl
  refine one_ (i := 3) (N := some 20) #[true, true, true, true, false, true, true, false, false, false, false] rfl rfl (one_of HT_.out (by kernel_rfl)) (by decide) (fun K hK => ?_)
  refine goes_ Tryz.func78 (by kernel_rfl) rfl #[.int .i64 ((rd_T37 l0 x8_1).f0)] (by rfl) rfl rfl am_ ?_
  with_reducible refine (spec_l1Num.calls k1 ((rd_T37 l0 x8_1).f0) t226 _ A7.out).mono ?_
  rintro e w16 ⟨rfl, hb⟩
  refine ⟨_, rfl, ?_⟩
  have n0_ := Aside0.mk (blk_below (blk_to BK225) hb)
  have n1_ := Aside0.mk (below_step (below_to1 HB GE225.out) hb)
  clear BK225
  clear HB
  have BK225 := n0_
  have HB := n1_
  clear n0_ n1_
  (try clear hb)
  (try clear hb2)
  (try clear hk)
  (try clear hi)
  refine hK.out _ _ ⟨(blk_cell BK225.out 0).trans rfl, (blk_cell BK225.out 1).trans rfl⟩ (fun hHeld => ?_)
  clear hK K
  refine norm_ (a' := ?_) ?_ ?_
  rotate_left
  ·show Act.put _ (some 20) _ = _
   simp only [Act.put, List.setIfInBounds_toArray, List.set_cons_zero, List.set_cons_succ, i64_w, i32_w]
   rfl
  refine purS_ (i := 4) (N := some 21) (fl_ 11 7) HT_.out ?_
  refine one_ (i := 7) (N := some 24) #[true, true, true, true, true, true, true, true, false, false, false] rfl rfl (one_of HT_.out (by kernel_rfl)) (by decide) (fun K hK => ?_)
  refine goes_ Tryz.func78 (by kernel_rfl) rfl #[.int .i64 ((rd_T37 l0 x8_1).f1)] (by rfl) rfl rfl am_ ?_
  with_reducible refine (spec_l1Num.calls k1 ((rd_T37 l0 x8_1).f1) t227 _ A9.out).mono ?_
  rintro e w17 ⟨rfl, hb⟩
  refine ⟨_, rfl, ?_⟩
  have n0_ := Aside0.mk (blk_below (blk_to BK225) hb)
  have n1_ := Aside0.mk (below_step (below_to1 HB GE225.out) hb)
  clear BK225
  clear HB
  have BK225 := n0_
  have HB := n1_
  clear n0_ n1_
  (try clear hb)
  (try clear hb2)
  (try clear hk)
  (try clear hi)
  refine hK.out _ _ ⟨(blk_cell BK225.out 0).trans rfl, (blk_cell BK225.out 1).trans rfl⟩ (fun hHeld => ?_)
  clear hK K
  refine norm_ (a' := ?_) ?_ ?_
  rotate_left
  ·show Act.put _ (some 24) _ = _
   simp only [Act.put, List.setIfInBounds_toArray, List.set_cons_zero, List.set_cons_succ, i64_w, i32_w]
   rfl
  refine purS_ (i := 8) (N := some 25) (fl_ 11 9) HT_.out ?_
  refine purS_ (i := 9) (N := some 26) (fl_ 11 10) HT_.out ?_
  refine purS_ (i := 10) (N := some 3) (fl_ 11 11) HT_.out ?_
  refine done_ (done_of HT_.out (by kernel_rfl)) ?_
  try go_wp2
  go_roundg k1
  case measure => have := HK1.out; omega
  case rel => exact ⟨((x3_1 ++ (⟨#[43]⟩ : ByteArray)) ++ ((t226 ++ (⟨#[47]⟩ : ByteArray)) ++ t227)), (wrap64 (x8_1 + 1)), rt_, rt_, H', ⟨by have := HK1.out; omega⟩, ⟨below_to1 HB GE225.out⟩⟩
def spec_LegsText.f (k : Nat) (l0 : List (S37)) : Option (ByteArray × Bool) := (spec_reGood.f k l0).bind fun t230 => (if t230 = true then ((spec_reText.f k l0).bind fun t231 => (some (t231, true))) else (some ((⟨#[]⟩ : ByteArray), false)))
theorem spec_LegsText.calls (k : Nat) (A0 : Option Addr) (c0 : Nat) (l0 : List (S37)) (r1 : ByteArray) (r2 : Bool) (w : World) (hr0 : Kd.C k37 w A0 l0.length l0) (hc0 : l0.length ≤ c0) (h : spec_LegsText.f k l0 = some (r1, r2)) :
  Calls Tryz.prog 16 #[.slice A0 l0.length c0] w fun e w' => e = .returned (.tuple #[.string r1, .bool r2]) ∧ Below w.heap.size w w' := by
 have HR0 := Aside0.mk hr0
 have HC0 := Aside0.mk hc0
 clear hr0 hc0
 have HB := Aside0.mk (Below.refl w.heap.size w)
 have H := h
 unfold spec_LegsText.f at H
 clear h
 replace H := Option.bind_eq_some_iff.mp H
 obtain ⟨t230, A20, H⟩ := H
 (try dsimp only at H)
 have A2 := Aside0.mk A20
 clear A20
 by_cases c3 : t230 = true
 ·subst c3
  rw [if_pos rfl] at H
  replace H := Option.bind_eq_some_iff.mp H
  obtain ⟨t231, A40, H⟩ := H
  (try dsimp only at H)
  have A4 := Aside0.mk A40
  clear A40
  simp only [Option.some.injEq, Prod.mk.injEq] at H
  obtain ⟨rfl, rfl⟩ := H
  go_enter Tryz.func16, Tryz.ntmps16
  go_wp2_with (first | ((with_reducible refine gate_callee (f := 38) rfl ?_); refine goesL_ (some 5) rfl rfl Tryz.func38 (by kernel_rfl) rfl #[.slice A0 l0.length c0] rfl am_ ?_; (with_reducible refine (spec_reGood.calls k _ _ l0 true _ ?side1 ?side2 A2.out).mono ?_); (case side1 => exact c_to HR0); (case side2 => exact HC0.out); rintro e w5 ⟨rfl, hb⟩; refine ⟨_, rfl, ?_⟩; replace HB := Aside0.mk (below_step (below_to HB) hb); clear hb) | ((with_reducible refine gate_callee (f := 46) rfl ?_); refine goesL_ (some 8) rfl rfl Tryz.func46 (by kernel_rfl) rfl #[.slice A0 l0.length c0] rfl am_ ?_; (with_reducible refine (spec_reText.calls k _ _ l0 t231 _ ?side1 ?side2 A4.out).mono ?_); (case side1 => exact cb_ HR0 HB); (case side2 => exact HC0.out); rintro e w6 ⟨rfl, hb⟩; refine ⟨_, rfl, ?_⟩; replace HB := Aside0.mk (below_step (below_to HB) hb); clear hb))
  go_ret2
  exact ⟨rtE_, below_to HB⟩
 ·replace c3 := Bool.eq_false_iff.mpr c3
  subst c3
  rw [if_neg ft_] at H
  simp only [Option.some.injEq, Prod.mk.injEq] at H
  obtain ⟨rfl, rfl⟩ := H
  go_enter Tryz.func16, Tryz.ntmps16
  go_wp2_with (first | ((with_reducible refine gate_callee (f := 38) rfl ?_); refine goesL_ (some 5) rfl rfl Tryz.func38 (by kernel_rfl) rfl #[.slice A0 l0.length c0] rfl am_ ?_; (with_reducible refine (spec_reGood.calls k _ _ l0 false _ ?side1 ?side2 A2.out).mono ?_); (case side1 => exact c_to HR0); (case side2 => exact HC0.out); rintro e w7 ⟨rfl, hb⟩; refine ⟨_, rfl, ?_⟩; replace HB := Aside0.mk (below_step (below_to HB) hb); clear hb))
  go_ret2
  exact ⟨rtE_, below_to HB⟩
def laws_ySame.l0 : Nat → List Int → List Int → Int → Int → Option (Bool)
 | 0, _, _, _, _ => none
 | k + 1, x0, x1, x12, x13 => if x13 < x12 then (if 0 ≤ x13 then (if x13 < (x0.length : Int) then (if x13 < (x1.length : Int) then (if (rd x0 x13) = (rd x1 x13) then (laws_ySame.l0 k x0 x1 x12 (wrap64 (x13 + 1))) else (some false)) else (none)) else (none)) else (none)) else (some true)
def laws_ySame.f (k : Nat) (l0 : List Int) (l1 : List Int) : Option (Bool) := if (l0.length : Int) = (l1.length : Int) then (laws_ySame.l0 k l0 l1 (l0.length : Int) 0) else (some false)
theorem laws_ySame.calls (k : Nat) (A0 : Option Addr) (c0 : Nat) (l0 : List Int) (A1 : Option Addr) (c1 : Nat) (l1 : List Int) (r : Bool) (w : World) (hr0 : Kd.C (Kd.int .i64) w A0 l0.length l0) (hc0 : l0.length ≤ c0) (hr1 : Kd.C (Kd.int .i64) w A1 l1.length l1) (hc1 : l1.length ≤ c1) (h : laws_ySame.f k l0 l1 = some r) :
  Calls Tryz.prog 47 #[.slice A0 l0.length c0, .slice A1 l1.length c1] w fun e w' => e = .returned (.bool r) ∧ Drawn0 w w' := by
 have HR0 := Aside0.mk hr0
 have HC0 := Aside0.mk hc0
 clear hr0 hc0
 have HR1 := Aside0.mk hr1
 have HC1 := Aside0.mk hc1
 clear hr1 hc1
 have H := h
 unfold laws_ySame.f at H
 clear h
 by_cases c3 : (l0.length : Int) = (l1.length : Int)
 rotate_left
 ·rw [if_neg c3] at H
  have c3b0 := beq_eq_false_iff_ne.mpr c3
  have c3b1 := bne_iff_ne.mpr c3
  have c3b2 : (l0.length == l1.length) = false := by first | simpa using c3 | (simp at c3 ⊢; omega)
  obtain rfl := Option.some.inj H
  go_enter Tryz.func47, Tryz.ntmps47
  go_wp2
  repeat (go_quiet (fail); try go_wp2)
  go_ret
  exact ⟨rt_, d0_⟩
 rw [if_pos c3] at H
 have c3b0 := beq_iff_eq.mpr c3
 have c3b1 := bne_eq_false_iff_eq.mpr c3
 have c3b2 : (l0.length == l1.length) = true := by first | simpa using c3 | (simp at c3 ⊢; omega)
 clear c3
 have H' := Aside0.mk H
 clear H
 go_enter Tryz.func47, Tryz.ntmps47
 go_wp2
 repeat (go_quiet (fail); try go_wp2)
 go_loopg [13] k (fun kq v13 w' => ∃ (x13_1 : Int), v13 = .int .i64 x13_1 ∧ Aside0 (laws_ySame.l0 kq l0 l1 (l0.length : Int) x13_1 = some r) ∧ Aside0 (kq ≤ k) ∧ Drawn0 w w')
 case atStart => exact ⟨(0), rt_, H', ⟨Nat.le_refl _⟩, d0_⟩
 clear H'
 try clear c1
 try clear p2
 try clear c3
 try clear c3b0
 try clear c3b1
 try clear c3b2
 obtain ⟨x13_1, rfl, HA, HK1, ⟨m1, rfl⟩⟩ := hrel
 cases gk with
 | zero => exact absurd HA.out (by simp [laws_ySame.l0])
 | succ k1 =>
  have H := HA.out
  clear HA
  simp only [laws_ySame.l0] at H
  by_cases c4 : x13_1 < (l0.length : Int)
  rotate_left
  ·rw [if_neg c4] at H
   have c4b0 := decide_eq_false c4
   clear c4
   obtain rfl := Option.some.inj H
   go_wp2
   repeat (go_quiet (fail); try go_wp2)
   go_ret
   exact ⟨rt_, d0_⟩
  rw [if_pos c4] at H
  have c4b0 := decide_eq_true c4
  clear c4
  by_cases c5 : 0 ≤ x13_1
  rotate_left
  ·rw [if_neg c5] at H
   cases H
  rw [if_pos c5] at H
  have c5b0 := decide_eq_true c5
  clear c5
  by_cases c6 : x13_1 < (l0.length : Int)
  rotate_left
  ·rw [if_neg c6] at H
   cases H
  rw [if_pos c6] at H
  have c6b0 := decide_eq_true c6
  clear c6
  by_cases c7 : x13_1 < (l1.length : Int)
  rotate_left
  ·rw [if_neg c7] at H
   cases H
  rw [if_pos c7] at H
  have c7b0 := decide_eq_true c7
  clear c7
  by_cases c8 : (rd l0 x13_1) = (rd l1 x13_1)
  ·rw [if_pos c8] at H
   have c8b0 := beq_iff_eq.mpr c8
   have c8b1 := bne_eq_false_iff_eq.mpr c8
   clear c8
   have H' := Aside0.mk H
   clear H
   have p232 : 0 ≤ (x13_1 : Int) := odt_
   have q232 : x13_1 < (l0.length : Int) := odt_
   obtain ⟨ad232, e232, hx232_0⟩ := Kd.at_int HR0.out x13_1 p232 q232
   cases e232
   replace p232 := eq_true p232
   replace q232 := eq_true q232
   have p233 : 0 ≤ (x13_1 : Int) := odt_
   have q233 : x13_1 < (l1.length : Int) := odt_
   obtain ⟨ad233, e233, hx233_0⟩ := Kd.at_int HR1.out x13_1 p233 q233
   cases e233
   replace p233 := eq_true p233
   replace q233 := eq_true q233
   go_wp2
   repeat (go_quiet (fail); try go_wp2)
   go_roundg k1
   case measure => have := HK1.out; omega
   case rel => exact ⟨(wrap64 (x13_1 + 1)), rt_, H', ⟨by have := HK1.out; omega⟩, d0_⟩
  ·rw [if_neg c8] at H
   have c8b0 := beq_eq_false_iff_ne.mpr c8
   have c8b1 := bne_iff_ne.mpr c8
   obtain rfl := Option.some.inj H
   have p232 : 0 ≤ (x13_1 : Int) := odt_
   have q232 : x13_1 < (l0.length : Int) := odt_
   obtain ⟨ad232, e232, hx232_0⟩ := Kd.at_int HR0.out x13_1 p232 q232
   cases e232
   replace p232 := eq_true p232
   replace q232 := eq_true q232
   have p233 : 0 ≤ (x13_1 : Int) := odt_
   have q233 : x13_1 < (l1.length : Int) := odt_
   obtain ⟨ad233, e233, hx233_0⟩ := Kd.at_int HR1.out x13_1 p233 q233
   cases e233
   replace p233 := eq_true p233
   replace q233 := eq_true q233
   go_wp2
   repeat (go_quiet (fail); try go_wp2)
   go_ret
   exact ⟨rt_, d0_⟩
def laws_yRows.l0 : Nat → List (List Int) → List (List Int) → Int → Int → Option (Bool)
 | 0, _, _, _, _ => none
 | k + 1, x0, x1, x12, x13 => if x13 < x12 then (if 0 ≤ x13 then (if x13 < (x0.length : Int) then (if x13 < (x1.length : Int) then ((laws_ySame.f k (rd_L2 x0 x13) (rd_L2 x1 x13)).bind fun t236 => (if t236 = true then (laws_yRows.l0 k x0 x1 x12 (wrap64 (x13 + 1))) else (some false))) else (none)) else (none)) else (none)) else (some true)
def laws_yRows.f (k : Nat) (l0 : List (List Int)) (l1 : List (List Int)) : Option (Bool) := if (l0.length : Int) = (l1.length : Int) then (laws_yRows.l0 k l0 l1 (l0.length : Int) 0) else (some false)
theorem laws_yRows.calls (k : Nat) (A0 : Option Addr) (c0 : Nat) (l0 : List (List Int)) (A1 : Option Addr) (c1 : Nat) (l1 : List (List Int)) (r : Bool) (w : World) (hr0 : Kd.C (Kd.slice 3 (Kd.int .i64)) w A0 l0.length l0) (hc0 : l0.length ≤ c0) (hr1 : Kd.C (Kd.slice 3 (Kd.int .i64)) w A1 l1.length l1) (hc1 : l1.length ≤ c1) (h : laws_yRows.f k l0 l1 = some r) :
  Calls Tryz.prog 17 #[.slice A0 l0.length c0, .slice A1 l1.length c1] w fun e w' => e = .returned (.bool r) ∧ Drawn0 w w' := by
 have HR0 := Aside0.mk hr0
 have HC0 := Aside0.mk hc0
 clear hr0 hc0
 have HR1 := Aside0.mk hr1
 have HC1 := Aside0.mk hc1
 clear hr1 hc1
 have H := h
 unfold laws_yRows.f at H
 clear h
 by_cases c3 : (l0.length : Int) = (l1.length : Int)
 rotate_left
 ·rw [if_neg c3] at H
  have c3b0 := beq_eq_false_iff_ne.mpr c3
  have c3b1 := bne_iff_ne.mpr c3
  have c3b2 : (l0.length == l1.length) = false := by first | simpa using c3 | (simp at c3 ⊢; omega)
  obtain rfl := Option.some.inj H
  go_enter Tryz.func17, Tryz.ntmps17
  go_wp2
  repeat (go_quiet (fail); try go_wp2)
  go_ret
  exact ⟨rt_, d0_⟩
 rw [if_pos c3] at H
 have c3b0 := beq_iff_eq.mpr c3
 have c3b1 := bne_eq_false_iff_eq.mpr c3
 have c3b2 : (l0.length == l1.length) = true := by first | simpa using c3 | (simp at c3 ⊢; omega)
 clear c3
 have H' := Aside0.mk H
 clear H
 go_enter Tryz.func17, Tryz.ntmps17
 go_wp2
 repeat (go_quiet (fail); try go_wp2)
 go_loopg [13] k (fun kq v13 w' => ∃ (x13_1 : Int), v13 = .int .i64 x13_1 ∧ Aside0 (laws_yRows.l0 kq l0 l1 (l0.length : Int) x13_1 = some r) ∧ Aside0 (kq ≤ k) ∧ Drawn0 w w')
 case atStart => exact ⟨(0), rt_, H', ⟨Nat.le_refl _⟩, d0_⟩
 clear H'
 try clear c1
 try clear p2
 try clear c3
 try clear c3b0
 try clear c3b1
 try clear c3b2
 obtain ⟨x13_1, rfl, HA, HK1, ⟨m1, rfl⟩⟩ := hrel
 cases gk with
 | zero => exact absurd HA.out (by simp [laws_yRows.l0])
 | succ k1 =>
  have H := HA.out
  clear HA
  simp only [laws_yRows.l0] at H
  by_cases c4 : x13_1 < (l0.length : Int)
  rotate_left
  ·rw [if_neg c4] at H
   have c4b0 := decide_eq_false c4
   clear c4
   obtain rfl := Option.some.inj H
   go_wp2
   repeat (go_quiet (fail); try go_wp2)
   go_ret
   exact ⟨rt_, d0_⟩
  rw [if_pos c4] at H
  have c4b0 := decide_eq_true c4
  clear c4
  by_cases c5 : 0 ≤ x13_1
  rotate_left
  ·rw [if_neg c5] at H
   cases H
  rw [if_pos c5] at H
  have c5b0 := decide_eq_true c5
  clear c5
  by_cases c6 : x13_1 < (l0.length : Int)
  rotate_left
  ·rw [if_neg c6] at H
   cases H
  rw [if_pos c6] at H
  have c6b0 := decide_eq_true c6
  clear c6
  by_cases c7 : x13_1 < (l1.length : Int)
  rotate_left
  ·rw [if_neg c7] at H
   cases H
  rw [if_pos c7] at H
  have c7b0 := decide_eq_true c7
  clear c7
  replace H := Option.bind_eq_some_iff.mp H
  obtain ⟨t236, A80, H⟩ := H
  (try dsimp only at H)
  have A8 := Aside0.mk A80
  clear A80
  by_cases c9 : t236 = true
  rotate_left
  ·replace c9 := Bool.eq_false_iff.mpr c9
   subst c9
   rw [if_neg ft_] at H
   obtain rfl := Option.some.inj H
   have p234 : 0 ≤ (x13_1 : Int) := odt_
   have q234 : x13_1 < (l0.length : Int) := odt_
   obtain ⟨ad234, A234_0, c234_0, e234, hx234_0, hl234_0, hi234_0⟩ := at_L2 HR0.out x13_1 p234 q234
   cases e234
   have HR234_0 := Aside0.mk hi234_0
   have HC234_0 := Aside0.mk hl234_0
   clear hi234_0 hl234_0
   replace p234 := eq_true p234
   replace q234 := eq_true q234
   have p235 : 0 ≤ (x13_1 : Int) := odt_
   have q235 : x13_1 < (l1.length : Int) := odt_
   obtain ⟨ad235, A235_0, c235_0, e235, hx235_0, hl235_0, hi235_0⟩ := at_L2 HR1.out x13_1 p235 q235
   cases e235
   have HR235_0 := Aside0.mk hi235_0
   have HC235_0 := Aside0.mk hl235_0
   clear hi235_0 hl235_0
   replace p235 := eq_true p235
   replace q235 := eq_true q235
   go_wp2_with (first | (go_at_call 47; (with_reducible refine (laws_ySame.calls k1 _ _ (rd_L2 l0 x13_1) _ _ (rd_L2 l1 x13_1) false _ ?side1 ?side2 ?side3 ?side4 A8.out).mono ?_); (case side1 => exact c_to HR234_0); (case side2 => exact HC234_0.out); (case side3 => exact c_to HR235_0); (case side4 => exact HC235_0.out); rintro e w' ⟨rfl, ⟨nd, rfl⟩⟩; (try first | exact ⟨rfl, _, World.drewN_drewN _ _ _⟩ | exact ⟨rfl, _, Eq.trans (World.drewN_drewN _ _ _) (congrArg (World.drewN _) (Nat.add_assoc _ _ _))⟩)))
   repeat (go_quiet (first | (go_at_call 47; (with_reducible refine (laws_ySame.calls k1 _ _ (rd_L2 l0 x13_1) _ _ (rd_L2 l1 x13_1) false _ ?side1 ?side2 ?side3 ?side4 A8.out).mono ?_); (case side1 => exact c_to HR234_0); (case side2 => exact HC234_0.out); (case side3 => exact c_to HR235_0); (case side4 => exact HC235_0.out); rintro e w' ⟨rfl, ⟨nd, rfl⟩⟩; (try first | exact ⟨rfl, _, World.drewN_drewN _ _ _⟩ | exact ⟨rfl, _, Eq.trans (World.drewN_drewN _ _ _) (congrArg (World.drewN _) (Nat.add_assoc _ _ _))⟩))); try go_wp2_with (first | (go_at_call 47; (with_reducible refine (laws_ySame.calls k1 _ _ (rd_L2 l0 x13_1) _ _ (rd_L2 l1 x13_1) false _ ?side1 ?side2 ?side3 ?side4 A8.out).mono ?_); (case side1 => exact c_to HR234_0); (case side2 => exact HC234_0.out); (case side3 => exact c_to HR235_0); (case side4 => exact HC235_0.out); rintro e w' ⟨rfl, ⟨nd, rfl⟩⟩; (try first | exact ⟨rfl, _, World.drewN_drewN _ _ _⟩ | exact ⟨rfl, _, Eq.trans (World.drewN_drewN _ _ _) (congrArg (World.drewN _) (Nat.add_assoc _ _ _))⟩))))
   go_ret
   exact ⟨rt_, d0_⟩
  subst c9
  rw [if_pos rfl] at H
  have H' := Aside0.mk H
  clear H
  have p234 : 0 ≤ (x13_1 : Int) := odt_
  have q234 : x13_1 < (l0.length : Int) := odt_
  obtain ⟨ad234, A234_0, c234_0, e234, hx234_0, hl234_0, hi234_0⟩ := at_L2 HR0.out x13_1 p234 q234
  cases e234
  have HR234_0 := Aside0.mk hi234_0
  have HC234_0 := Aside0.mk hl234_0
  clear hi234_0 hl234_0
  replace p234 := eq_true p234
  replace q234 := eq_true q234
  have p235 : 0 ≤ (x13_1 : Int) := odt_
  have q235 : x13_1 < (l1.length : Int) := odt_
  obtain ⟨ad235, A235_0, c235_0, e235, hx235_0, hl235_0, hi235_0⟩ := at_L2 HR1.out x13_1 p235 q235
  cases e235
  have HR235_0 := Aside0.mk hi235_0
  have HC235_0 := Aside0.mk hl235_0
  clear hi235_0 hl235_0
  replace p235 := eq_true p235
  replace q235 := eq_true q235
  go_wp2_with (first | (go_at_call 47; (with_reducible refine (laws_ySame.calls k1 _ _ (rd_L2 l0 x13_1) _ _ (rd_L2 l1 x13_1) true _ ?side1 ?side2 ?side3 ?side4 A8.out).mono ?_); (case side1 => exact c_to HR234_0); (case side2 => exact HC234_0.out); (case side3 => exact c_to HR235_0); (case side4 => exact HC235_0.out); rintro e w' ⟨rfl, ⟨nd, rfl⟩⟩; (try first | exact ⟨rfl, _, World.drewN_drewN _ _ _⟩ | exact ⟨rfl, _, Eq.trans (World.drewN_drewN _ _ _) (congrArg (World.drewN _) (Nat.add_assoc _ _ _))⟩)))
  repeat (go_quiet (first | (go_at_call 47; (with_reducible refine (laws_ySame.calls k1 _ _ (rd_L2 l0 x13_1) _ _ (rd_L2 l1 x13_1) true _ ?side1 ?side2 ?side3 ?side4 A8.out).mono ?_); (case side1 => exact c_to HR234_0); (case side2 => exact HC234_0.out); (case side3 => exact c_to HR235_0); (case side4 => exact HC235_0.out); rintro e w' ⟨rfl, ⟨nd, rfl⟩⟩; (try first | exact ⟨rfl, _, World.drewN_drewN _ _ _⟩ | exact ⟨rfl, _, Eq.trans (World.drewN_drewN _ _ _) (congrArg (World.drewN _) (Nat.add_assoc _ _ _))⟩))); try go_wp2_with (first | (go_at_call 47; (with_reducible refine (laws_ySame.calls k1 _ _ (rd_L2 l0 x13_1) _ _ (rd_L2 l1 x13_1) true _ ?side1 ?side2 ?side3 ?side4 A8.out).mono ?_); (case side1 => exact c_to HR234_0); (case side2 => exact HC234_0.out); (case side3 => exact c_to HR235_0); (case side4 => exact HC235_0.out); rintro e w' ⟨rfl, ⟨nd, rfl⟩⟩; (try first | exact ⟨rfl, _, World.drewN_drewN _ _ _⟩ | exact ⟨rfl, _, Eq.trans (World.drewN_drewN _ _ _) (congrArg (World.drewN _) (Nat.add_assoc _ _ _))⟩))))
  go_roundg k1
  case measure => have := HK1.out; omega
  case rel => exact ⟨(wrap64 (x13_1 + 1)), rt_, H', ⟨by have := HK1.out; omega⟩, d0_⟩
end Go.Proofs.YtbhnpccbjgbcbaaGreatDoor.QD
