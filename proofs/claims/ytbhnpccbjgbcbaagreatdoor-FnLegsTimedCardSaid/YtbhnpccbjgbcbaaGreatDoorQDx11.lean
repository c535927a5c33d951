import Derived.Test.YtbhnpccbjgbcbaaGreatDoorQDx3
namespace Go.Proofs.YtbhnpccbjgbcbaaGreatDoor.QD
open Go.Proofs.YtbhnpccbjgbcbaaGreatDoor.X Go.RowKit Go.Proofs.YtbhnpccbjgbcbaaGreatDoorW.PrintWords Go.Proofs.YtbhnpccbjgbcbaaGreatDoorW.PrintLast Go.Proofs.YtbhnpccbjgbcbaaGreatDoorW.PrintMore
set_option maxHeartbeats 8000000
set_option maxRecDepth 100000
attribute [local go_sem] max2_int min2_int max_two min_two max_three min_three max_four min_four
set_option linter.unusedVariables false
set_option linter.unusedSimpArgs false
def spec_l1Split.l0 : Nat → ByteArray → Int → List ByteArray → Int → Int → Option (List ByteArray)
 | 0, _, _, _, _, _ => none
 | k + 1, x0, x1, x5, x6, x7 => if x7 < (x0.size : Int) then (if 0 ≤ x7 then (if (bt x0 x7) = x1 then (if 0 ≤ x6 then (if x6 ≤ x7 then (if x7 ≤ (x0.size : Int) then (if x5.length < 8796093022208 then (spec_l1Split.l0 k x0 x1 (x5 ++ [x0.extract (x6 : Int).toNat (x7 : Int).toNat]) (wrap64 (x7 + 1)) (wrap64 (x7 + 1))) else (none)) else (none)) else (none)) else (none)) else (spec_l1Split.l0 k x0 x1 x5 x6 (wrap64 (x7 + 1)))) else (none)) else (if 0 ≤ x6 then (if x6 ≤ (x0.size : Int) then (if x5.length < 8796093022208 then (some (x5 ++ [x0.extract (x6 : Int).toNat x0.size])) else (none)) else (none)) else (none))
def spec_l1Split.f (k : Nat) (a0 : ByteArray) (a1 : Int) : Option (List ByteArray) := spec_l1Split.l0 k a0 a1 ([] : List ByteArray) 0 0
theorem spec_l1Split.calls (k : Nat) (a0 : ByteArray) (a1 : Int) (r : List ByteArray) (w : World) (h : spec_l1Split.f k a0 a1 = some r) :
  Calls Tryz.prog 84 #[.string a0, .int .u8 a1] w fun e w' => ∃ Aa : Value, e = .returned (Aa) ∧ Kd.R Kd.string 9 w' w.heap.size (fun _ => True) Aa r ∧ Below w.heap.size w w' := by
 have HB := Aside0.mk (Below.refl w.heap.size w)
 have H : (spec_l1Split.l0 k a0 a1 ([] : List ByteArray) 0 0) = some r := h
 clear h
 have H' := Aside0.mk H
 clear H
 go_enter Tryz.func84, Tryz.ntmps84
 go_wp2
 go_loopg [5, 6, 7] k (fun kq v5 v6 v7 w' => ∃ (x5_1 : List ByteArray) (x6_1 : Int) (x7_1 : Int), v6 = .int .i64 x6_1 ∧ v7 = .int .i64 x7_1 ∧ Aside0 (spec_l1Split.l0 kq a0 a1 x5_1 x6_1 x7_1 = some r) ∧ Aside0 (kq ≤ k) ∧ Aside0 (Kd.R Kd.string 9 w' w.heap.size (fun _ => True) v5 x5_1) ∧ Aside0 (Below w.heap.size w w'))
 case atStart => exact ⟨(([] : List ByteArray)), (0), (0), rt_, rt_, H', ⟨Nat.le_refl _⟩, ⟨by first | exact Kd.R_nil _ _ _ _ _ | exact Kd.N_nil _ _ _ _ _ | exact Kd.V_nil _ _ _ _ _ | exact Kd.Q_nil _ _ _ _ _ | exact Kd.S_nil _ _ _ _ _⟩, ⟨below_to HB⟩⟩
 clear H'
 try clear p2
 obtain ⟨x5_1, x6_1, x7_1, rfl, rfl, HA, HK1, HO_5, HB⟩ := hrel
 cases gk with
 | zero => exact absurd HA.out (by simp [spec_l1Split.l0])
 | succ k1 =>
  have H := HA.out
  clear HA
  simp only [spec_l1Split.l0] at H
  by_cases c3 : x7_1 < (a0.size : Int)
  rotate_left
  ·rw [if_neg c3] at H
   have c3b0 := decide_eq_false c3
   clear c3
   by_cases c12 : 0 ≤ x6_1
   rotate_left
   ·rw [if_neg c12] at H
    cases H
   rw [if_pos c12] at H
   have c12b0 := eq_true c12
   have c12b1 := decide_eq_true c12
   clear c12
   by_cases c13 : x6_1 ≤ (a0.size : Int)
   ·rw [if_pos c13] at H
    have c13b0 := eq_true c13
    have c13b1 := decide_eq_true c13
    clear c13
    by_cases c14 : x5_1.length < 8796093022208
    ·rw [if_pos c14] at H
     have LMc14 := Aside0.mk c14
     clear c14
     obtain ⟨y368, hy368⟩ : ∃ y_ : List ByteArray, y_ = (x5_1 ++ [a0.extract (x6_1 : Int).toNat a0.size]) := ⟨_, rfl⟩
     replace H : (some y368) = some r := by first | (rw [hy368]; with_reducible exact H) | (have H2_ := (Option.bind_some _ _).symm.trans H; rw [hy368]; with_reducible exact H2_) | (have H2_ := (Option.bind_some _ _).symm.trans H; with_reducible exact H2_) | with_reducible exact H | (rw [hy368]; exact H) | exact H
     have Ny368 := Aside0.mk hy368
     clear hy368
     obtain rfl := Option.some.inj H
     go_wp2_with (first | ((with_reducible refine gate_builtin (b := .append) (xs := #[.tmp 28, .tmp 32]) rfl ?_); at_builtin; refine Kd.R_append Kd.string (w0 := w) w.heap.size rfl (.tmp 28) (.tmp 32) 57 9 (.string ⟨#[]⟩) 16 rfl Tryz.underlying57 info9 rfl (by decide) (by omega) u5 x5_1 (a0.extract (x6_1 : Int).toNat a0.size) [.string (a0.extract (x6_1 : Int).toNat a0.size)] (fun _ => True) (fun _ => False) rfl rfl ?aP (fun _ hk => hk.elim) ?aF ?aO ?aB ?aS ?aL ?_; (case aP => exact rfl); (case aB => exact (below_to HB)); (case aF => exact (fun _ _ => trivial)); (case aO => exact (kd_to HO_5)); (case aS => exact (below_size (below_to HB))); (case aL => have := LMc14.out; omega); intro v369 w15 ho hb hg hat; rw [← Ny368.out] at ho; replace HB := Aside0.mk (hb); have HO370 := Aside0.mk (ho); clear HO_5; clear ho hb hg hat))
     go_ret
     exact ⟨_, rtE_, kd_to HO370, below_to HB⟩
    ·rw [if_neg c14] at H
     cases H
   ·rw [if_neg c13] at H
    cases H
  rw [if_pos c3] at H
  have c3b0 := decide_eq_true c3
  clear c3
  by_cases c4 : 0 ≤ x7_1
  rotate_left
  ·rw [if_neg c4] at H
   cases H
  rw [if_pos c4] at H
  have c4b0 := decide_eq_true c4
  clear c4
  by_cases c6 : (bt a0 x7_1) = a1
  rotate_left
  ·rw [if_neg c6] at H
   have c6b0 := beq_eq_false_iff_ne.mpr c6
   have c6b1 := bne_iff_ne.mpr c6
   have H' := Aside0.mk H
   clear H
   have p5 : 0 ≤ (x7_1 : Int) := odt_
   have q5 : x7_1 < (a0.size : Int) := odt_
   have hx5 := bt_at a0 x7_1
   replace p5 := eq_true p5
   replace q5 := eq_true q5
   go_wp2
   go_roundg k1
   case measure => have := HK1.out; omega
   case rel => exact ⟨(x5_1), (x6_1), (wrap64 (x7_1 + 1)), rt_, rt_, H', ⟨by have := HK1.out; omega⟩, ⟨kd_to HO_5⟩, ⟨below_to HB⟩⟩
  rw [if_pos c6] at H
  have c6b0 := beq_iff_eq.mpr c6
  have c6b1 := bne_eq_false_iff_eq.mpr c6
  clear c6
  by_cases c7 : 0 ≤ x6_1
  rotate_left
  ·rw [if_neg c7] at H
   cases H
  rw [if_pos c7] at H
  have c7b0 := eq_true c7
  have c7b1 := decide_eq_true c7
  clear c7
  by_cases c8 : x6_1 ≤ x7_1
  rotate_left
  ·rw [if_neg c8] at H
   cases H
  rw [if_pos c8] at H
  have c8b0 := eq_true c8
  have c8b1 := decide_eq_true c8
  clear c8
  by_cases c9 : x7_1 ≤ (a0.size : Int)
  rotate_left
  ·rw [if_neg c9] at H
   cases H
  rw [if_pos c9] at H
  have c9b0 := eq_true c9
  have c9b1 := decide_eq_true c9
  clear c9
  by_cases c10 : x5_1.length < 8796093022208
  ·rw [if_pos c10] at H
   have LMc10 := Aside0.mk c10
   clear c10
   obtain ⟨y365, hy365⟩ : ∃ y_ : List ByteArray, y_ = (x5_1 ++ [a0.extract (x6_1 : Int).toNat (x7_1 : Int).toNat]) := ⟨_, rfl⟩
   replace H : (spec_l1Split.l0 k1 a0 a1 y365 (wrap64 (x7_1 + 1)) (wrap64 (x7_1 + 1))) = some r := by first | (rw [hy365]; with_reducible exact H) | (have H2_ := (Option.bind_some _ _).symm.trans H; rw [hy365]; with_reducible exact H2_) | (have H2_ := (Option.bind_some _ _).symm.trans H; with_reducible exact H2_) | with_reducible exact H | (rw [hy365]; exact H) | exact H
   have Ny365 := Aside0.mk hy365
   clear hy365
   have H' := Aside0.mk H
   clear H
   have p5 : 0 ≤ (x7_1 : Int) := odt_
   have q5 : x7_1 < (a0.size : Int) := odt_
   have hx5 := bt_at a0 x7_1
   replace p5 := eq_true p5
   replace q5 := eq_true q5
   go_wp2_with (first | ((with_reducible refine gate_builtin (b := .append) (xs := #[.tmp 19, .tmp 24]) rfl ?_); at_builtin; refine Kd.R_append Kd.string (w0 := w) w.heap.size rfl (.tmp 19) (.tmp 24) 57 9 (.string ⟨#[]⟩) 16 rfl Tryz.underlying57 info9 rfl (by decide) (by omega) u5 x5_1 (a0.extract (x6_1 : Int).toNat (x7_1 : Int).toNat) [.string (a0.extract (x6_1 : Int).toNat (x7_1 : Int).toNat)] (fun _ => True) (fun _ => False) rfl rfl ?aP (fun _ hk => hk.elim) ?aF ?aO ?aB ?aS ?aL ?_; (case aP => exact rfl); (case aB => exact (below_to HB)); (case aF => exact (fun _ _ => trivial)); (case aO => exact (kd_to HO_5)); (case aS => exact (below_size (below_to HB))); (case aL => have := LMc10.out; omega); intro v366 w11 ho hb hg hat; rw [← Ny365.out] at ho; replace HB := Aside0.mk (hb); have HO367 := Aside0.mk (ho); clear HO_5; clear ho hb hg hat))
   go_roundg k1
   case measure => have := HK1.out; omega
   case rel => exact ⟨(y365), (wrap64 (x7_1 + 1)), (wrap64 (x7_1 + 1)), rt_, rt_, H', ⟨by have := HK1.out; omega⟩, ⟨kd_to HO367⟩, ⟨below_to HB⟩⟩
  ·rw [if_neg c10] at H
   cases H
mutual
def spec_l1Read.j0 : Nat → ByteArray → Bool → Option (Int)
 | 0, _, _ => none
 | k + 1, x0, x18 => if x18 = true then (some (-1)) else (spec_l1Read.l0 k x0 0 0)
def spec_l1Read.l0 : Nat → ByteArray → Int → Int → Option (Int)
 | 0, _, _, _ => none
 | k + 1, x0, x3, x4 => if x4 < (x0.size : Int) then (if 0 ≤ x4 then (if (bt x0 x4) < 48 then (some (-1)) else (if (bt x0 x4) > 57 then (some (-1)) else (spec_l1Read.l0 k x0 (wrap64 ((wrap64 (10 * x3)) + (((bt x0 x4) - 48) % 256))) (wrap64 (x4 + 1))))) else (none)) else (some x3)
end
def spec_l1Read.f (k : Nat) (a0 : ByteArray) : Option (Int) := (spec_l1In.f (a0.size : Int) 1 6).bind fun t371 => (if t371 = true then (if 0 < (a0.size : Int) then (if (bt a0 0) = 48 then (spec_l1Read.j0 k a0 (decide ((a0.size : Int) > 1))) else (spec_l1Read.j0 k a0 false)) else (none)) else (spec_l1Read.j0 k a0 true))
theorem spec_l1Read.calls (k : Nat) (a0 : ByteArray) (r : Int) (w : World) (h : spec_l1Read.f k a0 = some r) :
  Calls Tryz.prog 85 #[.string a0] w fun e w' => e = .returned (.int .i64 r) ∧ Drawn0 w w' := by
 have H := h
 unfold spec_l1Read.f at H
 clear h
 have HC2 := Aside0.mk H
 clear H
 go_enter Tryz.func85, Tryz.ntmps85
 go_upto_region 1 with (fail)
 go_cut [18] (fun v18 wc => ∃ (kq : Nat) (x18_1 : Bool), v18 = .bool x18_1 ∧ Aside0 (spec_l1Read.j0 kq a0 x18_1 = some r) ∧ Aside0 (kq ≤ k) ∧ Drawn0 w wc)
 case first =>
  have H := HC2.out
  clear HC2
  replace H := Option.bind_eq_some_iff.mp H
  obtain ⟨t371, A30, H⟩ := H
  (try dsimp only at H)
  have A3 := Aside0.mk A30
  clear A30
  by_cases c4 : t371 = true
  rotate_left
  ·replace c4 := Bool.eq_false_iff.mpr c4
   subst c4
   rw [if_neg ft_] at H
   have H' := Aside0.mk H
   clear H
   go_wp2_with (first | ((with_reducible refine gate_callee (f := 72) rfl ?_); refine goesL_ (some 7) rfl rfl Tryz.func72 (by kernel_rfl) rfl #[.int .i64 (a0.size : Int), .int .i64 1, .int .i64 6] rfl am_ ?_; (with_reducible refine (spec_l1In.calls (a0.size : Int) 1 6 false _ A3.out).mono ?_); rintro e w' ⟨rfl, ⟨nd, rfl⟩⟩; refine ⟨_, rfl, ?_⟩))
   go_meet
   case rel => exact ⟨_, (true), rt_, H', ⟨by first | omega | exact Nat.le_refl _⟩, d0_⟩
  subst c4
  rw [if_pos rfl] at H
  by_cases c5 : 0 < (a0.size : Int)
  rotate_left
  ·rw [if_neg c5] at H
   cases H
  rw [if_pos c5] at H
  have c5b0 := decide_eq_true c5
  have c5b1 : decide (0 < a0.size) = true := decide_eq_true (by omega)
  clear c5
  (first | rw [c5b0] | (simp only [i64_w, i32_w]; rw [c5b0]) | skip)
  by_cases c7 : (bt a0 0) = 48
  ·rw [if_pos c7] at H
   have c7b0 := beq_iff_eq.mpr c7
   have c7b1 := bne_eq_false_iff_eq.mpr c7
   clear c7
   have H' := Aside0.mk H
   clear H
   go_wp2_with (first | ((with_reducible refine gate_callee (f := 72) rfl ?_); refine goesL_ (some 7) rfl rfl Tryz.func72 (by kernel_rfl) rfl #[.int .i64 (a0.size : Int), .int .i64 1, .int .i64 6] rfl am_ ?_; (with_reducible refine (spec_l1In.calls (a0.size : Int) 1 6 true _ A3.out).mono ?_); rintro e w' ⟨rfl, ⟨nd, rfl⟩⟩; refine ⟨_, rfl, ?_⟩; have p6 : 0 ≤ (0 : Int) := (by omega); have q6 : 0 < a0.size := (by have : (0 : Int) < (a0.size : Int) := of_decide_eq_true (by first | (with_reducible assumption) | assumption); omega); have hx6 : ∀ h : 0 < a0.size, ((a0[0]'h).toNat : Int) = bt a0 0 := bt_at a0 0; clear p6; have qi6 : (0 < (a0.size : Int)) = True := eq_true (of_decide_eq_true (by first | (with_reducible assumption) | assumption)); replace q6 := eq_true q6))
   go_meet
   case rel => exact ⟨_, (decide ((a0.size : Int) > 1)), rt_, H', ⟨by first | omega | exact Nat.le_refl _⟩, d0_⟩
  ·rw [if_neg c7] at H
   have c7b0 := beq_eq_false_iff_ne.mpr c7
   have c7b1 := bne_iff_ne.mpr c7
   have H' := Aside0.mk H
   clear H
   go_wp2_with (first | ((with_reducible refine gate_callee (f := 72) rfl ?_); refine goesL_ (some 7) rfl rfl Tryz.func72 (by kernel_rfl) rfl #[.int .i64 (a0.size : Int), .int .i64 1, .int .i64 6] rfl am_ ?_; (with_reducible refine (spec_l1In.calls (a0.size : Int) 1 6 true _ A3.out).mono ?_); rintro e w' ⟨rfl, ⟨nd, rfl⟩⟩; refine ⟨_, rfl, ?_⟩; have p6 : 0 ≤ (0 : Int) := (by omega); have q6 : 0 < a0.size := (by have : (0 : Int) < (a0.size : Int) := of_decide_eq_true (by first | (with_reducible assumption) | assumption); omega); have hx6 : ∀ h : 0 < a0.size, ((a0[0]'h).toNat : Int) = bt a0 0 := bt_at a0 0; clear p6; have qi6 : (0 < (a0.size : Int)) = True := eq_true (of_decide_eq_true (by first | (with_reducible assumption) | assumption)); replace q6 := eq_true q6))
   go_meet
   case rel => exact ⟨_, (false), rt_, H', ⟨by first | omega | exact Nat.le_refl _⟩, d0_⟩
 clear HC2
 try clear p2
 try clear c4
 try clear c5
 try clear c5b0
 try clear c5b1
 try clear p6
 try clear q6
 try clear hx6
 try clear qi6
 try clear c7
 try clear c7b0
 try clear c7b1
 try clear p6
 try clear q6
 obtain ⟨kq, x18_1, rfl, HA, HJ1, ⟨mc1, rfl⟩⟩ := hcut
 cases kq with
 | zero => exact absurd HA.out (by simp [spec_l1Read.j0])
 | succ kj1 =>
  have H := HA.out
  clear HA
  simp only [spec_l1Read.j0] at H
  by_cases c8 : x18_1 = true
  ·subst c8
   rw [if_pos rfl] at H
   obtain rfl := Option.some.inj H
   go_wp2
   go_ret
   exact ⟨rt_, d0_⟩
  replace c8 := Bool.eq_false_iff.mpr c8
  subst c8
  rw [if_neg ft_] at H
  have H' := Aside0.mk H
  clear H
  go_wp2
  go_loopg [3, 4] kj1 (fun kq v3 v4 w' => ∃ (x3_2 : Int) (x4_2 : Int), v3 = .int .i64 x3_2 ∧ v4 = .int .i64 x4_2 ∧ Aside0 (spec_l1Read.l0 kq a0 x3_2 x4_2 = some r) ∧ Aside0 (kq ≤ kj1) ∧ Drawn0 w w')
  case atStart => exact ⟨(0), (0), rt_, rt_, H', ⟨Nat.le_refl _⟩, d0_⟩
  clear H'
  try clear c1
  try clear p2
  try clear c4
  try clear c5
  try clear c5b0
  try clear c5b1
  try clear p6
  try clear q6
  try clear hx6
  try clear qi6
  try clear c7
  try clear c7b0
  try clear c7b1
  try clear c8
  try clear p2
  try clear p6
  try clear q6
  obtain ⟨x3_2, x4_2, rfl, rfl, HA, HK2, ⟨m2, rfl⟩⟩ := hrel
  cases gk with
  | zero => exact absurd HA.out (by simp [spec_l1Read.l0])
  | succ k2 =>
   have H := HA.out
   clear HA
   simp only [spec_l1Read.l0] at H
   by_cases c9 : x4_2 < (a0.size : Int)
   rotate_left
   ·rw [if_neg c9] at H
    have c9b0 := decide_eq_false c9
    clear c9
    obtain rfl := Option.some.inj H
    go_wp2
    go_ret
    exact ⟨rt_, d0_⟩
   rw [if_pos c9] at H
   have c9b0 := decide_eq_true c9
   clear c9
   by_cases c10 : 0 ≤ x4_2
   rotate_left
   ·rw [if_neg c10] at H
    cases H
   rw [if_pos c10] at H
   have c10b0 := decide_eq_true c10
   clear c10
   by_cases c12 : (bt a0 x4_2) < 48
   ·rw [if_pos c12] at H
    have c12b0 := decide_eq_true c12
    clear c12
    obtain rfl := Option.some.inj H
    have p11 : 0 ≤ (x4_2 : Int) := odt_
    have q11 : x4_2 < (a0.size : Int) := odt_
    have hx11 := bt_at a0 x4_2
    replace p11 := eq_true p11
    replace q11 := eq_true q11
    go_wp2
    go_ret
    exact ⟨rt_, d0_⟩
   rw [if_neg c12] at H
   have c12b0 := decide_eq_false c12
   clear c12
   by_cases c14 : (bt a0 x4_2) > 57
   ·rw [if_pos c14] at H
    have c14b0 := decide_eq_true c14
    clear c14
    obtain rfl := Option.some.inj H
    have p11 : 0 ≤ (x4_2 : Int) := odt_
    have q11 : x4_2 < (a0.size : Int) := odt_
    have hx11 := bt_at a0 x4_2
    replace p11 := eq_true p11
    replace q11 := eq_true q11
    have p13 : 0 ≤ (x4_2 : Int) := odt_
    have q13 : x4_2 < (a0.size : Int) := odt_
    have hx13 := bt_at a0 x4_2
    replace p13 := eq_true p13
    replace q13 := eq_true q13
    go_wp2
    go_ret
    exact ⟨rt_, d0_⟩
   ·rw [if_neg c14] at H
    have c14b0 := decide_eq_false c14
    clear c14
    have H' := Aside0.mk H
    clear H
    have p11 : 0 ≤ (x4_2 : Int) := odt_
    have q11 : x4_2 < (a0.size : Int) := odt_
    have hx11 := bt_at a0 x4_2
    replace p11 := eq_true p11
    replace q11 := eq_true q11
    have p13 : 0 ≤ (x4_2 : Int) := odt_
    have q13 : x4_2 < (a0.size : Int) := odt_
    have hx13 := bt_at a0 x4_2
    replace p13 := eq_true p13
    replace q13 := eq_true q13
    have p15 : 0 ≤ (x4_2 : Int) := odt_
    have q15 : x4_2 < (a0.size : Int) := odt_
    have hx15 := bt_at a0 x4_2
    replace p15 := eq_true p15
    replace q15 := eq_true q15
    go_wp2
    go_roundg k2
    case measure => have := HJ1.out; have := HK2.out; omega
    case rel => exact ⟨(wrap64 ((wrap64 (10 * x3_2)) + (((bt a0 x4_2) - 48) % 256))), (wrap64 (x4_2 + 1)), rt_, rt_, H', ⟨by have := HJ1.out; have := HK2.out; omega⟩, d0_⟩
def spec_reParse.l0 : Nat → List (S37) → List ByteArray → Int → Int → Option ((List (S37)) × Bool)
 | 0, _, _, _, _ => none
 | k + 1, x4, x12, x13, x14 => if x14 < x13 then (if 0 ≤ x14 then (if x14 < (x12.length : Int) then ((spec_l1Split.f k (rdOf ByteArray.empty x12 x14) 47).bind fun t377 => (if (t377.length : Int) = 2 then (if 0 < (t377.length : Int) then ((spec_l1Read.f k (rdOf ByteArray.empty t377 0)).bind fun t381 => (if 1 < (t377.length : Int) then ((spec_l1Read.f k (rdOf ByteArray.empty t377 1)).bind fun t383 => (if x4.length < 8796093022208 then (spec_reParse.l0 k (x4 ++ [(⟨t381, t383⟩ : S37)]) x12 x13 (wrap64 (x14 + 1))) else (none))) else (none))) else (none)) else (some (([] : List (S37)), false)))) else (none)) else (none)) else ((spec_reGood.f k x4).bind fun t375 => (if t375 = true then (some (x4, true)) else (some (([] : List (S37)), false))))
def spec_reParse.f (k : Nat) (a0 : ByteArray) : Option ((List (S37)) × Bool) := if (a0.size : Int) > 80 then (some (([] : List (S37)), false)) else ((spec_l1Split.f k a0 43).bind fun t372 => (spec_reParse.l0 k ([] : List (S37)) t372 (t372.length : Int) 0))
def spec_reParse.T10 : Bool × List (List Nat × List Nat) := (true, [([], []), ([], []), ([1], [1]), ([2], [2]), ([3], [3]), ([], []), ([5], [5]), ([6], [6]), ([7, 4], [7]), ([4, 8], [4, 8]), ([9], [9]), ([0, 10, 8], [0, 10]), ([11, 11, 0, 1, 2, 3, 4, 5, 6, 7, 8, 9, 10, 11], [0, 11])])
def spec_reParse.B10 : List Nat := [0, 0, 2, 6, 14, 0, 32, 96, 254, 510, 1022, 2047, 4095]
theorem spec_reParse.tab10 : rtab .any (opsOf Tryz.f62 10) = spec_reParse.T10 := by kernel_rfl
theorem spec_reParse.bits10 : waitsOk spec_reParse.T10.2 spec_reParse.B10 = true := by kernel_rfl
theorem spec_reParse.calls (k : Nat) (a0 : ByteArray) (r1 : List (S37)) (r2 : Bool) (w : World) (h : spec_reParse.f k a0 = some (r1, r2)) :
  Calls Tryz.prog 62 #[.string a0] w fun e w' => ∃ Aa : Value, e = .returned (.tuple #[Aa, .bool r2]) ∧ Kd.R k37 37 w' w.heap.size (fun _ => True) Aa r1 ∧ Below w.heap.size w w' := by
 have hu37 := Tryz.underlying37
 have HB := Aside0.mk (Below.refl w.heap.size w)
 have H := h
 unfold spec_reParse.f at H
 clear h
 by_cases c2 : (a0.size : Int) > 80
 ·rw [if_pos c2] at H
  have c2b0 := decide_eq_true c2
  have c2b1 : decide (80 < a0.size) = true := decide_eq_true (by omega)
  clear c2
  simp only [Option.some.injEq, Prod.mk.injEq] at H
  obtain ⟨rfl, rfl⟩ := H
  go_enter Tryz.func62, Tryz.ntmps62
  go_wp2
  go_ret2
  exact ⟨_, rtE_, by first | exact Kd.R_nil _ _ _ _ _ | exact Kd.N_nil _ _ _ _ _ | exact Kd.V_nil _ _ _ _ _ | exact Kd.Q_nil _ _ _ _ _ | exact Kd.S_nil _ _ _ _ _, below_to HB⟩
 rw [if_neg c2] at H
 have c2b0 := decide_eq_false c2
 have c2b1 : decide (80 < a0.size) = false := decide_eq_false (by omega)
 clear c2
 replace H := Option.bind_eq_some_iff.mp H
 obtain ⟨t372, A30, H⟩ := H
 (try dsimp only at H)
 have A3 := Aside0.mk A30
 clear A30
 have H' := Aside0.mk H
 clear H
 go_enter Tryz.func62, Tryz.ntmps62
 go_wp2_with (first | ((with_reducible refine gate_callee (f := 84) rfl ?_); refine goesL_ (some 12) rfl rfl Tryz.func84 (by kernel_rfl) rfl #[.string a0, .int .u8 43] rfl am_ ?_; (with_reducible refine (spec_l1Split.calls k a0 43 t372 _ A3.out).mono ?_); rintro e w4 ⟨v373, rfl, ho0, hb⟩; refine ⟨_, rfl, ?_⟩; have HO374 := Aside0.mk (Kd.R_lower ho0 (below_size (below_to HB))); replace HB := Aside0.mk (below_step (below_to HB) hb); clear hb; (try clear ho0); obtain ⟨Ao5, co5, eo5⟩ := Kd.R_slice HO374.out; subst eo5))
 go_loopg [4, 14] k (fun kq v4 v14 w' => ∃ (x4_1 : List (S37)) (x14_1 : Int), v14 = .int .i64 x14_1 ∧ Aside0 (spec_reParse.l0 kq x4_1 t372 (t372.length : Int) x14_1 = some (r1, r2)) ∧ Aside0 (kq ≤ k) ∧ Aside0 (Kd.R k37 37 w' w.heap.size (fun _ => True) v4 x4_1) ∧ Aside0 (Kd.R Kd.string 9 w' w.heap.size (fun _ => True) (.slice Ao5 t372.length co5) t372) ∧ Aside0 (Below w.heap.size w w'))
 case atStart => exact ⟨(([] : List (S37))), (0), rt_, H', ⟨Nat.le_refl _⟩, ⟨by first | exact Kd.R_nil _ _ _ _ _ | exact Kd.N_nil _ _ _ _ _ | exact Kd.V_nil _ _ _ _ _ | exact Kd.Q_nil _ _ _ _ _ | exact Kd.S_nil _ _ _ _ _⟩, ⟨kd_to HO374⟩, ⟨below_to HB⟩⟩
 clear H'
 try clear c2
 try clear c2b0
 try clear c2b1
 try clear p2
 obtain ⟨x4_1, x14_1, rfl, HA, HK1, HO_4, HO_12, HB⟩ := hrel
 cases gk with
 | zero => exact absurd HA.out (by simp [spec_reParse.l0])
 | succ k1 =>
  have H := HA.out
  clear HA
  simp only [spec_reParse.l0] at H
  by_cases c6 : x14_1 < (t372.length : Int)
  rotate_left
  ·rw [if_neg c6] at H
   have c6b0 := decide_eq_false c6
   clear c6
   replace H := Option.bind_eq_some_iff.mp H
   obtain ⟨t375, A220, H⟩ := H
   (try dsimp only at H)
   have A22 := Aside0.mk A220
   clear A220
   by_cases c23 : t375 = true
   ·subst c23
    rw [if_pos rfl] at H
    simp only [Option.some.injEq, Prod.mk.injEq] at H
    obtain ⟨rfl, rfl⟩ := H
    obtain ⟨Ao24, co24, eo24⟩ := Kd.R_slice HO_4.out
    subst eo24
    go_wp2_with (first | ((with_reducible refine gate_callee (f := 38) rfl ?_); refine goesL_ (some 37) rfl rfl Tryz.func38 (by kernel_rfl) rfl #[.slice Ao24 x4_1.length co24] rfl am_ ?_; (with_reducible refine (spec_reGood.calls k1 _ _ x4_1 true _ ?side1 ?side2 A22.out).mono ?_); (case side1 => exact cR_ HO_4); (case side2 => exact (Kd.R_reads' HO_4.out).2.1); rintro e w25 ⟨rfl, hb⟩; refine ⟨_, rfl, ?_⟩; replace HO_4 := Aside0.mk (Kd.R_below (kd_to HO_4) hb); replace HO_12 := Aside0.mk (Kd.R_below (kd_to HO_12) hb); replace HB := Aside0.mk (below_step (below_to HB) hb); clear hb))
    go_ret2
    exact ⟨_, rtE_, kd_to HO_4, below_to HB⟩
   ·replace c23 := Bool.eq_false_iff.mpr c23
    subst c23
    rw [if_neg ft_] at H
    simp only [Option.some.injEq, Prod.mk.injEq] at H
    obtain ⟨rfl, rfl⟩ := H
    obtain ⟨Ao26, co26, eo26⟩ := Kd.R_slice HO_4.out
    subst eo26
    go_wp2_with (first | ((with_reducible refine gate_callee (f := 38) rfl ?_); refine goesL_ (some 37) rfl rfl Tryz.func38 (by kernel_rfl) rfl #[.slice Ao26 x4_1.length co26] rfl am_ ?_; (with_reducible refine (spec_reGood.calls k1 _ _ x4_1 false _ ?side1 ?side2 A22.out).mono ?_); (case side1 => exact cR_ HO_4); (case side2 => exact (Kd.R_reads' HO_4.out).2.1); rintro e w27 ⟨rfl, hb⟩; refine ⟨_, rfl, ?_⟩; replace HO_4 := Aside0.mk (Kd.R_below (kd_to HO_4) hb); replace HO_12 := Aside0.mk (Kd.R_below (kd_to HO_12) hb); replace HB := Aside0.mk (below_step (below_to HB) hb); clear hb))
    go_ret2
    exact ⟨_, rtE_, by first | exact Kd.R_nil _ _ _ _ _ | exact Kd.N_nil _ _ _ _ _ | exact Kd.V_nil _ _ _ _ _ | exact Kd.Q_nil _ _ _ _ _ | exact Kd.S_nil _ _ _ _ _, below_to HB⟩
  rw [if_pos c6] at H
  have c6b0 := decide_eq_true c6
  clear c6
  by_cases c7 : 0 ≤ x14_1
  rotate_left
  ·rw [if_neg c7] at H
   cases H
  rw [if_pos c7] at H
  have c7b0 := decide_eq_true c7
  clear c7
  by_cases c8 : x14_1 < (t372.length : Int)
  rotate_left
  ·rw [if_neg c8] at H
   cases H
  rw [if_pos c8] at H
  have c8b0 := decide_eq_true c8
  clear c8
  replace H := Option.bind_eq_some_iff.mp H
  obtain ⟨t377, A90, H⟩ := H
  (try dsimp only at H)
  have A9 := Aside0.mk A90
  clear A90
  by_cases c10 : (t377.length : Int) = 2
  rotate_left
  ·rw [if_neg c10] at H
   have c10b0 := beq_eq_false_iff_ne.mpr c10
   have c10b1 := bne_iff_ne.mpr c10
   simp only [Option.some.injEq, Prod.mk.injEq] at H
   obtain ⟨rfl, rfl⟩ := H
   have p376 : 0 ≤ (x14_1 : Int) := odt_
   have q376 : x14_1 < (t372.length : Int) := odt_
   obtain ⟨ad376, e376, hx376_0⟩ := Kd.at_string (Kd.R_reads' HO_12.out).2.2 x14_1 p376 q376
   cases e376
   replace p376 := eq_true p376
   replace q376 := eq_true q376
   go_wp2_with (first | ((with_reducible refine gate_callee (f := 84) rfl ?_); refine goesL_ (some 19) rfl rfl Tryz.func84 (by kernel_rfl) rfl #[.string (rdOf ByteArray.empty t372 x14_1), .int .u8 47] rfl am_ ?_; (with_reducible refine (spec_l1Split.calls k1 (rdOf ByteArray.empty t372 x14_1) 47 t377 _ A9.out).mono ?_); rintro e w20 ⟨v378, rfl, ho0, hb⟩; refine ⟨_, rfl, ?_⟩; have n0_ := Aside0.mk (Kd.R_below (kd_to HO_4) hb); have n1_ := Aside0.mk (Kd.R_elder' (kd_to HO_12) (Kd.R_base ho0) hb); have n2_ := Aside0.mk (Kd.R_lower (Kd.R_new' ho0 (Kd.R_lt (kd_to HO_12))) (below_size (below_to HB))); have n3_ := Aside0.mk (below_step (below_to HB) hb); clear HO_4; clear HO_12; clear HB; have HO_4 := n0_; have HO_12 := n1_; have HO379 := n2_; have HB := n3_; clear n0_ n1_ n2_ n3_; clear hb; (try clear ho0); obtain ⟨Ao21, co21, eo21⟩ := Kd.R_slice HO379.out; subst eo21))
   go_ret2
   exact ⟨_, rtE_, by first | exact Kd.R_nil _ _ _ _ _ | exact Kd.N_nil _ _ _ _ _ | exact Kd.V_nil _ _ _ _ _ | exact Kd.Q_nil _ _ _ _ _ | exact Kd.S_nil _ _ _ _ _, below_to HB⟩
  rw [if_pos c10] at H
  have c10b0 := beq_iff_eq.mpr c10
  have c10b1 := bne_eq_false_iff_eq.mpr c10
  clear c10
  by_cases c11 : 0 < (t377.length : Int)
  rotate_left
  ·rw [if_neg c11] at H
   cases H
  rw [if_pos c11] at H
  have c11b0 := decide_eq_true c11
  have c11b1 : decide (0 < t377.length) = true := decide_eq_true (by omega)
  clear c11
  replace H := Option.bind_eq_some_iff.mp H
  obtain ⟨t381, A120, H⟩ := H
  (try dsimp only at H)
  have A12 := Aside0.mk A120
  clear A120
  by_cases c13 : 1 < (t377.length : Int)
  rotate_left
  ·rw [if_neg c13] at H
   cases H
  rw [if_pos c13] at H
  have c13b0 := decide_eq_true c13
  have c13b1 : decide (1 < t377.length) = true := decide_eq_true (by omega)
  clear c13
  replace H := Option.bind_eq_some_iff.mp H
  obtain ⟨t383, A140, H⟩ := H
  (try dsimp only at H)
  have A14 := Aside0.mk A140
  clear A140
  by_cases c15 : x4_1.length < 8796093022208
  rotate_left
  ·rw [if_neg c15] at H
   cases H
  rw [if_pos c15] at H
  have LMc15 := Aside0.mk c15
  clear c15
  obtain ⟨y384, hy384⟩ : ∃ y_ : List (S37), y_ = (x4_1 ++ [(⟨t381, t383⟩ : S37)]) := ⟨_, rfl⟩
  replace H : (spec_reParse.l0 k1 y384 t372 (t372.length : Int) (wrap64 (x14_1 + 1))) = some (r1, r2) := by first | (rw [hy384]; with_reducible exact H) | (have H2_ := (Option.bind_some _ _).symm.trans H; rw [hy384]; with_reducible exact H2_) | (have H2_ := (Option.bind_some _ _).symm.trans H; with_reducible exact H2_) | with_reducible exact H | (rw [hy384]; exact H) | exact H
  have Ny384 := Aside0.mk hy384
  clear hy384
  have H' := Aside0.mk H
  clear H
  have p376 : 0 ≤ (x14_1 : Int) := odt_
  have q376 : x14_1 < (t372.length : Int) := odt_
  obtain ⟨ad376, e376, hx376_0⟩ := Kd.at_string (Kd.R_reads' HO_12.out).2.2 x14_1 p376 q376
  cases e376
  replace p376 := eq_true p376
  replace q376 := eq_true q376
  try go_wp2_with (first | ((with_reducible refine gate_callee (f := 84) rfl ?_); refine goesL_ (some 19) rfl rfl Tryz.func84 (by kernel_rfl) rfl #[.string (rdOf ByteArray.empty t372 x14_1), .int .u8 47] rfl am_ ?_; (with_reducible refine (spec_l1Split.calls k1 (rdOf ByteArray.empty t372 x14_1) 47 t377 _ A9.out).mono ?_); rintro e w16 ⟨v378, rfl, ho0, hb⟩; refine ⟨_, rfl, ?_⟩; have n0_ := Aside0.mk (Kd.R_below (kd_to HO_4) hb); have n1_ := Aside0.mk (Kd.R_elder' (kd_to HO_12) (Kd.R_base ho0) hb); have n2_ := Aside0.mk (Kd.R_lower (Kd.R_new' ho0 (Kd.R_lt (kd_to HO_12))) (below_size (below_to HB))); have n3_ := Aside0.mk (below_step (below_to HB) hb); clear HO_4; clear HO_12; clear HB; have HO_4 := n0_; have HO_12 := n1_; have HO379 := n2_; have HB := n3_; clear n0_ n1_ n2_ n3_; clear hb; (try clear ho0); obtain ⟨Ao17, co17, eo17⟩ := Kd.R_slice HO379.out; subst eo17))
  have n0_ := Aside0.mk (Kd.R_drew HO_4.out)
  have n1_ := Aside0.mk (Kd.R_drew HO_12.out)
  have n2_ := Aside0.mk (Kd.R_drew HO379.out)
  have n3_ := Aside0.mk (below_drew1 HB.out)
  clear HO_4
  clear HO_12
  clear HO379
  clear HB
  have HO_4 := n0_
  have HO_12 := n1_
  have HO379 := n2_
  have HB := n3_
  clear n0_ n1_ n2_ n3_
  have p380 : 0 ≤ (0 : Int) := (by omega)
  have q380 : 0 < (t377.length : Int) := odt_
  obtain ⟨ad380, e380, hx380_0⟩ := Kd.at_string (Kd.R_reads' HO379.out).2.2 0 p380 q380
  cases e380
  have qi380 : (0 < t377.length) = True := eq_true (by omega)
  (try rw [show ((0 : Int)).toNat = 0 from rfl] at hx380_0)
  (try rw [Addr.add_zero'] at hx380_0)
  replace p380 := eq_true p380
  replace q380 := eq_true q380
  have p382 : 0 ≤ (1 : Int) := (by omega)
  have q382 : 1 < (t377.length : Int) := odt_
  obtain ⟨ad382, e382, hx382_0⟩ := Kd.at_string (Kd.R_reads' HO379.out).2.2 1 p382 q382
  obtain rfl : ad380 = ad382 := (by injection e382)
  (try simp only [show (1 : Int).toNat = 1 from rfl, Nat.reduceMul, Nat.reduceEqDiff, Go.Addr.add, ↓reduceIte] at hx382_0)
  have qi382 : (1 < t377.length) = True := eq_true (by omega)
  (try rw [show ((1 : Int)).toNat = 1 from rfl] at hx382_0)
  replace p382 := eq_true p382
  replace q382 := eq_true q382
  refine start_ (n := 13) (S := fun w' => w'.cell? ad380 = some (.string (rdOf ByteArray.empty t377 0)) ∧ w'.cell? ⟨ad380.block, ad380.off + 1, none⟩ = some (.string (rdOf ByteArray.empty t377 1))) (ds := [10, 11]) (fr_ [0, 13]) (by kernel_rfl) rfl rfl ⟨hx380_0, hx382_0⟩ (fun hHeld => ?_); refine with_tabW spec_reParse.tab10 spec_reParse.bits10 (fun HT_ HW_ => ?_)
  generalize w16.drew = w18 at HO_4 HO_12 HO379 HB hx380_0 hx382_0 hHeld ⊢
  refine purS_ (i := 0) (N := some 23) (fl_ 13 1) HT_.out ?_
  refine purS_ (i := 1) (N := some 24) (fl_ 13 2) HT_.out ?_
  refine purS_ (i := 2) (N := some 25) (fl_ 13 3) HT_.out ?_
  refine purS_ (i := 5) (N := some 28) (fr_ [3, 2, 1, 7]) HT_.out ?_
  refine purS_ (i := 6) (N := some 29) (fr_ [3, 2, 2, 6]) HT_.out ?_
  refine take_ (i := 3) (N := some 26) (v := ?_) (a' := ?_) (fr_ [4, 1, 2, 6]) rfl rfl (take_ofW HT_.out HW_.out (by kernel_rfl)) (fun _ _ _ h => h) (Or.inl ⟨by rfl, ?_⟩) hHeld ?_ ?_
  rotate_left
  ·rintro w' ⟨s0, s1⟩
   go_simp
   with_reducible rfl
  rotate_left
  ·simp only [Act.put, List.setIfInBounds_toArray, List.set_cons_zero, List.set_cons_succ, i64_w, i32_w]
   rfl
  refine take_ (i := 7) (N := some 30) (v := ?_) (a' := ?_) (fr_ [4, 1, 3, 5]) rfl rfl (take_ofW HT_.out HW_.out (by kernel_rfl)) (fun _ _ _ h => h) (Or.inl ⟨by rfl, ?_⟩) hHeld ?_ ?_
  rotate_left
  ·rintro w' ⟨s0, s1⟩
   go_simp
   with_reducible rfl
  rotate_left
  ·simp only [Act.put, List.setIfInBounds_toArray, List.set_cons_zero, List.set_cons_succ, i64_w, i32_w]
   rfl
  refine one_ (i := 4) (N := some 27) (fr_ [8, 5]) rfl rfl (one_of HT_.out (by kernel_rfl)) (by decide) (fun K hK => ?_)
  refine goes_ Tryz.func85 (by kernel_rfl) rfl #[.string (rdOf ByteArray.empty t377 0)] (by rfl) rfl rfl am_ ?_
  with_reducible refine (spec_l1Read.calls k1 (rdOf ByteArray.empty t377 0) t381 _ A12.out).mono ?_
  rintro e w' ⟨rfl, ⟨nd, rfl⟩⟩
  refine ⟨_, rfl, ?_⟩
  refine hK.out _ _ ⟨hHeld.1, hHeld.2⟩ (fun hHeld => ?_)
  clear hK K
  refine norm_ (a' := ?_) ?_ ?_
  rotate_left
  ·show Act.put _ (some 27) _ = _
   simp only [Act.put, List.setIfInBounds_toArray, List.set_cons_zero, List.set_cons_succ, i64_w, i32_w]
   rfl
  refine one_ (i := 8) (N := some 31) (fr_ [9, 4]) rfl rfl (one_of HT_.out (by kernel_rfl)) (by decide) (fun K hK => ?_)
  refine goes_ Tryz.func85 (by kernel_rfl) rfl #[.string (rdOf ByteArray.empty t377 1)] (by rfl) rfl rfl am_ ?_
  with_reducible refine (spec_l1Read.calls k1 (rdOf ByteArray.empty t377 1) t383 _ A14.out).mono ?_
  rintro e w' ⟨rfl, ⟨nd, rfl⟩⟩
  refine ⟨_, rfl, ?_⟩
  refine hK.out _ _ ⟨hHeld.1, hHeld.2⟩ (fun hHeld => ?_)
  clear hK K
  refine norm_ (a' := ?_) ?_ ?_
  rotate_left
  ·show Act.put _ (some 31) _ = _
   simp only [Act.put, List.setIfInBounds_toArray, List.set_cons_zero, List.set_cons_succ, i64_w, i32_w]
   rfl
  refine purS_ (i := 9) (N := some 32) (fl_ 13 10) HT_.out ?_
  refine last_ (i := 10) (N := some 33) (fr_ [11, 2]) rfl rfl (one_of HT_.out (by kernel_rfl)) (by decide) (fun K hK => ?_)
  refine value_ (w1 := ?_) (v := ?_) (by rfl) rfl ?_ ?_
  rotate_left 2
  ·go_simp
   constructor
   ·rfl
   ·rfl
  refine hK.out _ _ ?_
  clear hK K
  refine norm_ (a' := ?_) ?_ ?_
  rotate_left
  ·show Act.put _ (some 33) _ = _
   simp only [Act.put, List.setIfInBounds_toArray, List.set_cons_zero, List.set_cons_succ, i64_w, i32_w]
   rfl
  refine last_ (i := 11) (N := some 34) (fr_ [12, 1]) rfl rfl (one_of HT_.out (by kernel_rfl)) (by decide) (fun K hK => ?_)
  refine Kd.R_append_step k37 (w0 := w) w.heap.size (by rfl) (.tmp 23) (.tmp 33) 22 37 (.agg #[(.int .i64 0), (.int .i64 0)]) 16 rfl Tryz.underlying22 info37 rfl (by decide) (by omega) u4 x4_1 (⟨t381, t383⟩ : S37) [.int .i64 t381, .int .i64 t383] (fun _ => True) (fun _ => False) rfl rfl ?aP (fun _ hk => hk.elim) ?aF ?aO ?aB ?aS ?aL ?_
  (case aP => exact k37_mkM _ _ _ (⟨t381, t383⟩ : S37))
  (case aB => exact (below_to HB))
  (case aF => exact (fun _ _ => trivial))
  (case aO => exact (kd_to HO_4))
  (case aS => exact (below_size (below_to HB)))
  (case aL => have := LMc15.out; omega)
  intro v385 w19 ho hb hg hat
  rw [← Ny384.out] at ho
  have n0_ := Aside0.mk (Kd.R_over' (kd_to HO_12) (Kd.R_typed (kd_to HO_4)) (by decide) hg)
  have n1_ := Aside0.mk (Kd.R_over' (kd_to HO379) (Kd.R_typed (kd_to HO_4)) (by decide) hg)
  have n2_ := Aside0.mk (hb)
  have n3_ := Aside0.mk (ho)
  clear HO_12
  clear HO379
  clear HB
  clear HO_4
  have HO_12 := n0_
  have HO379 := n1_
  have HB := n2_
  have HO386 := n3_
  clear n0_ n1_ n2_ n3_
  clear ho hb hg hat
  refine hK.out _ _ ?_
  clear hK K
  refine norm_ (a' := ?_) ?_ ?_
  rotate_left
  ·show Act.put _ (some 34) _ = _
   simp only [Act.put, List.setIfInBounds_toArray, List.set_cons_zero, List.set_cons_succ, i64_w, i32_w]
   rfl
  refine purS_ (i := 12) (N := some 4) (fl_ 13 13) HT_.out ?_
  refine done_ (done_of HT_.out (by kernel_rfl)) ?_
  try go_wp2
  go_roundg k1
  case measure => have := HK1.out; omega
  case rel => exact ⟨(y384), (wrap64 (x14_1 + 1)), rt_, H', ⟨by have := HK1.out; omega⟩, ⟨kd_to HO386⟩, ⟨by (with_reducible repeat (first | apply Kd.R_alloc | apply Kd.R_drewN | apply Kd.R_drew)); exact Kd.R_mono HO_12.out (fun _ hk => trivial)⟩, ⟨below_to HB⟩⟩
def spec_ParseLegs.f (k : Nat) (a0 : ByteArray) : Option ((List (S37)) × Bool) := (spec_reParse.f k a0).bind fun bt387 => (some (bt387.1, bt387.2))
theorem spec_ParseLegs.calls (k : Nat) (a0 : ByteArray) (r1 : List (S37)) (r2 : Bool) (w : World) (h : spec_ParseLegs.f k a0 = some (r1, r2)) :
  Calls Tryz.prog 31 #[.string a0] w fun e w' => ∃ Aa : Value, e = .returned (.tuple #[Aa, .bool r2]) ∧ Kd.R k37 37 w' w.heap.size (fun _ => True) Aa r1 ∧ Below w.heap.size w w' := by
 have HB := Aside0.mk (Below.refl w.heap.size w)
 have H := h
 unfold spec_ParseLegs.f at H
 clear h
 replace H := Option.bind_eq_some_iff.mp H
 obtain ⟨⟨t387, t388⟩, A20, H⟩ := H
 (try dsimp only at H)
 have A2 := Aside0.mk A20
 clear A20
 simp only [Option.some.injEq, Prod.mk.injEq] at H
 obtain ⟨rfl, rfl⟩ := H
 go_enter Tryz.func31, Tryz.ntmps31
 go_wp2_with (first | ((with_reducible refine gate_callee (f := 62) rfl ?_); refine goesL_ (some 5) rfl rfl Tryz.func62 (by kernel_rfl) rfl #[.string a0] rfl am_ ?_; (with_reducible refine (spec_reParse.calls k a0 t387 t388 _ A2.out).mono ?_); rintro e w3 ⟨v389, rfl, ho0, hb⟩; refine ⟨_, rfl, ?_⟩; have HO390 := Aside0.mk (Kd.R_lower ho0 (below_size (below_to HB))); replace HB := Aside0.mk (below_step (below_to HB) hb); clear hb; (try clear ho0)))
 go_ret2
 exact ⟨_, rtE_, kd_to HO390, below_to HB⟩
def laws_big.f (l0 : List Int) (l1 : List Int) : Option (Bool) := if (l0.length : Int) > 1048576 then (some true) else (some (decide ((l1.length : Int) > (wrap64 (1048576 - (l0.length : Int))))))
theorem laws_big.calls (A0 : Option Addr) (c0 : Nat) (l0 : List Int) (A1 : Option Addr) (c1 : Nat) (l1 : List Int) (r : Bool) (w : World) (hr0 : Kd.C (Kd.int .u8) w A0 l0.length l0) (hc0 : l0.length ≤ c0) (hr1 : Kd.C (Kd.int .u8) w A1 l1.length l1) (hc1 : l1.length ≤ c1) (h : laws_big.f l0 l1 = some r) :
  Calls Tryz.prog 32 #[.slice A0 l0.length c0, .slice A1 l1.length c1] w fun e w' => e = .returned (.bool r) ∧ Drawn0 w w' := by
 have HR0 := Aside0.mk hr0
 have HC0 := Aside0.mk hc0
 clear hr0 hc0
 have HR1 := Aside0.mk hr1
 have HC1 := Aside0.mk hc1
 clear hr1 hc1
 have H := h
 unfold laws_big.f at H
 clear h
 by_cases c3 : (l0.length : Int) > 1048576
 ·rw [if_pos c3] at H
  have c3b0 := decide_eq_true c3
  have c3b1 : decide (1048576 < l0.length) = true := decide_eq_true (by omega)
  clear c3
  obtain rfl := Option.some.inj H
  go_enter Tryz.func32, Tryz.ntmps32
  go_wp2
  go_ret
  exact ⟨rt_, d0_⟩
 ·rw [if_neg c3] at H
  have c3b0 := decide_eq_false c3
  have c3b1 : decide (1048576 < l0.length) = false := decide_eq_false (by omega)
  clear c3
  obtain rfl := Option.some.inj H
  go_enter Tryz.func32, Tryz.ntmps32
  go_wp2
  go_ret
  exact ⟨rt_, d0_⟩
end Go.Proofs.YtbhnpccbjgbcbaaGreatDoor.QD
