-- WRITTEN BY a program of this session (wip/xprint.py, over the kit's print): Lean checks it.
import Derived.Test.YtoaacabnlfglmaaDoorQVx0
import Derived.Test.YtoaacabnlfglmaaDoorQVx10
import Derived.Test.YtoaacabnlfglmaaDoorXParse
import Derived.Test.YtoaacabnlfglmaaDoorXText
namespace Go.Proofs.YtoaacabnlfglmaaDoor.QV
open Go.Proofs.YtoaacabnlfglmaaDoor.X Go.RowKit Go.Proofs.YtoaacabnlfglmaaDoorW.PrintWords Go.Proofs.YtoaacabnlfglmaaDoorW.PrintLast Go.Proofs.YtoaacabnlfglmaaDoorW.PrintMore
attribute [local go_sem] max2_int min2_int max_two min_two max_three min_three max_four min_four   -- for this text's walks alone
set_option linter.unusedVariables false
set_option linter.unusedSimpArgs false

/-! ### impl_lineText: function 48 -/
def impl_lineText.f (k : Nat) (a0_0 : Int) (a0_1 : Int) (a0_2 : Int) (l0_3 : List Int) : Option (ByteArray) := (strconv_Itoa.f a0_0).bind fun t322 => (if t322.size + 1 ≤ 9223372036854775807 then ((strconv_Itoa.f a0_1).bind fun t323 => (if (t322 ++ (⟨#[43]⟩ : ByteArray)).size + t323.size ≤ 9223372036854775807 then (if ((t322 ++ (⟨#[43]⟩ : ByteArray)) ++ t323).size + 1 ≤ 9223372036854775807 then ((strconv_Itoa.f a0_2).bind fun t324 => (if (((t322 ++ (⟨#[43]⟩ : ByteArray)) ++ t323) ++ (⟨#[120]⟩ : ByteArray)).size + t324.size ≤ 9223372036854775807 then (if ((((t322 ++ (⟨#[43]⟩ : ByteArray)) ++ t323) ++ (⟨#[120]⟩ : ByteArray)) ++ t324).size + 1 ≤ 9223372036854775807 then ((impl_joinNumbers.f k l0_3 (⟨#[44]⟩ : ByteArray)).bind fun t325 => (if (((((t322 ++ (⟨#[43]⟩ : ByteArray)) ++ t323) ++ (⟨#[120]⟩ : ByteArray)) ++ t324) ++ (⟨#[58]⟩ : ByteArray)).size + t325.size ≤ 9223372036854775807 then (some ((((((t322 ++ (⟨#[43]⟩ : ByteArray)) ++ t323) ++ (⟨#[120]⟩ : ByteArray)) ++ t324) ++ (⟨#[58]⟩ : ByteArray)) ++ t325)) else (none))) else (none)) else (none))) else (none)) else (none))) else (none))
theorem impl_lineText.mono : ∀ a0 a1 a2 a3 k, LeO (impl_lineText.f k a0 a1 a2 a3) (impl_lineText.f (k + 1) a0 a1 a2 a3) := by
  intro a0 a1 a2 a3 k
  unfold impl_lineText.f
  repeat' first
      | (with_reducible exact impl_joinNumbers.mono _ _ _)
      | (with_reducible exact LeO.refl _)
      | (with_reducible exact LeO.none _)
      | (with_reducible refine LeO.ite ?_ ?_)
      | (with_reducible refine LeO.bind ?_ (fun _ => ?_))
      | exact impl_joinNumbers.mono _ _ _
      | exact LeO.none _
      | refine LeO.ite ?_ ?_
      | refine LeO.bind ?_ (fun _ => ?_)
def impl_lineText.T1 : Bool × List (List Nat × List Nat) := (true, [([], []), ([0], [0]), ([1], [1]), ([2], [2]), ([], []), ([4], [4]), ([5, 2], [5]), ([3, 6], [3, 6]), ([7], [7]), ([], []), ([9], [9]), ([10, 6], [10]), ([8, 11], [8, 11]), ([12], [12]), ([], []), ([14], [14]), ([15, 11], [15]), ([13, 16], [13, 16]), ([17, 16, 0, 1, 2, 3, 4, 5, 6, 7, 8, 9, 10, 11, 12, 13, 14, 15, 16, 17], [17])])
def impl_lineText.B1 : List Nat := [0, 1, 3, 7, 0, 16, 55, 127, 255, 0, 512, 1655, 4095, 8191, 0, 16384, 52855, 131071, 262143]
theorem impl_lineText.tab1 : rtab .any (opsOf Tryd.f48 1) = impl_lineText.T1 := by kernel_rfl
theorem impl_lineText.bits1 : waitsOk impl_lineText.T1.2 impl_lineText.B1 = true := by kernel_rfl
set_option maxHeartbeats 8000000 in
set_option maxRecDepth 100000 in
theorem impl_lineText.calls (k : Nat) (a0_0 : Int) (a0_1 : Int) (a0_2 : Int) (A0_3 : Option Addr) (c0_3 : Nat) (l0_3 : List Int) (r : ByteArray) (w : World) (hr0_3 : Kd.C (Kd.int .i64) w A0_3 l0_3.length l0_3) (hc0_3 : l0_3.length ≤ c0_3) (h : impl_lineText.f k a0_0 a0_1 a0_2 l0_3 = some r) (hT_ : Go.Proofs.YtoaacabnlfglmaaDoor.XText.T1 w) :
    Calls Tryd.prog 48 #[.agg #[.int .i64 a0_0, .int .i64 a0_1, .int .i64 a0_2, .slice A0_3 l0_3.length c0_3]] w fun e w' => e = .returned (.string r) ∧ Below w.heap.size w w' := by
  have HTab_ := Aside0.mk hT_
  clear hT_
  have hu41 := Tryd.underlying41
  have HR0_3 := Aside0.mk hr0_3
  have HC0_3 := Aside0.mk hc0_3
  clear hr0_3 hc0_3
  have HB := Aside0.mk (Below.refl w.heap.size w)
  have H : ((strconv_Itoa.f a0_0).bind fun t322 => (if t322.size + 1 ≤ 9223372036854775807 then ((strconv_Itoa.f a0_1).bind fun t323 => (if (t322 ++ (⟨#[43]⟩ : ByteArray)).size + t323.size ≤ 9223372036854775807 then (if ((t322 ++ (⟨#[43]⟩ : ByteArray)) ++ t323).size + 1 ≤ 9223372036854775807 then ((strconv_Itoa.f a0_2).bind fun t324 => (if (((t322 ++ (⟨#[43]⟩ : ByteArray)) ++ t323) ++ (⟨#[120]⟩ : ByteArray)).size + t324.size ≤ 9223372036854775807 then (if ((((t322 ++ (⟨#[43]⟩ : ByteArray)) ++ t323) ++ (⟨#[120]⟩ : ByteArray)) ++ t324).size + 1 ≤ 9223372036854775807 then ((impl_joinNumbers.f k l0_3 (⟨#[44]⟩ : ByteArray)).bind fun t325 => (if (((((t322 ++ (⟨#[43]⟩ : ByteArray)) ++ t323) ++ (⟨#[120]⟩ : ByteArray)) ++ t324) ++ (⟨#[58]⟩ : ByteArray)).size + t325.size ≤ 9223372036854775807 then (some ((((((t322 ++ (⟨#[43]⟩ : ByteArray)) ++ t323) ++ (⟨#[120]⟩ : ByteArray)) ++ t324) ++ (⟨#[58]⟩ : ByteArray)) ++ t325)) else (none))) else (none)) else (none))) else (none)) else (none))) else (none))) = some r := h
  clear h
  replace H := Option.bind_eq_some_iff.mp H
  obtain ⟨t322, A20, H⟩ := H
  replace H : (if t322.size + 1 ≤ 9223372036854775807 then ((strconv_Itoa.f a0_1).bind fun t323 => (if (t322 ++ (⟨#[43]⟩ : ByteArray)).size + t323.size ≤ 9223372036854775807 then (if ((t322 ++ (⟨#[43]⟩ : ByteArray)) ++ t323).size + 1 ≤ 9223372036854775807 then ((strconv_Itoa.f a0_2).bind fun t324 => (if (((t322 ++ (⟨#[43]⟩ : ByteArray)) ++ t323) ++ (⟨#[120]⟩ : ByteArray)).size + t324.size ≤ 9223372036854775807 then (if ((((t322 ++ (⟨#[43]⟩ : ByteArray)) ++ t323) ++ (⟨#[120]⟩ : ByteArray)) ++ t324).size + 1 ≤ 9223372036854775807 then ((impl_joinNumbers.f k l0_3 (⟨#[44]⟩ : ByteArray)).bind fun t325 => (if (((((t322 ++ (⟨#[43]⟩ : ByteArray)) ++ t323) ++ (⟨#[120]⟩ : ByteArray)) ++ t324) ++ (⟨#[58]⟩ : ByteArray)).size + t325.size ≤ 9223372036854775807 then (some ((((((t322 ++ (⟨#[43]⟩ : ByteArray)) ++ t323) ++ (⟨#[120]⟩ : ByteArray)) ++ t324) ++ (⟨#[58]⟩ : ByteArray)) ++ t325)) else (none))) else (none)) else (none))) else (none)) else (none))) else (none)) = some r := H
  have A2 := Aside0.mk A20
  clear A20
  by_cases c3 : t322.size + 1 ≤ 9223372036854775807
  · rw [if_pos c3] at H
    have c3b0 := eq_true c3
    have c3b1 : decide (t322.size + 1 ≤ 9223372036854775807) = true := decide_eq_true c3
    try have c3b2 : (9223372036854775807 < t322.size + 1) = False := eq_false (Nat.not_lt.2 c3)
    replace H := Option.bind_eq_some_iff.mp H
    obtain ⟨t323, A40, H⟩ := H
    replace H : (if (t322 ++ (⟨#[43]⟩ : ByteArray)).size + t323.size ≤ 9223372036854775807 then (if ((t322 ++ (⟨#[43]⟩ : ByteArray)) ++ t323).size + 1 ≤ 9223372036854775807 then ((strconv_Itoa.f a0_2).bind fun t324 => (if (((t322 ++ (⟨#[43]⟩ : ByteArray)) ++ t323) ++ (⟨#[120]⟩ : ByteArray)).size + t324.size ≤ 9223372036854775807 then (if ((((t322 ++ (⟨#[43]⟩ : ByteArray)) ++ t323) ++ (⟨#[120]⟩ : ByteArray)) ++ t324).size + 1 ≤ 9223372036854775807 then ((impl_joinNumbers.f k l0_3 (⟨#[44]⟩ : ByteArray)).bind fun t325 => (if (((((t322 ++ (⟨#[43]⟩ : ByteArray)) ++ t323) ++ (⟨#[120]⟩ : ByteArray)) ++ t324) ++ (⟨#[58]⟩ : ByteArray)).size + t325.size ≤ 9223372036854775807 then (some ((((((t322 ++ (⟨#[43]⟩ : ByteArray)) ++ t323) ++ (⟨#[120]⟩ : ByteArray)) ++ t324) ++ (⟨#[58]⟩ : ByteArray)) ++ t325)) else (none))) else (none)) else (none))) else (none)) else (none)) = some r := H
    have A4 := Aside0.mk A40
    clear A40
    by_cases c5 : (t322 ++ (⟨#[43]⟩ : ByteArray)).size + t323.size ≤ 9223372036854775807
    · rw [if_pos c5] at H
      have c5b0 := eq_true c5
      have c5b1 : decide ((t322 ++ (⟨#[43]⟩ : ByteArray)).size + t323.size ≤ 9223372036854775807) = true := decide_eq_true c5
      try have c5b2 : (9223372036854775807 < (t322 ++ (⟨#[43]⟩ : ByteArray)).size + t323.size) = False := eq_false (Nat.not_lt.2 c5)
      have c5b8 : (9223372036854775807 < t322.size + 1 + t323.size) = False := eq_false (by have h_ := c5; simp only [ByteArray.size_append] at h_; have : (⟨#[43]⟩ : ByteArray).size = 1 := rfl; omega)
      have c5b9 : decide (t322.size + 1 + t323.size ≤ 9223372036854775807) = true := decide_eq_true (by have h_ := c5; simp only [ByteArray.size_append] at h_; have : (⟨#[43]⟩ : ByteArray).size = 1 := rfl; omega)
      by_cases c6 : ((t322 ++ (⟨#[43]⟩ : ByteArray)) ++ t323).size + 1 ≤ 9223372036854775807
      · rw [if_pos c6] at H
        have c6b0 := eq_true c6
        have c6b1 : decide (((t322 ++ (⟨#[43]⟩ : ByteArray)) ++ t323).size + 1 ≤ 9223372036854775807) = true := decide_eq_true c6
        try have c6b2 : (9223372036854775807 < ((t322 ++ (⟨#[43]⟩ : ByteArray)) ++ t323).size + 1) = False := eq_false (Nat.not_lt.2 c6)
        have c6b8 : (9223372036854775807 < t322.size + 1 + t323.size + 1) = False := eq_false (by have h_ := c6; simp only [ByteArray.size_append] at h_; have : (⟨#[43]⟩ : ByteArray).size = 1 := rfl; omega)
        have c6b9 : decide (t322.size + 1 + t323.size + 1 ≤ 9223372036854775807) = true := decide_eq_true (by have h_ := c6; simp only [ByteArray.size_append] at h_; have : (⟨#[43]⟩ : ByteArray).size = 1 := rfl; omega)
        replace H := Option.bind_eq_some_iff.mp H
        obtain ⟨t324, A70, H⟩ := H
        replace H : (if (((t322 ++ (⟨#[43]⟩ : ByteArray)) ++ t323) ++ (⟨#[120]⟩ : ByteArray)).size + t324.size ≤ 9223372036854775807 then (if ((((t322 ++ (⟨#[43]⟩ : ByteArray)) ++ t323) ++ (⟨#[120]⟩ : ByteArray)) ++ t324).size + 1 ≤ 9223372036854775807 then ((impl_joinNumbers.f k l0_3 (⟨#[44]⟩ : ByteArray)).bind fun t325 => (if (((((t322 ++ (⟨#[43]⟩ : ByteArray)) ++ t323) ++ (⟨#[120]⟩ : ByteArray)) ++ t324) ++ (⟨#[58]⟩ : ByteArray)).size + t325.size ≤ 9223372036854775807 then (some ((((((t322 ++ (⟨#[43]⟩ : ByteArray)) ++ t323) ++ (⟨#[120]⟩ : ByteArray)) ++ t324) ++ (⟨#[58]⟩ : ByteArray)) ++ t325)) else (none))) else (none)) else (none)) = some r := H
        have A7 := Aside0.mk A70
        clear A70
        by_cases c8 : (((t322 ++ (⟨#[43]⟩ : ByteArray)) ++ t323) ++ (⟨#[120]⟩ : ByteArray)).size + t324.size ≤ 9223372036854775807
        · rw [if_pos c8] at H
          have c8b0 := eq_true c8
          have c8b1 : decide ((((t322 ++ (⟨#[43]⟩ : ByteArray)) ++ t323) ++ (⟨#[120]⟩ : ByteArray)).size + t324.size ≤ 9223372036854775807) = true := decide_eq_true c8
          try have c8b2 : (9223372036854775807 < (((t322 ++ (⟨#[43]⟩ : ByteArray)) ++ t323) ++ (⟨#[120]⟩ : ByteArray)).size + t324.size) = False := eq_false (Nat.not_lt.2 c8)
          have c8b8 : (9223372036854775807 < t322.size + 1 + t323.size + 1 + t324.size) = False := eq_false (by have h_ := c8; simp only [ByteArray.size_append] at h_; have : (⟨#[120]⟩ : ByteArray).size = 1 := rfl; have : (⟨#[43]⟩ : ByteArray).size = 1 := rfl; omega)
          have c8b9 : decide (t322.size + 1 + t323.size + 1 + t324.size ≤ 9223372036854775807) = true := decide_eq_true (by have h_ := c8; simp only [ByteArray.size_append] at h_; have : (⟨#[120]⟩ : ByteArray).size = 1 := rfl; have : (⟨#[43]⟩ : ByteArray).size = 1 := rfl; omega)
          by_cases c9 : ((((t322 ++ (⟨#[43]⟩ : ByteArray)) ++ t323) ++ (⟨#[120]⟩ : ByteArray)) ++ t324).size + 1 ≤ 9223372036854775807
          · rw [if_pos c9] at H
            have c9b0 := eq_true c9
            have c9b1 : decide (((((t322 ++ (⟨#[43]⟩ : ByteArray)) ++ t323) ++ (⟨#[120]⟩ : ByteArray)) ++ t324).size + 1 ≤ 9223372036854775807) = true := decide_eq_true c9
            try have c9b2 : (9223372036854775807 < ((((t322 ++ (⟨#[43]⟩ : ByteArray)) ++ t323) ++ (⟨#[120]⟩ : ByteArray)) ++ t324).size + 1) = False := eq_false (Nat.not_lt.2 c9)
            have c9b8 : (9223372036854775807 < t322.size + 1 + t323.size + 1 + t324.size + 1) = False := eq_false (by have h_ := c9; simp only [ByteArray.size_append] at h_; have : (⟨#[120]⟩ : ByteArray).size = 1 := rfl; have : (⟨#[43]⟩ : ByteArray).size = 1 := rfl; omega)
            have c9b9 : decide (t322.size + 1 + t323.size + 1 + t324.size + 1 ≤ 9223372036854775807) = true := decide_eq_true (by have h_ := c9; simp only [ByteArray.size_append] at h_; have : (⟨#[120]⟩ : ByteArray).size = 1 := rfl; have : (⟨#[43]⟩ : ByteArray).size = 1 := rfl; omega)
            replace H := Option.bind_eq_some_iff.mp H
            obtain ⟨t325, A100, H⟩ := H
            replace H : (if (((((t322 ++ (⟨#[43]⟩ : ByteArray)) ++ t323) ++ (⟨#[120]⟩ : ByteArray)) ++ t324) ++ (⟨#[58]⟩ : ByteArray)).size + t325.size ≤ 9223372036854775807 then (some ((((((t322 ++ (⟨#[43]⟩ : ByteArray)) ++ t323) ++ (⟨#[120]⟩ : ByteArray)) ++ t324) ++ (⟨#[58]⟩ : ByteArray)) ++ t325)) else (none)) = some r := H
            have A10 := Aside0.mk A100
            clear A100
            by_cases c11 : (((((t322 ++ (⟨#[43]⟩ : ByteArray)) ++ t323) ++ (⟨#[120]⟩ : ByteArray)) ++ t324) ++ (⟨#[58]⟩ : ByteArray)).size + t325.size ≤ 9223372036854775807
            · rw [if_pos c11] at H
              have c11b0 := eq_true c11
              have c11b1 : decide ((((((t322 ++ (⟨#[43]⟩ : ByteArray)) ++ t323) ++ (⟨#[120]⟩ : ByteArray)) ++ t324) ++ (⟨#[58]⟩ : ByteArray)).size + t325.size ≤ 9223372036854775807) = true := decide_eq_true c11
              try have c11b2 : (9223372036854775807 < (((((t322 ++ (⟨#[43]⟩ : ByteArray)) ++ t323) ++ (⟨#[120]⟩ : ByteArray)) ++ t324) ++ (⟨#[58]⟩ : ByteArray)).size + t325.size) = False := eq_false (Nat.not_lt.2 c11)
              have c11b8 : (9223372036854775807 < t322.size + 1 + t323.size + 1 + t324.size + 1 + t325.size) = False := eq_false (by have h_ := c11; simp only [ByteArray.size_append] at h_; have : (⟨#[120]⟩ : ByteArray).size = 1 := rfl; have : (⟨#[43]⟩ : ByteArray).size = 1 := rfl; have : (⟨#[58]⟩ : ByteArray).size = 1 := rfl; omega)
              have c11b9 : decide (t322.size + 1 + t323.size + 1 + t324.size + 1 + t325.size ≤ 9223372036854775807) = true := decide_eq_true (by have h_ := c11; simp only [ByteArray.size_append] at h_; have : (⟨#[120]⟩ : ByteArray).size = 1 := rfl; have : (⟨#[43]⟩ : ByteArray).size = 1 := rfl; have : (⟨#[58]⟩ : ByteArray).size = 1 := rfl; omega)
              obtain rfl := Option.some.inj H
              go_enter Tryd.func48, Tryd.ntmps48
              try go_wp2_with (first | ((with_reducible refine gate_dst (N := 1) rfl ?_); refine box_event ?hg (N := 1) ?hd (cs := #[.int .i64 a0_0, .int .i64 a0_1, .int .i64 a0_2, .slice A0_3 l0_3.length c0_3]) (t := 41) ?hr ?_; (case hd => rfl); (case hg => rfl); (case hr => first | (go_simp; done) | (go_simp; rfl)); intro gb321 hg w12 hbox hb; have n0_ := Aside0.mk (below_step (by repeat (first | (with_reducible first | exact HB.out | apply below_alloc | apply pw_below_drewN | apply below_drew1) | exact HB.out)) hb); have n1_ := Aside0.mk (hbox); have n2_ := Aside0.mk ((by rw [hg]; exact (below_size (by repeat (first | (with_reducible first | exact HB.out | apply below_alloc | apply pw_below_drewN | apply below_drew1) | exact HB.out))) : w.heap.size ≤ gb321)); have n3_ := Aside0.mk ((by rw [hg]; exact (below_size (by repeat (first | (with_reducible first | exact HB.out | apply below_alloc | apply pw_below_drewN | apply below_drew1) | exact HB.out))) : w.heap.size ≤ gb321)); clear HB; have HB := n0_; have BK321 := n1_; have GW321 := n2_; have GE321 := n3_; clear n0_ n1_ n2_ n3_; clear hb hbox hg))
              have n0_ := Aside0.mk (blk_drew BK321.out)
              have n1_ := Aside0.mk (below_drew1 HB.out)
              clear BK321
              clear HB
              have BK321 := n0_
              have HB := n1_
              clear n0_ n1_
              refine start_ (n := 19) (S := fun w' => w'.cell? ⟨gb321, 0, none⟩ = some (.int .i64 a0_0) ∧ w'.cell? ⟨gb321, 1, none⟩ = some (.int .i64 a0_1) ∧ w'.cell? ⟨gb321, 2, none⟩ = some (.int .i64 a0_2) ∧ w'.cell? ⟨gb321, 3, none⟩ = some (.slice A0_3 l0_3.length c0_3)) (ds := []) #[false, false, false, false, false, false, false, false, false, false, false, false, false, false, false, false, false, false, false] (by kernel_rfl) rfl rfl ⟨(blk_cell BK321.out 0).trans rfl, (blk_cell BK321.out 1).trans rfl, (blk_cell BK321.out 2).trans rfl, (blk_cell BK321.out 3).trans rfl⟩ (fun hHeld => ?_); refine with_tabW impl_lineText.tab1 impl_lineText.bits1 (fun HT_ HW_ => ?_)
              generalize w12.drew = w13 at BK321 HB hHeld ⊢
              refine pure_ (i := 0) (N := some 3) (v := ?_) (a' := ?_) #[true, false, false, false, false, false, false, false, false, false, false, false, false, false, false, false, false, false, false] rfl rfl (any_of HT_.out (by kernel_rfl)) (fun _ _ _ h => h) (Or.inl ⟨by rfl, ?_⟩) ?_ ?_
              rotate_left
              · intro w'
                go_simp
                with_reducible rfl
              rotate_left
              · simp only [Act.put, List.setIfInBounds_toArray, List.set_cons_zero, List.set_cons_succ, i64_w, i32_w]
                rfl
              refine pure_ (i := 4) (N := some 7) (v := ?_) (a' := ?_) #[true, false, false, false, true, false, false, false, false, false, false, false, false, false, false, false, false, false, false] rfl rfl (any_of HT_.out (by kernel_rfl)) (fun _ _ _ h => h) (Or.inl ⟨by rfl, ?_⟩) ?_ ?_
              rotate_left
              · intro w'
                go_simp
                with_reducible rfl
              rotate_left
              · simp only [Act.put, List.setIfInBounds_toArray, List.set_cons_zero, List.set_cons_succ, i64_w, i32_w]
                rfl
              refine pure_ (i := 9) (N := some 12) (v := ?_) (a' := ?_) #[true, false, false, false, true, false, false, false, false, true, false, false, false, false, false, false, false, false, false] rfl rfl (any_of HT_.out (by kernel_rfl)) (fun _ _ _ h => h) (Or.inl ⟨by rfl, ?_⟩) ?_ ?_
              rotate_left
              · intro w'
                go_simp
                with_reducible rfl
              rotate_left
              · simp only [Act.put, List.setIfInBounds_toArray, List.set_cons_zero, List.set_cons_succ, i64_w, i32_w]
                rfl
              refine pure_ (i := 14) (N := some 17) (v := ?_) (a' := ?_) #[true, false, false, false, true, false, false, false, false, true, false, false, false, false, true, false, false, false, false] rfl rfl (any_of HT_.out (by kernel_rfl)) (fun _ _ _ h => h) (Or.inl ⟨by rfl, ?_⟩) ?_ ?_
              rotate_left
              · intro w'
                go_simp
                with_reducible rfl
              rotate_left
              · simp only [Act.put, List.setIfInBounds_toArray, List.set_cons_zero, List.set_cons_succ, i64_w, i32_w]
                rfl
              refine take_ (i := 1) (N := some 4) (v := ?_) (a' := ?_) #[true, true, false, false, true, false, false, false, false, true, false, false, false, false, true, false, false, false, false] rfl rfl (take_ofW HT_.out HW_.out (by kernel_rfl)) (fun _ _ _ h => h) (Or.inl ⟨by rfl, ?_⟩) hHeld ?_ ?_
              rotate_left
              · rintro w' ⟨s0, s1, s2, s3⟩
                go_simp
                with_reducible rfl
              rotate_left
              · simp only [Act.put, List.setIfInBounds_toArray, List.set_cons_zero, List.set_cons_succ, i64_w, i32_w]
                rfl
              refine take_ (i := 5) (N := some 8) (v := ?_) (a' := ?_) #[true, true, false, false, true, true, false, false, false, true, false, false, false, false, true, false, false, false, false] rfl rfl (take_ofW HT_.out HW_.out (by kernel_rfl)) (fun _ _ _ h => h) (Or.inl ⟨by rfl, ?_⟩) hHeld ?_ ?_
              rotate_left
              · rintro w' ⟨s0, s1, s2, s3⟩
                go_simp
                with_reducible rfl
              rotate_left
              · simp only [Act.put, List.setIfInBounds_toArray, List.set_cons_zero, List.set_cons_succ, i64_w, i32_w]
                rfl
              refine take_ (i := 10) (N := some 13) (v := ?_) (a' := ?_) #[true, true, false, false, true, true, false, false, false, true, true, false, false, false, true, false, false, false, false] rfl rfl (take_ofW HT_.out HW_.out (by kernel_rfl)) (fun _ _ _ h => h) (Or.inl ⟨by rfl, ?_⟩) hHeld ?_ ?_
              rotate_left
              · rintro w' ⟨s0, s1, s2, s3⟩
                go_simp
                with_reducible rfl
              rotate_left
              · simp only [Act.put, List.setIfInBounds_toArray, List.set_cons_zero, List.set_cons_succ, i64_w, i32_w]
                rfl
              refine take_ (i := 15) (N := some 18) (v := ?_) (a' := ?_) #[true, true, false, false, true, true, false, false, false, true, true, false, false, false, true, true, false, false, false] rfl rfl (take_ofW HT_.out HW_.out (by kernel_rfl)) (fun _ _ _ h => h) (Or.inl ⟨by rfl, ?_⟩) hHeld ?_ ?_
              rotate_left
              · rintro w' ⟨s0, s1, s2, s3⟩
                go_simp
                with_reducible rfl
              rotate_left
              · simp only [Act.put, List.setIfInBounds_toArray, List.set_cons_zero, List.set_cons_succ, i64_w, i32_w]
                rfl
              refine one_ (i := 2) (N := some 5) #[true, true, true, false, true, true, false, false, false, true, true, false, false, false, true, true, false, false, false] rfl rfl (one_of HT_.out (by kernel_rfl)) (by decide) (fun K hK => ?_)
              refine goes_ Tryd.func63 (by kernel_rfl) rfl #[.int .i64 a0_0] (by rfl) rfl rfl (by (try simp only [List.map_toArray, List.map_cons, List.map_nil]); first | done | rfl | (simp only [List.length_drop, List.length_take]; rfl)) ?_
              with_reducible refine (strconv_Itoa.calls a0_0 t322 _ A2.out ?sidet).mono ?_
              case sidet => refine Go.Proofs.YtoaacabnlfglmaaDoor.XText.T1.on (w := w) HTab_.out ?_; repeat (first | (with_reducible first | exact HB.out | exact Below.refl _ _ | apply below_alloc | apply pw_below_drewN | apply below_drew1 | refine below_set ?_ GE321.out) | exact HB.out | exact Below.refl _ _)
              rintro e w14 ⟨rfl, hb⟩
              refine ⟨_, rfl, ?_⟩
              have n0_ := Aside0.mk (blk_below (g := gb321) (o := .cells #[.int .i64 a0_0, .int .i64 a0_1, .int .i64 a0_2, .slice A0_3 l0_3.length c0_3] 41 (0, 0)) (by (with_reducible repeat (first | refine blk_drewN ?_ _ | refine blk_drew ?_ | refine blk_alloc ?_ _)); exact BK321.out) hb)
              have n1_ := Aside0.mk (below_step (by repeat (first | (with_reducible first | exact HB.out | apply below_alloc | apply pw_below_drewN | apply below_drew1 | refine below_set ?_ GE321.out) | exact HB.out)) hb)
              clear BK321
              clear HB
              have BK321 := n0_
              have HB := n1_
              clear n0_ n1_
              (try clear hb)
              (try clear hb2)
              (try clear hk)
              (try clear hi)
              refine hK.out _ _ ⟨(blk_cell BK321.out 0).trans rfl, (blk_cell BK321.out 1).trans rfl, (blk_cell BK321.out 2).trans rfl, (blk_cell BK321.out 3).trans rfl⟩ (fun hHeld => ?_)
              clear hK K
              refine norm_ (a' := ?_) ?_ ?_
              rotate_left
              · show Act.put _ (some 5) _ = _
                simp only [Act.put, List.setIfInBounds_toArray, List.set_cons_zero, List.set_cons_succ, i64_w, i32_w]
                rfl
              refine pure_ (i := 3) (N := some 6) (v := ?_) (a' := ?_) #[true, true, true, true, true, true, false, false, false, true, true, false, false, false, true, true, false, false, false] rfl rfl (any_of HT_.out (by kernel_rfl)) (fun _ _ _ h => h) (Or.inl ⟨by rfl, ?_⟩) ?_ ?_
              rotate_left
              · intro w'
                go_simp
                with_reducible rfl
              rotate_left
              · simp only [Act.put, List.setIfInBounds_toArray, List.set_cons_zero, List.set_cons_succ, i64_w, i32_w]
                rfl
              refine one_ (i := 6) (N := some 9) #[true, true, true, true, true, true, true, false, false, true, true, false, false, false, true, true, false, false, false] rfl rfl (one_of HT_.out (by kernel_rfl)) (by decide) (fun K hK => ?_)
              refine goes_ Tryd.func63 (by kernel_rfl) rfl #[.int .i64 a0_1] (by rfl) rfl rfl (by (try simp only [List.map_toArray, List.map_cons, List.map_nil]); first | done | rfl | (simp only [List.length_drop, List.length_take]; rfl)) ?_
              with_reducible refine (strconv_Itoa.calls a0_1 t323 _ A4.out ?sidet).mono ?_
              case sidet => refine Go.Proofs.YtoaacabnlfglmaaDoor.XText.T1.on (w := w) HTab_.out ?_; repeat (first | (with_reducible first | exact HB.out | exact Below.refl _ _ | apply below_alloc | apply pw_below_drewN | apply below_drew1 | refine below_set ?_ GE321.out) | exact HB.out | exact Below.refl _ _)
              rintro e w15 ⟨rfl, hb⟩
              refine ⟨_, rfl, ?_⟩
              have n0_ := Aside0.mk (blk_below (g := gb321) (o := .cells #[.int .i64 a0_0, .int .i64 a0_1, .int .i64 a0_2, .slice A0_3 l0_3.length c0_3] 41 (0, 0)) (by (with_reducible repeat (first | refine blk_drewN ?_ _ | refine blk_drew ?_ | refine blk_alloc ?_ _)); exact BK321.out) hb)
              have n1_ := Aside0.mk (below_step (by repeat (first | (with_reducible first | exact HB.out | apply below_alloc | apply pw_below_drewN | apply below_drew1 | refine below_set ?_ GE321.out) | exact HB.out)) hb)
              clear BK321
              clear HB
              have BK321 := n0_
              have HB := n1_
              clear n0_ n1_
              (try clear hb)
              (try clear hb2)
              (try clear hk)
              (try clear hi)
              refine hK.out _ _ ⟨(blk_cell BK321.out 0).trans rfl, (blk_cell BK321.out 1).trans rfl, (blk_cell BK321.out 2).trans rfl, (blk_cell BK321.out 3).trans rfl⟩ (fun hHeld => ?_)
              clear hK K
              refine norm_ (a' := ?_) ?_ ?_
              rotate_left
              · show Act.put _ (some 9) _ = _
                simp only [Act.put, List.setIfInBounds_toArray, List.set_cons_zero, List.set_cons_succ, i64_w, i32_w]
                rfl
              refine pure_ (i := 7) (N := some 10) (v := ?_) (a' := ?_) #[true, true, true, true, true, true, true, true, false, true, true, false, false, false, true, true, false, false, false] rfl rfl (any_of HT_.out (by kernel_rfl)) (fun _ _ _ h => h) (Or.inl ⟨by rfl, ?_⟩) ?_ ?_
              rotate_left
              · intro w'
                go_simp
                with_reducible rfl
              rotate_left
              · simp only [Act.put, List.setIfInBounds_toArray, List.set_cons_zero, List.set_cons_succ, i64_w, i32_w]
                rfl
              refine pure_ (i := 8) (N := some 11) (v := ?_) (a' := ?_) #[true, true, true, true, true, true, true, true, true, true, true, false, false, false, true, true, false, false, false] rfl rfl (any_of HT_.out (by kernel_rfl)) (fun _ _ _ h => h) (Or.inl ⟨by rfl, ?_⟩) ?_ ?_
              rotate_left
              · intro w'
                go_simp
                with_reducible rfl
              rotate_left
              · simp only [Act.put, List.setIfInBounds_toArray, List.set_cons_zero, List.set_cons_succ, i64_w, i32_w]
                rfl
              refine one_ (i := 11) (N := some 14) #[true, true, true, true, true, true, true, true, true, true, true, true, false, false, true, true, false, false, false] rfl rfl (one_of HT_.out (by kernel_rfl)) (by decide) (fun K hK => ?_)
              refine goes_ Tryd.func63 (by kernel_rfl) rfl #[.int .i64 a0_2] (by rfl) rfl rfl (by (try simp only [List.map_toArray, List.map_cons, List.map_nil]); first | done | rfl | (simp only [List.length_drop, List.length_take]; rfl)) ?_
              with_reducible refine (strconv_Itoa.calls a0_2 t324 _ A7.out ?sidet).mono ?_
              case sidet => refine Go.Proofs.YtoaacabnlfglmaaDoor.XText.T1.on (w := w) HTab_.out ?_; repeat (first | (with_reducible first | exact HB.out | exact Below.refl _ _ | apply below_alloc | apply pw_below_drewN | apply below_drew1 | refine below_set ?_ GE321.out) | exact HB.out | exact Below.refl _ _)
              rintro e w16 ⟨rfl, hb⟩
              refine ⟨_, rfl, ?_⟩
              have n0_ := Aside0.mk (blk_below (g := gb321) (o := .cells #[.int .i64 a0_0, .int .i64 a0_1, .int .i64 a0_2, .slice A0_3 l0_3.length c0_3] 41 (0, 0)) (by (with_reducible repeat (first | refine blk_drewN ?_ _ | refine blk_drew ?_ | refine blk_alloc ?_ _)); exact BK321.out) hb)
              have n1_ := Aside0.mk (below_step (by repeat (first | (with_reducible first | exact HB.out | apply below_alloc | apply pw_below_drewN | apply below_drew1 | refine below_set ?_ GE321.out) | exact HB.out)) hb)
              clear BK321
              clear HB
              have BK321 := n0_
              have HB := n1_
              clear n0_ n1_
              (try clear hb)
              (try clear hb2)
              (try clear hk)
              (try clear hi)
              refine hK.out _ _ ⟨(blk_cell BK321.out 0).trans rfl, (blk_cell BK321.out 1).trans rfl, (blk_cell BK321.out 2).trans rfl, (blk_cell BK321.out 3).trans rfl⟩ (fun hHeld => ?_)
              clear hK K
              refine norm_ (a' := ?_) ?_ ?_
              rotate_left
              · show Act.put _ (some 14) _ = _
                simp only [Act.put, List.setIfInBounds_toArray, List.set_cons_zero, List.set_cons_succ, i64_w, i32_w]
                rfl
              refine pure_ (i := 12) (N := some 15) (v := ?_) (a' := ?_) #[true, true, true, true, true, true, true, true, true, true, true, true, true, false, true, true, false, false, false] rfl rfl (any_of HT_.out (by kernel_rfl)) (fun _ _ _ h => h) (Or.inl ⟨by rfl, ?_⟩) ?_ ?_
              rotate_left
              · intro w'
                go_simp
                with_reducible rfl
              rotate_left
              · simp only [Act.put, List.setIfInBounds_toArray, List.set_cons_zero, List.set_cons_succ, i64_w, i32_w]
                rfl
              refine pure_ (i := 13) (N := some 16) (v := ?_) (a' := ?_) #[true, true, true, true, true, true, true, true, true, true, true, true, true, true, true, true, false, false, false] rfl rfl (any_of HT_.out (by kernel_rfl)) (fun _ _ _ h => h) (Or.inl ⟨by rfl, ?_⟩) ?_ ?_
              rotate_left
              · intro w'
                go_simp
                with_reducible rfl
              rotate_left
              · simp only [Act.put, List.setIfInBounds_toArray, List.set_cons_zero, List.set_cons_succ, i64_w, i32_w]
                rfl
              refine one_ (i := 16) (N := some 19) #[true, true, true, true, true, true, true, true, true, true, true, true, true, true, true, true, true, false, false] rfl rfl (one_of HT_.out (by kernel_rfl)) (by decide) (fun K hK => ?_)
              refine goes_ Tryd.func36 (by kernel_rfl) rfl #[.slice A0_3 l0_3.length c0_3, .string (⟨#[44]⟩ : ByteArray)] (by rfl) rfl rfl (by (try simp only [List.map_toArray, List.map_cons, List.map_nil]); first | done | rfl | (simp only [List.length_drop, List.length_take]; rfl)) ?_
              with_reducible refine (impl_joinNumbers.calls k _ _ l0_3 (⟨#[44]⟩ : ByteArray) t325 _ ?side1 ?side2 A10.out ?sidet).mono ?_
              case sidet => refine Go.Proofs.YtoaacabnlfglmaaDoor.XText.T1.on (w := w) HTab_.out ?_; repeat (first | (with_reducible first | exact HB.out | exact Below.refl _ _ | apply below_alloc | apply pw_below_drewN | apply below_drew1 | refine below_set ?_ GE321.out) | exact HB.out | exact Below.refl _ _)
              (case side1 => repeat (first | exact (Kd.C_below HR0_3.out HB.out) | (with_reducible refine Kd.C_alloc ?_ _) | (with_reducible refine Kd.C_drewN ?_ _) | (with_reducible refine Kd.C_drew ?_)))
              (case side2 => exact HC0_3.out)
              rintro e w17 ⟨rfl, hb⟩
              refine ⟨_, rfl, ?_⟩
              have n0_ := Aside0.mk (blk_below (g := gb321) (o := .cells #[.int .i64 a0_0, .int .i64 a0_1, .int .i64 a0_2, .slice A0_3 l0_3.length c0_3] 41 (0, 0)) (by (with_reducible repeat (first | refine blk_drewN ?_ _ | refine blk_drew ?_ | refine blk_alloc ?_ _)); exact BK321.out) hb)
              have n1_ := Aside0.mk (below_step (by repeat (first | (with_reducible first | exact HB.out | apply below_alloc | apply pw_below_drewN | apply below_drew1 | refine below_set ?_ GE321.out) | exact HB.out)) hb)
              clear BK321
              clear HB
              have BK321 := n0_
              have HB := n1_
              clear n0_ n1_
              (try clear hb)
              (try clear hb2)
              (try clear hk)
              (try clear hi)
              refine hK.out _ _ ⟨(blk_cell BK321.out 0).trans rfl, (blk_cell BK321.out 1).trans rfl, (blk_cell BK321.out 2).trans rfl, (blk_cell BK321.out 3).trans rfl⟩ (fun hHeld => ?_)
              clear hK K
              refine norm_ (a' := ?_) ?_ ?_
              rotate_left
              · show Act.put _ (some 19) _ = _
                simp only [Act.put, List.setIfInBounds_toArray, List.set_cons_zero, List.set_cons_succ, i64_w, i32_w]
                rfl
              refine pure_ (i := 17) (N := some 20) (v := ?_) (a' := ?_) #[true, true, true, true, true, true, true, true, true, true, true, true, true, true, true, true, true, true, false] rfl rfl (any_of HT_.out (by kernel_rfl)) (fun _ _ _ h => h) (Or.inl ⟨by rfl, ?_⟩) ?_ ?_
              rotate_left
              · intro w'
                go_simp
                with_reducible rfl
              rotate_left
              · simp only [Act.put, List.setIfInBounds_toArray, List.set_cons_zero, List.set_cons_succ, i64_w, i32_w]
                rfl
              refine pure_ (i := 18) (N := some 2) (v := ?_) (a' := ?_) #[true, true, true, true, true, true, true, true, true, true, true, true, true, true, true, true, true, true, true] rfl rfl (any_of HT_.out (by kernel_rfl)) (fun _ _ _ h => h) (Or.inl ⟨by rfl, ?_⟩) ?_ ?_
              rotate_left
              · intro w'
                go_simp
                with_reducible rfl
              rotate_left
              · simp only [Act.put, List.setIfInBounds_toArray, List.set_cons_zero, List.set_cons_succ, i64_w, i32_w]
                rfl
              refine done_ (done_of HT_.out (by kernel_rfl)) ?_
              try go_wp2
              go_ret
              exact ⟨by first | rfl | (simp [errW_none, errW_some] <;> rfl) | (simp [*, errW_none, errW_some] <;> rfl), by repeat (first | (with_reducible first | exact HB.out | apply below_alloc | apply pw_below_drewN | apply below_drew1 | refine below_set ?_ GE321.out) | exact HB.out)⟩
            · rw [if_neg c11] at H
              exact absurd H (by simp)
          · rw [if_neg c9] at H
            exact absurd H (by simp)
        · rw [if_neg c8] at H
          exact absurd H (by simp)
      · rw [if_neg c6] at H
        exact absurd H (by simp)
    · rw [if_neg c5] at H
      exact absurd H (by simp)
  · rw [if_neg c3] at H
    exact absurd H (by simp)

/-! ### strings_Cut: function 56 -/
def strings_Cut.f (a0 : ByteArray) (a1 : ByteArray) : Option (ByteArray × ByteArray × Bool) := if a0.size < 4294967281 then some ((⟨(Lib.cut a0.data.toList a1.data.toList).1.toArray⟩ : ByteArray), (⟨(Lib.cut a0.data.toList a1.data.toList).2.1.toArray⟩ : ByteArray), (Lib.cut a0.data.toList a1.data.toList).2.2) else none
theorem strings_Cut.calls (a0 : ByteArray) (a1 : ByteArray) (r1 : ByteArray) (r2 : ByteArray) (r3 : Bool) (w : World) (h : strings_Cut.f a0 a1 = some (r1, r2, r3)) (hT_ : Go.Proofs.YtoaacabnlfglmaaDoor.XText.T2 w) :
    Calls Tryd.prog 56 #[.string a0, .string a1] w fun e w' => e = .returned (.tuple #[.string r1, .string r2, .bool r3]) ∧ Below w.heap.size w w' := by
  unfold strings_Cut.f at h
  by_cases c : a0.size < 4294967281
  · rw [if_pos c] at h
    have h := Option.some.inj h
    simp only [Prod.mk.injEq] at h
    obtain ⟨rfl, rfl, rfl⟩ := h
    exact Go.Proofs.YtoaacabnlfglmaaDoor.XText.cut_calls a0 a1 w c hT_
  · rw [if_neg c] at h
    cases h

end Go.Proofs.YtoaacabnlfglmaaDoor.QV
