-- WRITTEN BY a program of this session (wip/xprint.py, over the kit's print): Lean checks it.
import Derived.Test.YtoaacabnlfglmaaDoorQVx0
import Derived.Test.YtoaacabnlfglmaaDoorQVx1
import Derived.Test.YtoaacabnlfglmaaDoorQVx10
import Derived.Test.YtoaacabnlfglmaaDoorQVx11
import Derived.Test.YtoaacabnlfglmaaDoorXParse
import Derived.Test.YtoaacabnlfglmaaDoorXText
namespace Go.Proofs.YtoaacabnlfglmaaDoor.QV
open Go.Proofs.YtoaacabnlfglmaaDoor.X Go.RowKit Go.Proofs.YtoaacabnlfglmaaDoorW.PrintWords Go.Proofs.YtoaacabnlfglmaaDoorW.PrintLast Go.Proofs.YtoaacabnlfglmaaDoorW.PrintMore
attribute [local go_sem] max2_int min2_int max_two min_two max_three min_three max_four min_four   -- for this text's walks alone
set_option linter.unusedVariables false
set_option linter.unusedSimpArgs false

/-! ### impl_ParseLine: function 30 -/
def impl_ParseLine.j0 : Nat → ByteArray → List Int → List Int → Bool → Option (Int × Int × Int × List Int × Bool)
 | 0, _, _, _, _ => none
 | k + 1, x0, x11, x13, x60 => if x60 = true then (some (0, 0, 0, ([] : List Int), false)) else (if 0 < (x11.length : Int) then (if 1 < (x11.length : Int) then (if 2 < (x11.length : Int) then ((impl_IsLine.f k (rd x11 0) (rd x11 1) (rd x11 2) x13).bind fun t348 => (if t348 = true then ((impl_lineText.f k (rd x11 0) (rd x11 1) (rd x11 2) x13).bind fun t349 => (if t349.toList = x0.toList then (some (rd x11 0, rd x11 1, rd x11 2, x13, true)) else (some (0, 0, 0, ([] : List Int), false)))) else (some (0, 0, 0, ([] : List Int), false)))) else (none)) else (none)) else (none))
def impl_ParseLine.f (k : Nat) (a0 : ByteArray) : Option (Int × Int × Int × List Int × Bool) := (strings_Cut.f a0 (⟨#[43]⟩ : ByteArray)).bind fun bt327 => ((strings_Cut.f bt327.2.1 (⟨#[120]⟩ : ByteArray)).bind fun bt330 => ((strings_Cut.f bt330.2.1 (⟨#[58]⟩ : ByteArray)).bind fun bt333 => (if bt327.1.size + 1 ≤ 9223372036854775807 then (if (bt327.1 ++ (⟨#[44]⟩ : ByteArray)).size + bt330.1.size ≤ 9223372036854775807 then (if ((bt327.1 ++ (⟨#[44]⟩ : ByteArray)) ++ bt330.1).size + 1 ≤ 9223372036854775807 then (if (((bt327.1 ++ (⟨#[44]⟩ : ByteArray)) ++ bt330.1) ++ (⟨#[44]⟩ : ByteArray)).size + bt333.1.size ≤ 9223372036854775807 then ((impl_readNumbers.f k ((((bt327.1 ++ (⟨#[44]⟩ : ByteArray)) ++ bt330.1) ++ (⟨#[44]⟩ : ByteArray)) ++ bt333.1) (⟨#[44]⟩ : ByteArray)).bind fun bt336 => ((impl_readNumbers.f k bt333.2.1 (⟨#[44]⟩ : ByteArray)).bind fun bt340 => (if bt336.2 = true then (if bt340.2 = true then (impl_ParseLine.j0 k a0 bt336.1 bt340.1 ((bt336.1.length : Int) != 3)) else (impl_ParseLine.j0 k a0 bt336.1 bt340.1 true)) else (impl_ParseLine.j0 k a0 bt336.1 bt340.1 true)))) else (none)) else (none)) else (none)) else (none))))
theorem impl_ParseLine.mono_l : ∀ k, (∀ y0 y1 y2 y3, LeO (impl_ParseLine.j0 k y0 y1 y2 y3) (impl_ParseLine.j0 (k + 1) y0 y1 y2 y3))
 | 0 => fun _ _ _ _ r h => by simp [impl_ParseLine.j0] at h
 | k + 1 => by
  have ih0 := impl_ParseLine.mono_l k
  ·intro y0 y1 y2 y3
   unfold impl_ParseLine.j0
   repeat' first
   | (with_reducible exact ih0 _ _ _ _)
   | (with_reducible exact impl_IsLine.mono _ _ _ _ _)
   | (with_reducible exact impl_lineText.mono _ _ _ _ _)
   | (with_reducible exact impl_readNumbers.mono _ _ _)
   | (with_reducible exact LeO.refl _)
   | (with_reducible exact LeO.none _)
   | (with_reducible refine LeO.ite ?_ ?_)
   | (with_reducible refine LeO.bind ?_ (fun _ => ?_))
   | exact ih0 _ _ _ _
   | exact impl_IsLine.mono _ _ _ _ _
   | exact impl_lineText.mono _ _ _ _ _
   | exact impl_readNumbers.mono _ _ _
   | exact LeO.none _
   | refine LeO.ite ?_ ?_
   | refine LeO.bind ?_ (fun _ => ?_)
theorem impl_ParseLine.mono : ∀ a0 k, LeO (impl_ParseLine.f k a0) (impl_ParseLine.f (k + 1) a0) := by
 intro a0 k
 have ih0 := impl_ParseLine.mono_l k
 unfold impl_ParseLine.f
 repeat' first
   | (with_reducible exact ih0 _ _ _ _)
   | (with_reducible exact impl_IsLine.mono _ _ _ _ _)
   | (with_reducible exact impl_lineText.mono _ _ _ _ _)
   | (with_reducible exact impl_readNumbers.mono _ _ _)
   | (with_reducible exact LeO.refl _)
   | (with_reducible exact LeO.none _)
   | (with_reducible refine LeO.ite ?_ ?_)
   | (with_reducible refine LeO.bind ?_ (fun _ => ?_))
   | exact ih0 _ _ _ _
   | exact impl_IsLine.mono _ _ _ _ _
   | exact impl_lineText.mono _ _ _ _ _
   | exact impl_readNumbers.mono _ _ _
   | exact LeO.none _
   | refine LeO.ite ?_ ?_
   | refine LeO.bind ?_ (fun _ => ?_)
def impl_ParseLine.T8 : Bool × List (List Nat × List Nat) := (true, [([], []), ([0], [0]), ([1], [1]), ([], []), ([3], [3]), ([4], [4]), ([], []), ([6], [6]), ([7], [7]), ([], []), ([2, 5, 8, 9], [2, 5, 8, 9]), ([], []), ([11, 10, 0, 1, 2, 3, 4, 5, 6, 7, 8, 9, 10, 11], [10, 11])])
def impl_ParseLine.B8 : List Nat := [0, 1, 3, 0, 8, 24, 0, 64, 192, 0, 1023, 0, 4095]
theorem impl_ParseLine.tab8 : rtab .any (opsOf Tryd.f30 8) = impl_ParseLine.T8 := by kernel_rfl
theorem impl_ParseLine.bits8 : waitsOk impl_ParseLine.T8.2 impl_ParseLine.B8 = true := by kernel_rfl
set_option maxHeartbeats 8000000 in
set_option maxRecDepth 100000 in
theorem impl_ParseLine.calls (k : Nat) (a0 : ByteArray) (r1 : Int) (r2 : Int) (r3 : Int) (r4 : List Int) (r5 : Bool) (w : World) (h : impl_ParseLine.f k a0 = some (r1, r2, r3, r4, r5)) (hT_ : Go.Proofs.YtoaacabnlfglmaaDoor.XText.T2 w) :
  Calls Tryd.prog 30 #[.string a0] w fun e w' => ∃ v3_ : Value, e = .returned (.tuple #[.agg #[.int .i64 r1, .int .i64 r2, .int .i64 r3, v3_], .bool r5]) ∧ Kd.R (Kd.int .i64) 3 w' w.heap.size (fun _ => True) v3_ r4 ∧ Below w.heap.size w w' := by
 have HTab_ := Aside0.mk hT_
 clear hT_
 have hu41 := Tryd.underlying41
 have HB := Aside0.mk (Below.refl w.heap.size w)
 have H : ((strings_Cut.f a0 (⟨#[43]⟩ : ByteArray)).bind fun bt327 => ((strings_Cut.f bt327.2.1 (⟨#[120]⟩ : ByteArray)).bind fun bt330 => ((strings_Cut.f bt330.2.1 (⟨#[58]⟩ : ByteArray)).bind fun bt333 => (if bt327.1.size + 1 ≤ 9223372036854775807 then (if (bt327.1 ++ (⟨#[44]⟩ : ByteArray)).size + bt330.1.size ≤ 9223372036854775807 then (if ((bt327.1 ++ (⟨#[44]⟩ : ByteArray)) ++ bt330.1).size + 1 ≤ 9223372036854775807 then (if (((bt327.1 ++ (⟨#[44]⟩ : ByteArray)) ++ bt330.1) ++ (⟨#[44]⟩ : ByteArray)).size + bt333.1.size ≤ 9223372036854775807 then ((impl_readNumbers.f k ((((bt327.1 ++ (⟨#[44]⟩ : ByteArray)) ++ bt330.1) ++ (⟨#[44]⟩ : ByteArray)) ++ bt333.1) (⟨#[44]⟩ : ByteArray)).bind fun bt336 => ((impl_readNumbers.f k bt333.2.1 (⟨#[44]⟩ : ByteArray)).bind fun bt340 => (if bt336.2 = true then (if bt340.2 = true then (impl_ParseLine.j0 k a0 bt336.1 bt340.1 ((bt336.1.length : Int) != 3)) else (impl_ParseLine.j0 k a0 bt336.1 bt340.1 true)) else (impl_ParseLine.j0 k a0 bt336.1 bt340.1 true)))) else (none)) else (none)) else (none)) else (none))))) = some (r1, r2, r3, r4, r5) := h
 clear h
 replace H := Option.bind_eq_some_iff.mp H
 obtain ⟨⟨t327, t328, t329⟩, A20, H⟩ := H
 replace H : ((strings_Cut.f t328 (⟨#[120]⟩ : ByteArray)).bind fun bt330 => ((strings_Cut.f bt330.2.1 (⟨#[58]⟩ : ByteArray)).bind fun bt333 => (if t327.size + 1 ≤ 9223372036854775807 then (if (t327 ++ (⟨#[44]⟩ : ByteArray)).size + bt330.1.size ≤ 9223372036854775807 then (if ((t327 ++ (⟨#[44]⟩ : ByteArray)) ++ bt330.1).size + 1 ≤ 9223372036854775807 then (if (((t327 ++ (⟨#[44]⟩ : ByteArray)) ++ bt330.1) ++ (⟨#[44]⟩ : ByteArray)).size + bt333.1.size ≤ 9223372036854775807 then ((impl_readNumbers.f k ((((t327 ++ (⟨#[44]⟩ : ByteArray)) ++ bt330.1) ++ (⟨#[44]⟩ : ByteArray)) ++ bt333.1) (⟨#[44]⟩ : ByteArray)).bind fun bt336 => ((impl_readNumbers.f k bt333.2.1 (⟨#[44]⟩ : ByteArray)).bind fun bt340 => (if bt336.2 = true then (if bt340.2 = true then (impl_ParseLine.j0 k a0 bt336.1 bt340.1 ((bt336.1.length : Int) != 3)) else (impl_ParseLine.j0 k a0 bt336.1 bt340.1 true)) else (impl_ParseLine.j0 k a0 bt336.1 bt340.1 true)))) else (none)) else (none)) else (none)) else (none)))) = some (r1, r2, r3, r4, r5) := H
 have A2 := Aside0.mk A20
 clear A20
 replace H := Option.bind_eq_some_iff.mp H
 obtain ⟨⟨t330, t331, t332⟩, A30, H⟩ := H
 replace H : ((strings_Cut.f t331 (⟨#[58]⟩ : ByteArray)).bind fun bt333 => (if t327.size + 1 ≤ 9223372036854775807 then (if (t327 ++ (⟨#[44]⟩ : ByteArray)).size + t330.size ≤ 9223372036854775807 then (if ((t327 ++ (⟨#[44]⟩ : ByteArray)) ++ t330).size + 1 ≤ 9223372036854775807 then (if (((t327 ++ (⟨#[44]⟩ : ByteArray)) ++ t330) ++ (⟨#[44]⟩ : ByteArray)).size + bt333.1.size ≤ 9223372036854775807 then ((impl_readNumbers.f k ((((t327 ++ (⟨#[44]⟩ : ByteArray)) ++ t330) ++ (⟨#[44]⟩ : ByteArray)) ++ bt333.1) (⟨#[44]⟩ : ByteArray)).bind fun bt336 => ((impl_readNumbers.f k bt333.2.1 (⟨#[44]⟩ : ByteArray)).bind fun bt340 => (if bt336.2 = true then (if bt340.2 = true then (impl_ParseLine.j0 k a0 bt336.1 bt340.1 ((bt336.1.length : Int) != 3)) else (impl_ParseLine.j0 k a0 bt336.1 bt340.1 true)) else (impl_ParseLine.j0 k a0 bt336.1 bt340.1 true)))) else (none)) else (none)) else (none)) else (none))) = some (r1, r2, r3, r4, r5) := H
 have A3 := Aside0.mk A30
 clear A30
 replace H := Option.bind_eq_some_iff.mp H
 obtain ⟨⟨t333, t334, t335⟩, A40, H⟩ := H
 replace H : (if t327.size + 1 ≤ 9223372036854775807 then (if (t327 ++ (⟨#[44]⟩ : ByteArray)).size + t330.size ≤ 9223372036854775807 then (if ((t327 ++ (⟨#[44]⟩ : ByteArray)) ++ t330).size + 1 ≤ 9223372036854775807 then (if (((t327 ++ (⟨#[44]⟩ : ByteArray)) ++ t330) ++ (⟨#[44]⟩ : ByteArray)).size + t333.size ≤ 9223372036854775807 then ((impl_readNumbers.f k ((((t327 ++ (⟨#[44]⟩ : ByteArray)) ++ t330) ++ (⟨#[44]⟩ : ByteArray)) ++ t333) (⟨#[44]⟩ : ByteArray)).bind fun bt336 => ((impl_readNumbers.f k t334 (⟨#[44]⟩ : ByteArray)).bind fun bt340 => (if bt336.2 = true then (if bt340.2 = true then (impl_ParseLine.j0 k a0 bt336.1 bt340.1 ((bt336.1.length : Int) != 3)) else (impl_ParseLine.j0 k a0 bt336.1 bt340.1 true)) else (impl_ParseLine.j0 k a0 bt336.1 bt340.1 true)))) else (none)) else (none)) else (none)) else (none)) = some (r1, r2, r3, r4, r5) := H
 have A4 := Aside0.mk A40
 clear A40
 by_cases c5 : t327.size + 1 ≤ 9223372036854775807
 ·rw [if_pos c5] at H
  have c5b0 := eq_true c5
  have c5b1 : decide (t327.size + 1 ≤ 9223372036854775807) = true := decide_eq_true c5
  try have c5b2 : (9223372036854775807 < t327.size + 1) = False := eq_false (Nat.not_lt.2 c5)
  by_cases c6 : (t327 ++ (⟨#[44]⟩ : ByteArray)).size + t330.size ≤ 9223372036854775807
  ·rw [if_pos c6] at H
   have c6b0 := eq_true c6
   have c6b1 : decide ((t327 ++ (⟨#[44]⟩ : ByteArray)).size + t330.size ≤ 9223372036854775807) = true := decide_eq_true c6
   try have c6b2 : (9223372036854775807 < (t327 ++ (⟨#[44]⟩ : ByteArray)).size + t330.size) = False := eq_false (Nat.not_lt.2 c6)
   have c6b8 : (9223372036854775807 < t327.size + 1 + t330.size) = False := eq_false (by have h_ := c6; simp only [ByteArray.size_append] at h_; have : (⟨#[44]⟩ : ByteArray).size = 1 := rfl; omega)
   have c6b9 : decide (t327.size + 1 + t330.size ≤ 9223372036854775807) = true := decide_eq_true (by have h_ := c6; simp only [ByteArray.size_append] at h_; have : (⟨#[44]⟩ : ByteArray).size = 1 := rfl; omega)
   by_cases c7 : ((t327 ++ (⟨#[44]⟩ : ByteArray)) ++ t330).size + 1 ≤ 9223372036854775807
   ·rw [if_pos c7] at H
    have c7b0 := eq_true c7
    have c7b1 : decide (((t327 ++ (⟨#[44]⟩ : ByteArray)) ++ t330).size + 1 ≤ 9223372036854775807) = true := decide_eq_true c7
    try have c7b2 : (9223372036854775807 < ((t327 ++ (⟨#[44]⟩ : ByteArray)) ++ t330).size + 1) = False := eq_false (Nat.not_lt.2 c7)
    have c7b8 : (9223372036854775807 < t327.size + 1 + t330.size + 1) = False := eq_false (by have h_ := c7; simp only [ByteArray.size_append] at h_; have : (⟨#[44]⟩ : ByteArray).size = 1 := rfl; omega)
    have c7b9 : decide (t327.size + 1 + t330.size + 1 ≤ 9223372036854775807) = true := decide_eq_true (by have h_ := c7; simp only [ByteArray.size_append] at h_; have : (⟨#[44]⟩ : ByteArray).size = 1 := rfl; omega)
    by_cases c8 : (((t327 ++ (⟨#[44]⟩ : ByteArray)) ++ t330) ++ (⟨#[44]⟩ : ByteArray)).size + t333.size ≤ 9223372036854775807
    ·rw [if_pos c8] at H
     have c8b0 := eq_true c8
     have c8b1 : decide ((((t327 ++ (⟨#[44]⟩ : ByteArray)) ++ t330) ++ (⟨#[44]⟩ : ByteArray)).size + t333.size ≤ 9223372036854775807) = true := decide_eq_true c8
     try have c8b2 : (9223372036854775807 < (((t327 ++ (⟨#[44]⟩ : ByteArray)) ++ t330) ++ (⟨#[44]⟩ : ByteArray)).size + t333.size) = False := eq_false (Nat.not_lt.2 c8)
     have c8b8 : (9223372036854775807 < t327.size + 1 + t330.size + 1 + t333.size) = False := eq_false (by have h_ := c8; simp only [ByteArray.size_append] at h_; have : (⟨#[44]⟩ : ByteArray).size = 1 := rfl; omega)
     have c8b9 : decide (t327.size + 1 + t330.size + 1 + t333.size ≤ 9223372036854775807) = true := decide_eq_true (by have h_ := c8; simp only [ByteArray.size_append] at h_; have : (⟨#[44]⟩ : ByteArray).size = 1 := rfl; omega)
     replace H := Option.bind_eq_some_iff.mp H
     obtain ⟨⟨t336, t337⟩, A90, H⟩ := H
     replace H : ((impl_readNumbers.f k t334 (⟨#[44]⟩ : ByteArray)).bind fun bt340 => (if t337 = true then (if bt340.2 = true then (impl_ParseLine.j0 k a0 t336 bt340.1 ((t336.length : Int) != 3)) else (impl_ParseLine.j0 k a0 t336 bt340.1 true)) else (impl_ParseLine.j0 k a0 t336 bt340.1 true))) = some (r1, r2, r3, r4, r5) := H
     have A9 := Aside0.mk A90
     clear A90
     replace H := Option.bind_eq_some_iff.mp H
     obtain ⟨⟨t340, t341⟩, A100, H⟩ := H
     replace H : (if t337 = true then (if t341 = true then (impl_ParseLine.j0 k a0 t336 t340 ((t336.length : Int) != 3)) else (impl_ParseLine.j0 k a0 t336 t340 true)) else (impl_ParseLine.j0 k a0 t336 t340 true)) = some (r1, r2, r3, r4, r5) := H
     have A10 := Aside0.mk A100
     clear A100
     have HC11 := Aside0.mk H
     clear H
     go_enter Tryd.func30, Tryd.ntmps30
     go_upto_region 6 with (first | ((with_reducible refine gate_dst (N := 2) rfl ?_); (try (refine gate_guard (by rfl) ?_; dsimp only)); refine box_event ?hg (N := 2) ?hd (cs := #[.int .i64 0, .int .i64 0, .int .i64 0, .slice none 0 0]) (t := 41) ?hr ?_; (case hd => rfl); (case hg => rfl); (case hr => first | (go_simp; done) | (go_simp; rfl)); intro gb326 hg w12 hbox hb; have n0_ := Aside0.mk (below_step (by repeat (first | (with_reducible first | exact HB.out | apply below_alloc | apply pw_below_drewN | apply below_drew1) | exact HB.out)) hb); have n1_ := Aside0.mk (hbox); have n2_ := Aside0.mk ((by rw [hg]; exact (below_size (by repeat (first | (with_reducible first | exact HB.out | apply below_alloc | apply pw_below_drewN | apply below_drew1) | exact HB.out))) : w.heap.size ≤ gb326)); have n3_ := Aside0.mk ((by rw [hg]; exact (below_size (by repeat (first | (with_reducible first | exact HB.out | apply below_alloc | apply pw_below_drewN | apply below_drew1) | exact HB.out))) : w.heap.size ≤ gb326)); clear HB; have HB := n0_; have BK326 := n1_; have GW326 := n2_; have GE326 := n3_; clear n0_ n1_ n2_ n3_; clear hb hbox hg) | ((with_reducible refine gate_callee (f := 56) rfl ?_); refine goesL_ (some 18) rfl rfl Tryd.func56 (by kernel_rfl) rfl #[.string a0, .string (⟨#[43]⟩ : ByteArray)] rfl (by (try simp only [List.map_toArray, List.map_cons, List.map_nil]); first | done | rfl | (simp only [List.length_drop, List.length_take]; rfl)) ?_; (with_reducible refine (strings_Cut.calls a0 (⟨#[43]⟩ : ByteArray) t327 t328 t329 _ A2.out ?sidet).mono ?_); (case sidet => refine Go.Proofs.YtoaacabnlfglmaaDoor.XText.T2.on (w := w) HTab_.out ?_; repeat (first | (with_reducible first | exact HB.out | exact Below.refl _ _ | apply below_alloc | apply pw_below_drewN | apply below_drew1 | refine below_set ?_ GE326.out | refine below_set ?_ GE347.out) | exact HB.out | exact Below.refl _ _)); rintro e w13 ⟨rfl, hb⟩; refine ⟨_, rfl, ?_⟩; have n0_ := Aside0.mk (blk_below (g := gb326) (o := .cells #[.int .i64 0, .int .i64 0, .int .i64 0, .slice none 0 0] 41 (0, 0)) (by (with_reducible repeat (first | refine blk_drewN ?_ _ | refine blk_drew ?_ | refine blk_alloc ?_ _)); exact BK326.out) hb); have n1_ := Aside0.mk (below_step (by repeat (first | (with_reducible first | exact HB.out | apply below_alloc | apply pw_below_drewN | apply below_drew1 | refine below_set ?_ GE326.out) | exact HB.out)) hb); clear BK326; clear HB; have BK326 := n0_; have HB := n1_; clear n0_ n1_; (try clear hb)) | ((with_reducible refine gate_callee (f := 56) rfl ?_); refine goesL_ (some 24) rfl rfl Tryd.func56 (by kernel_rfl) rfl #[.string t328, .string (⟨#[120]⟩ : ByteArray)] rfl (by (try simp only [List.map_toArray, List.map_cons, List.map_nil]); first | done | rfl | (simp only [List.length_drop, List.length_take]; rfl)) ?_; (with_reducible refine (strings_Cut.calls t328 (⟨#[120]⟩ : ByteArray) t330 t331 t332 _ A3.out ?sidet).mono ?_); (case sidet => refine Go.Proofs.YtoaacabnlfglmaaDoor.XText.T2.on (w := w) HTab_.out ?_; repeat (first | (with_reducible first | exact HB.out | exact Below.refl _ _ | apply below_alloc | apply pw_below_drewN | apply below_drew1 | refine below_set ?_ GE326.out | refine below_set ?_ GE347.out) | exact HB.out | exact Below.refl _ _)); rintro e w14 ⟨rfl, hb⟩; refine ⟨_, rfl, ?_⟩; have n0_ := Aside0.mk (blk_below (g := gb326) (o := .cells #[.int .i64 0, .int .i64 0, .int .i64 0, .slice none 0 0] 41 (0, 0)) (by (with_reducible repeat (first | refine blk_drewN ?_ _ | refine blk_drew ?_ | refine blk_alloc ?_ _)); exact BK326.out) hb); have n1_ := Aside0.mk (below_step (by repeat (first | (with_reducible first | exact HB.out | apply below_alloc | apply pw_below_drewN | apply below_drew1 | refine below_set ?_ GE326.out) | exact HB.out)) hb); clear BK326; clear HB; have BK326 := n0_; have HB := n1_; clear n0_ n1_; (try clear hb)) | ((with_reducible refine gate_callee (f := 56) rfl ?_); refine goesL_ (some 30) rfl rfl Tryd.func56 (by kernel_rfl) rfl #[.string t331, .string (⟨#[58]⟩ : ByteArray)] rfl (by (try simp only [List.map_toArray, List.map_cons, List.map_nil]); first | done | rfl | (simp only [List.length_drop, List.length_take]; rfl)) ?_; (with_reducible refine (strings_Cut.calls t331 (⟨#[58]⟩ : ByteArray) t333 t334 t335 _ A4.out ?sidet).mono ?_); (case sidet => refine Go.Proofs.YtoaacabnlfglmaaDoor.XText.T2.on (w := w) HTab_.out ?_; repeat (first | (with_reducible first | exact HB.out | exact Below.refl _ _ | apply below_alloc | apply pw_below_drewN | apply below_drew1 | refine below_set ?_ GE326.out | refine below_set ?_ GE347.out) | exact HB.out | exact Below.refl _ _)); rintro e w15 ⟨rfl, hb⟩; refine ⟨_, rfl, ?_⟩; have n0_ := Aside0.mk (blk_below (g := gb326) (o := .cells #[.int .i64 0, .int .i64 0, .int .i64 0, .slice none 0 0] 41 (0, 0)) (by (with_reducible repeat (first | refine blk_drewN ?_ _ | refine blk_drew ?_ | refine blk_alloc ?_ _)); exact BK326.out) hb); have n1_ := Aside0.mk (below_step (by repeat (first | (with_reducible first | exact HB.out | apply below_alloc | apply pw_below_drewN | apply below_drew1 | refine below_set ?_ GE326.out) | exact HB.out)) hb); clear BK326; clear HB; have BK326 := n0_; have HB := n1_; clear n0_ n1_; (try clear hb)) | ((with_reducible refine gate_callee (f := 52) rfl ?_); refine goesL_ (some 42) rfl rfl Tryd.func52 (by kernel_rfl) rfl #[.string ((((t327 ++ (⟨#[44]⟩ : ByteArray)) ++ t330) ++ (⟨#[44]⟩ : ByteArray)) ++ t333), .string (⟨#[44]⟩ : ByteArray)] rfl (by (try simp only [List.map_toArray, List.map_cons, List.map_nil]); first | done | rfl | (simp only [List.length_drop, List.length_take]; rfl)) ?_; (with_reducible refine (impl_readNumbers.calls k ((((t327 ++ (⟨#[44]⟩ : ByteArray)) ++ t330) ++ (⟨#[44]⟩ : ByteArray)) ++ t333) (⟨#[44]⟩ : ByteArray) t336 t337 _ A9.out ?sidet).mono ?_); (case sidet => refine Go.Proofs.YtoaacabnlfglmaaDoor.XText.T2.on (w := w) HTab_.out ?_; repeat (first | (with_reducible first | exact HB.out | exact Below.refl _ _ | apply below_alloc | apply pw_below_drewN | apply below_drew1 | refine below_set ?_ GE326.out | refine below_set ?_ GE347.out) | exact HB.out | exact Below.refl _ _)); rintro e w16 ⟨v338, rfl, ho0, hb⟩; refine ⟨_, rfl, ?_⟩; have n0_ := Aside0.mk (Kd.R_lower ho0 (below_size (by repeat (first | (with_reducible first | exact HB.out | apply below_alloc | apply pw_below_drewN | apply below_drew1 | refine below_set ?_ GE326.out) | exact HB.out)))); have n1_ := Aside0.mk (blk_below (g := gb326) (o := .cells #[.int .i64 0, .int .i64 0, .int .i64 0, .slice none 0 0] 41 (0, 0)) (by (with_reducible repeat (first | refine blk_drewN ?_ _ | refine blk_drew ?_ | refine blk_alloc ?_ _)); exact BK326.out) hb); have n2_ := Aside0.mk (below_step (by repeat (first | (with_reducible first | exact HB.out | apply below_alloc | apply pw_below_drewN | apply below_drew1 | refine below_set ?_ GE326.out) | exact HB.out)) hb); clear BK326; clear HB; have HO339 := n0_; have BK326 := n1_; have HB := n2_; clear n0_ n1_ n2_; (try clear hb); (try clear ho0)) | ((with_reducible refine gate_callee (f := 52) rfl ?_); refine goesL_ (some 47) rfl rfl Tryd.func52 (by kernel_rfl) rfl #[.string t334, .string (⟨#[44]⟩ : ByteArray)] rfl (by (try simp only [List.map_toArray, List.map_cons, List.map_nil]); first | done | rfl | (simp only [List.length_drop, List.length_take]; rfl)) ?_; (with_reducible refine (impl_readNumbers.calls k t334 (⟨#[44]⟩ : ByteArray) t340 t341 _ A10.out ?sidet).mono ?_); (case sidet => refine Go.Proofs.YtoaacabnlfglmaaDoor.XText.T2.on (w := w) HTab_.out ?_; repeat (first | (with_reducible first | exact HB.out | exact Below.refl _ _ | apply below_alloc | apply pw_below_drewN | apply below_drew1 | refine below_set ?_ GE326.out | refine below_set ?_ GE347.out) | exact HB.out | exact Below.refl _ _)); rintro e w17 ⟨v342, rfl, ho0, hb⟩; refine ⟨_, rfl, ?_⟩; have n0_ := Aside0.mk (Kd.R_elder' (by (with_reducible repeat (first | apply Kd.R_alloc | apply Kd.R_drewN | apply Kd.R_drew)); exact HO339.out) (Kd.R_base ho0) hb); have n1_ := Aside0.mk (Kd.R_lower (Kd.R_new' ho0 (Kd.R_lt (by (with_reducible repeat (first | apply Kd.R_alloc | apply Kd.R_drewN | apply Kd.R_drew)); exact HO339.out))) (below_size (by repeat (first | (with_reducible first | exact HB.out | apply below_alloc | apply pw_below_drewN | apply below_drew1 | refine below_set ?_ GE326.out) | exact HB.out)))); have n2_ := Aside0.mk (blk_below (g := gb326) (o := .cells #[.int .i64 0, .int .i64 0, .int .i64 0, .slice none 0 0] 41 (0, 0)) (by (with_reducible repeat (first | refine blk_drewN ?_ _ | refine blk_drew ?_ | refine blk_alloc ?_ _)); exact BK326.out) hb); have n3_ := Aside0.mk (below_step (by repeat (first | (with_reducible first | exact HB.out | apply below_alloc | apply pw_below_drewN | apply below_drew1 | refine below_set ?_ GE326.out) | exact HB.out)) hb); clear HO339; clear BK326; clear HB; have HO339 := n0_; have HO343 := n1_; have BK326 := n2_; have HB := n3_; clear n0_ n1_ n2_ n3_; (try clear hb); (try clear ho0)))
     (try simp only [Act.put, List.setIfInBounds_toArray, List.set_cons_zero, List.set_cons_succ])
     go_cut [60] (fun v60 wc => ∃ (kq : Nat) (x60_10 : Bool), v60 = .bool x60_10 ∧ Aside0 (impl_ParseLine.j0 kq a0 t336 t340 x60_10 = some (r1, r2, r3, r4, r5)) ∧ Aside0 (kq ≤ k) ∧ Aside0 (Kd.R (Kd.int .i64) 3 wc w.heap.size (fun k_ => some k_ ≠ (v342 : Value).ownBlock) v338 t336) ∧ Aside0 (Kd.R (Kd.int .i64) 3 wc w.heap.size (fun k_ => some k_ ≠ (v338 : Value).ownBlock) v342 t340) ∧ Aside0 (wc.heap[gb326]? = some (.cells #[.int .i64 0, .int .i64 0, .int .i64 0, (.slice none 0 0)] 41 (0, 0))) ∧ Aside0 (Below w.heap.size w wc))
     case first =>
      have H := HC11.out
      clear HC11
      by_cases c18 : t337 = true
      ·subst c18
       have H1 : (if t341 = true then (impl_ParseLine.j0 k a0 t336 t340 ((t336.length : Int) != 3)) else (impl_ParseLine.j0 k a0 t336 t340 true)) = some (r1, r2, r3, r4, r5) := by rw [if_pos rfl] at H; exact H
       clear H
       have H := H1
       clear H1
       by_cases c19 : t341 = true
       ·subst c19
        have H1 : (impl_ParseLine.j0 k a0 t336 t340 ((t336.length : Int) != 3)) = some (r1, r2, r3, r4, r5) := by rw [if_pos rfl] at H; exact H
        clear H
        have H := H1
        clear H1
        have H' := Aside0.mk H
        clear H
        obtain ⟨Ao20, co20, eo20⟩ := Kd.R_slice HO339.out
        subst eo20
        go_wp2
        go_meet
        case rel => exact ⟨_, (((t336.length : Int) != 3)), (by first | rfl | (simp; done) | (simp [*]; done)), H', ⟨by first | omega | exact Nat.le_refl _⟩, ⟨by (with_reducible repeat (first | apply Kd.R_alloc | apply Kd.R_drewN | apply Kd.R_drew)); exact Kd.R_mono HO339.out (fun _ hk => hk.2)⟩, ⟨by (with_reducible repeat (first | apply Kd.R_alloc | apply Kd.R_drewN | apply Kd.R_drew)); exact Kd.R_mono HO343.out (fun _ hk => hk.2)⟩, ⟨by (with_reducible repeat (first | refine blk_drewN ?_ _ | refine blk_drew ?_ | refine blk_alloc ?_ _)); exact BK326.out⟩, ⟨by repeat (first | (with_reducible first | exact HB.out | apply below_alloc | apply pw_below_drewN | apply below_drew1 | refine below_set ?_ GE326.out) | exact HB.out)⟩⟩
       ·replace c19 := Bool.eq_false_iff.mpr c19
        subst c19
        have H1 : (impl_ParseLine.j0 k a0 t336 t340 true) = some (r1, r2, r3, r4, r5) := by rw [if_neg (show ¬ (false = true) by decide)] at H; exact H
        clear H
        have H := H1
        clear H1
        have H' := Aside0.mk H
        clear H
        go_wp2
        go_meet
        case rel => exact ⟨_, (true), (by first | rfl | (simp; done) | (simp [*]; done)), H', ⟨by first | omega | exact Nat.le_refl _⟩, ⟨by (with_reducible repeat (first | apply Kd.R_alloc | apply Kd.R_drewN | apply Kd.R_drew)); exact Kd.R_mono HO339.out (fun _ hk => hk.2)⟩, ⟨by (with_reducible repeat (first | apply Kd.R_alloc | apply Kd.R_drewN | apply Kd.R_drew)); exact Kd.R_mono HO343.out (fun _ hk => hk.2)⟩, ⟨by (with_reducible repeat (first | refine blk_drewN ?_ _ | refine blk_drew ?_ | refine blk_alloc ?_ _)); exact BK326.out⟩, ⟨by repeat (first | (with_reducible first | exact HB.out | apply below_alloc | apply pw_below_drewN | apply below_drew1 | refine below_set ?_ GE326.out) | exact HB.out)⟩⟩
      ·replace c18 := Bool.eq_false_iff.mpr c18
       subst c18
       have H1 : (impl_ParseLine.j0 k a0 t336 t340 true) = some (r1, r2, r3, r4, r5) := by rw [if_neg (show ¬ (false = true) by decide)] at H; exact H
       clear H
       have H := H1
       clear H1
       have H' := Aside0.mk H
       clear H
       go_wp2
       go_meet
       case rel => exact ⟨_, (true), (by first | rfl | (simp; done) | (simp [*]; done)), H', ⟨by first | omega | exact Nat.le_refl _⟩, ⟨by (with_reducible repeat (first | apply Kd.R_alloc | apply Kd.R_drewN | apply Kd.R_drew)); exact Kd.R_mono HO339.out (fun _ hk => hk.2)⟩, ⟨by (with_reducible repeat (first | apply Kd.R_alloc | apply Kd.R_drewN | apply Kd.R_drew)); exact Kd.R_mono HO343.out (fun _ hk => hk.2)⟩, ⟨by (with_reducible repeat (first | refine blk_drewN ?_ _ | refine blk_drew ?_ | refine blk_alloc ?_ _)); exact BK326.out⟩, ⟨by repeat (first | (with_reducible first | exact HB.out | apply below_alloc | apply pw_below_drewN | apply below_drew1 | refine below_set ?_ GE326.out) | exact HB.out)⟩⟩
     case rest =>
      clear HC11
      try clear c1
      try clear p2
      try clear c3
      try clear c5
      try clear c5b0
      try clear c5b1
      try clear c5b2
      try clear c6
      try clear c6b0
      try clear c6b1
      try clear c6b2
      try clear c7
      try clear c7b0
      try clear c7b1
      try clear c7b2
      try clear c8
      try clear c8b0
      try clear c8b1
      try clear c8b2
      try clear c18
      try clear c19
      obtain ⟨kq, x60_10, rfl, HA, HJ10, HO_11, HO_13, BK326, HB⟩ := hcut
      cases kq with
      | zero => exact absurd HA.out (by simp [impl_ParseLine.j0])
      | succ kj10 =>
       have H := HA.out
       clear HA
       simp only [impl_ParseLine.j0] at H
       by_cases c21 : x60_10 = true
       ·subst c21
        have H1 : (some (0, 0, 0, ([] : List Int), false)) = some (r1, r2, r3, r4, r5) := by rw [if_pos rfl] at H; exact H
        clear H
        have H := H1
        clear H1
        simp only [Option.some.injEq, Prod.mk.injEq] at H
        obtain ⟨rfl, rfl, rfl, rfl, rfl⟩ := H
        have hcz22_0 : wc.cell? ⟨gb326, 0, none⟩ = some (.int .i64 0) := (blk_cell BK326.out 0).trans rfl
        have hcz22_1 : wc.cell? ⟨gb326, 1, none⟩ = some (.int .i64 0) := (blk_cell BK326.out 1).trans rfl
        have hcz22_2 : wc.cell? ⟨gb326, 2, none⟩ = some (.int .i64 0) := (blk_cell BK326.out 2).trans rfl
        have hcz22_3 : wc.cell? ⟨gb326, 3, none⟩ = some (.slice none 0 0) := (blk_cell BK326.out 3).trans rfl
        have hfz22_0 := blk_frozen BK326.out 0
        have hfz22_1 := blk_frozen BK326.out 1
        have hfz22_2 := blk_frozen BK326.out 2
        have hfz22_3 := blk_frozen BK326.out 3
        go_wp2
        refine bodyPost_ret (results_ct rfl _ _ gb326 41 #[.int .i64 0, .int .i64 0, .int .i64 0, .slice none 0 0] (0, 0) _ rfl (by (with_reducible repeat (first | refine blk_drewN ?_ _ | refine blk_drew ?_ | refine blk_alloc ?_ _)); refine blk_put (cs := #[.int .i64 0, .int .i64 0, .int .i64 0, .slice none 0 0]) ?_ 3 _ rfl; (with_reducible repeat (first | refine blk_drewN ?_ _ | refine blk_drew ?_ | refine blk_alloc ?_ _)); refine blk_put (cs := #[.int .i64 0, .int .i64 0, .int .i64 0, .slice none 0 0]) ?_ 2 _ rfl; (with_reducible repeat (first | refine blk_drewN ?_ _ | refine blk_drew ?_ | refine blk_alloc ?_ _)); refine blk_put (cs := #[.int .i64 0, .int .i64 0, .int .i64 0, .slice none 0 0]) ?_ 1 _ rfl; (with_reducible repeat (first | refine blk_drewN ?_ _ | refine blk_drew ?_ | refine blk_alloc ?_ _)); refine blk_put (cs := #[.int .i64 0, .int .i64 0, .int .i64 0, .slice none 0 0]) ?_ 0 _ rfl; (with_reducible repeat (first | refine blk_drewN ?_ _ | refine blk_drew ?_ | refine blk_alloc ?_ _)); exact BK326.out) Tryd.underlying41 rfl (by kernel_rfl)) rfl ?_
        exact ⟨_, by first | rfl | (simp [errW_none, errW_some] <;> rfl) | (simp [*, errW_none, errW_some] <;> rfl), by first | exact Kd.R_nil _ _ _ _ _ | exact Kd.N_nil _ _ _ _ _ | exact Kd.V_nil _ _ _ _ _ | exact Kd.Q_nil _ _ _ _ _ | exact Kd.S_nil _ _ _ _ _, by repeat (first | (with_reducible first | exact HB.out | apply below_alloc | apply pw_below_drewN | apply below_drew1 | refine below_set ?_ GE326.out) | exact HB.out)⟩
       ·replace c21 := Bool.eq_false_iff.mpr c21
        subst c21
        have H1 : (if 0 < (t336.length : Int) then (if 1 < (t336.length : Int) then (if 2 < (t336.length : Int) then ((impl_IsLine.f kj10 (rd t336 0) (rd t336 1) (rd t336 2) t340).bind fun t348 => (if t348 = true then ((impl_lineText.f kj10 (rd t336 0) (rd t336 1) (rd t336 2) t340).bind fun t349 => (if t349.toList = a0.toList then (some (rd t336 0, rd t336 1, rd t336 2, t340, true)) else (some (0, 0, 0, ([] : List Int), false)))) else (some (0, 0, 0, ([] : List Int), false)))) else (none)) else (none)) else (none)) = some (r1, r2, r3, r4, r5) := by rw [if_neg (show ¬ (false = true) by decide)] at H; exact H
        clear H
        have H := H1
        clear H1
        by_cases c23 : 0 < (t336.length : Int)
        ·rw [if_pos c23] at H
         have c23b0 : decide (0 < (t336.length : Int)) = true := decide_eq_true c23
         have c23b1 : decide (0 < t336.length) = true := decide_eq_true (by omega)
         clear c23
         by_cases c24 : 1 < (t336.length : Int)
         ·rw [if_pos c24] at H
          have c24b0 : decide (1 < (t336.length : Int)) = true := decide_eq_true c24
          have c24b1 : decide (1 < t336.length) = true := decide_eq_true (by omega)
          clear c24
          by_cases c25 : 2 < (t336.length : Int)
          ·rw [if_pos c25] at H
           have c25b0 : decide (2 < (t336.length : Int)) = true := decide_eq_true c25
           have c25b1 : decide (2 < t336.length) = true := decide_eq_true (by omega)
           clear c25
           replace H := Option.bind_eq_some_iff.mp H
           obtain ⟨t348, A260, H⟩ := H
           replace H : (if t348 = true then ((impl_lineText.f kj10 (rd t336 0) (rd t336 1) (rd t336 2) t340).bind fun t349 => (if t349.toList = a0.toList then (some (rd t336 0, rd t336 1, rd t336 2, t340, true)) else (some (0, 0, 0, ([] : List Int), false)))) else (some (0, 0, 0, ([] : List Int), false))) = some (r1, r2, r3, r4, r5) := H
           have A26 := Aside0.mk A260
           clear A260
           by_cases c27 : t348 = true
           ·subst c27
            have H1 : ((impl_lineText.f kj10 (rd t336 0) (rd t336 1) (rd t336 2) t340).bind fun t349 => (if t349.toList = a0.toList then (some (rd t336 0, rd t336 1, rd t336 2, t340, true)) else (some (0, 0, 0, ([] : List Int), false)))) = some (r1, r2, r3, r4, r5) := by rw [if_pos rfl] at H; exact H
            clear H
            have H := H1
            clear H1
            replace H := Option.bind_eq_some_iff.mp H
            obtain ⟨t349, A280, H⟩ := H
            replace H : (if t349.toList = a0.toList then (some (rd t336 0, rd t336 1, rd t336 2, t340, true)) else (some (0, 0, 0, ([] : List Int), false))) = some (r1, r2, r3, r4, r5) := H
            have A28 := Aside0.mk A280
            clear A280
            by_cases c29 : t349.toList = a0.toList
            ·rw [if_pos c29] at H
             have c29b0 : (t349.toList == a0.toList) = true := beq_iff_eq.mpr c29
             have c29b1 : (t349.toList != a0.toList) = false := bne_eq_false_iff_eq.mpr c29
             clear c29
             simp only [Option.some.injEq, Prod.mk.injEq] at H
             obtain ⟨rfl, rfl, rfl, rfl, rfl⟩ := H
             try go_wp2
             have n0_ := Aside0.mk (Kd.R_drew HO_11.out)
             have n1_ := Aside0.mk (Kd.R_drew HO_13.out)
             have n2_ := Aside0.mk (blk_drew BK326.out)
             have n3_ := Aside0.mk (below_drew1 HB.out)
             clear HO_11
             clear HO_13
             clear BK326
             clear HB
             have HO_11 := n0_
             have HO_13 := n1_
             have BK326 := n2_
             have HB := n3_
             clear n0_ n1_ n2_ n3_
             obtain ⟨Ao31, co31, eo31⟩ := Kd.R_slice HO_11.out
             (first | subst eo31 | (injection eo31 with f1_ f2_ f3_; have f4_ := f1_.symm; have f5_ := f3_.symm; clear f1_ f2_ f3_; subst f4_; subst f5_))
             have p344 : 0 ≤ (0 : Int) := (by omega)
             have q344 : 0 < (t336.length : Int) := of_decide_eq_true (by first | (with_reducible assumption) | assumption)
             obtain ⟨ad344, e344, hx344_0⟩ := Kd.at_int (Kd.R_reads' HO_11.out).2.2 0 p344 q344
             cases e344
             have qi344 : (0 < t336.length) = True := eq_true (by omega)
             (try rw [show ((0 : Int)).toNat = 0 from rfl] at hx344_0)
             (try rw [Addr.add_zero'] at hx344_0)
             replace p344 := eq_true p344
             replace q344 := eq_true q344
             have p345 : 0 ≤ (1 : Int) := (by omega)
             have q345 : 1 < (t336.length : Int) := of_decide_eq_true (by first | (with_reducible assumption) | assumption)
             obtain ⟨ad345, e345, hx345_0⟩ := Kd.at_int (Kd.R_reads' HO_11.out).2.2 1 p345 q345
             obtain rfl : ad344 = ad345 := (by injection e345)
             (try simp only [show (1 : Int).toNat = 1 from rfl, Nat.reduceMul, Nat.reduceEqDiff, Go.Addr.add, ↓reduceIte] at hx345_0)
             have qi345 : (1 < t336.length) = True := eq_true (by omega)
             (try rw [show ((1 : Int)).toNat = 1 from rfl] at hx345_0)
             replace p345 := eq_true p345
             replace q345 := eq_true q345
             have p346 : 0 ≤ (2 : Int) := (by omega)
             have q346 : 2 < (t336.length : Int) := of_decide_eq_true (by first | (with_reducible assumption) | assumption)
             obtain ⟨ad346, e346, hx346_0⟩ := Kd.at_int (Kd.R_reads' HO_11.out).2.2 2 p346 q346
             obtain rfl : ad344 = ad346 := (by injection e346)
             (try simp only [show (2 : Int).toNat = 2 from rfl, Nat.reduceMul, Nat.reduceEqDiff, Go.Addr.add, ↓reduceIte] at hx346_0)
             have qi346 : (2 < t336.length) = True := eq_true (by omega)
             (try rw [show ((2 : Int)).toNat = 2 from rfl] at hx346_0)
             replace p346 := eq_true p346
             replace q346 := eq_true q346
             obtain ⟨Ao32, co32, eo32⟩ := Kd.R_slice HO_13.out
             (first | subst eo32 | (injection eo32 with f1_ f2_ f3_; have f4_ := f1_.symm; have f5_ := f3_.symm; clear f1_ f2_ f3_; subst f4_; subst f5_))
             refine start_ (n := 13) (S := fun w' => w'.cell? ad344 = some (.int .i64 (rd t336 0)) ∧ w'.cell? ⟨ad344.block, ad344.off + 1, none⟩ = some (.int .i64 (rd t336 1)) ∧ w'.cell? ⟨ad344.block, ad344.off + 2, none⟩ = some (.int .i64 (rd t336 2))) (ds := []) #[false, false, false, false, false, false, false, false, false, false, false, false, false] (by kernel_rfl) rfl rfl ⟨hx344_0, hx345_0, hx346_0⟩ (fun hHeld => ?_); refine with_tabW impl_ParseLine.tab8 impl_ParseLine.bits8 (fun HT_ HW_ => ?_)
             generalize wc.drew = w30 at HO_11 HO_13 BK326 HB hx344_0 hx345_0 hx346_0 hHeld ⊢
             refine pure_ (i := 0) (N := some 62) (v := ?_) (a' := ?_) #[true, false, false, false, false, false, false, false, false, false, false, false, false] rfl rfl (any_of HT_.out (by kernel_rfl)) (fun _ _ _ h => h) (Or.inl ⟨by rfl, ?_⟩) ?_ ?_
             rotate_left
             ·intro w'
              go_simp
              with_reducible rfl
             rotate_left
             ·simp only [Act.put, List.setIfInBounds_toArray, List.set_cons_zero, List.set_cons_succ, i64_w, i32_w]
              rfl
             refine pure_ (i := 1) (N := some 63) (v := ?_) (a' := ?_) #[true, true, false, false, false, false, false, false, false, false, false, false, false] rfl rfl (any_of HT_.out (by kernel_rfl)) (fun _ _ _ h => h) (Or.inl ⟨by rfl, ?_⟩) ?_ ?_
             rotate_left
             ·intro w'
              go_simp
              with_reducible rfl
             rotate_left
             ·simp only [Act.put, List.setIfInBounds_toArray, List.set_cons_zero, List.set_cons_succ, i64_w, i32_w]
              rfl
             refine pure_ (i := 3) (N := some 65) (v := ?_) (a' := ?_) #[true, true, false, true, false, false, false, false, false, false, false, false, false] rfl rfl (any_of HT_.out (by kernel_rfl)) (fun _ _ _ h => h) (Or.inl ⟨by rfl, ?_⟩) ?_ ?_
             rotate_left
             ·intro w'
              go_simp
              with_reducible rfl
             rotate_left
             ·simp only [Act.put, List.setIfInBounds_toArray, List.set_cons_zero, List.set_cons_succ, i64_w, i32_w]
              rfl
             refine pure_ (i := 4) (N := some 66) (v := ?_) (a' := ?_) #[true, true, false, true, true, false, false, false, false, false, false, false, false] rfl rfl (any_of HT_.out (by kernel_rfl)) (fun _ _ _ h => h) (Or.inl ⟨by rfl, ?_⟩) ?_ ?_
             rotate_left
             ·intro w'
              go_simp
              with_reducible rfl
             rotate_left
             ·simp only [Act.put, List.setIfInBounds_toArray, List.set_cons_zero, List.set_cons_succ, i64_w, i32_w]
              rfl
             refine pure_ (i := 6) (N := some 68) (v := ?_) (a' := ?_) #[true, true, false, true, true, false, true, false, false, false, false, false, false] rfl rfl (any_of HT_.out (by kernel_rfl)) (fun _ _ _ h => h) (Or.inl ⟨by rfl, ?_⟩) ?_ ?_
             rotate_left
             ·intro w'
              go_simp
              with_reducible rfl
             rotate_left
             ·simp only [Act.put, List.setIfInBounds_toArray, List.set_cons_zero, List.set_cons_succ, i64_w, i32_w]
              rfl
             refine pure_ (i := 7) (N := some 69) (v := ?_) (a' := ?_) #[true, true, false, true, true, false, true, true, false, false, false, false, false] rfl rfl (any_of HT_.out (by kernel_rfl)) (fun _ _ _ h => h) (Or.inl ⟨by rfl, ?_⟩) ?_ ?_
             rotate_left
             ·intro w'
              go_simp
              with_reducible rfl
             rotate_left
             ·simp only [Act.put, List.setIfInBounds_toArray, List.set_cons_zero, List.set_cons_succ, i64_w, i32_w]
              rfl
             refine pure_ (i := 9) (N := some 71) (v := ?_) (a' := ?_) #[true, true, false, true, true, false, true, true, false, true, false, false, false] rfl rfl (any_of HT_.out (by kernel_rfl)) (fun _ _ _ h => h) (Or.inl ⟨by rfl, ?_⟩) ?_ ?_
             rotate_left
             ·intro w'
              go_simp
              with_reducible rfl
             rotate_left
             ·simp only [Act.put, List.setIfInBounds_toArray, List.set_cons_zero, List.set_cons_succ, i64_w, i32_w]
              rfl
             refine take_ (i := 2) (N := some 64) (v := ?_) (a' := ?_) #[true, true, true, true, true, false, true, true, false, true, false, false, false] rfl rfl (take_ofW HT_.out HW_.out (by kernel_rfl)) (fun _ _ _ h => h) (Or.inl ⟨by rfl, ?_⟩) hHeld ?_ ?_
             rotate_left
             ·rintro w' ⟨s0, s1, s2⟩
              go_simp
              with_reducible rfl
             rotate_left
             ·simp only [Act.put, List.setIfInBounds_toArray, List.set_cons_zero, List.set_cons_succ, i64_w, i32_w]
              rfl
             refine take_ (i := 5) (N := some 67) (v := ?_) (a' := ?_) #[true, true, true, true, true, true, true, true, false, true, false, false, false] rfl rfl (take_ofW HT_.out HW_.out (by kernel_rfl)) (fun _ _ _ h => h) (Or.inl ⟨by rfl, ?_⟩) hHeld ?_ ?_
             rotate_left
             ·rintro w' ⟨s0, s1, s2⟩
              go_simp
              with_reducible rfl
             rotate_left
             ·simp only [Act.put, List.setIfInBounds_toArray, List.set_cons_zero, List.set_cons_succ, i64_w, i32_w]
              rfl
             refine take_ (i := 8) (N := some 70) (v := ?_) (a' := ?_) #[true, true, true, true, true, true, true, true, true, true, false, false, false] rfl rfl (take_ofW HT_.out HW_.out (by kernel_rfl)) (fun _ _ _ h => h) (Or.inl ⟨by rfl, ?_⟩) hHeld ?_ ?_
             rotate_left
             ·rintro w' ⟨s0, s1, s2⟩
              go_simp
              with_reducible rfl
             rotate_left
             ·simp only [Act.put, List.setIfInBounds_toArray, List.set_cons_zero, List.set_cons_succ, i64_w, i32_w]
              rfl
             refine pure_ (i := 10) (N := some 72) (v := ?_) (a' := ?_) #[true, true, true, true, true, true, true, true, true, true, true, false, false] rfl rfl (any_of HT_.out (by kernel_rfl)) (fun _ _ _ h => h) (Or.inl ⟨by rfl, ?_⟩) ?_ ?_
             rotate_left
             ·intro w'
              go_simp
              with_reducible rfl
             rotate_left
             ·simp only [Act.put, List.setIfInBounds_toArray, List.set_cons_zero, List.set_cons_succ, i64_w, i32_w]
              rfl
             refine one_ (i := 11) (N := some 15) #[true, true, true, true, true, true, true, true, true, true, true, true, false] rfl rfl (one_of HT_.out (by kernel_rfl)) (by decide) (fun K hK => ?_)
             refine box_step ?hg (N := 15) ?hd (cs := #[.int .i64 0, .int .i64 0, .int .i64 0, .slice none 0 0]) (t := 41) ?hr ?_; (case hd => rfl); (case hg => rfl); (case hr => first | (go_simp; done) | (go_simp; rfl))
             intro gb347 hg w33 hbox hb
             have HS0_ := (hb.cell (World.block_lt_of_cell? _ _ (hHeld.1))).trans (hHeld.1)
             have HS1_ := (hb.cell (World.block_lt_of_cell? _ _ (hHeld.2.1))).trans (hHeld.2.1)
             have HS2_ := (hb.cell (World.block_lt_of_cell? _ _ (hHeld.2.2))).trans (hHeld.2.2)
             have n0_ := Aside0.mk (Kd.R_below (by (with_reducible repeat (first | apply Kd.R_alloc | apply Kd.R_drewN | apply Kd.R_drew)); exact HO_11.out) hb)
             have n1_ := Aside0.mk (Kd.R_below (by (with_reducible repeat (first | apply Kd.R_alloc | apply Kd.R_drewN | apply Kd.R_drew)); exact HO_13.out) hb)
             have n2_ := Aside0.mk (blk_below (g := gb326) (o := .cells #[.int .i64 0, .int .i64 0, .int .i64 0, .slice none 0 0] 41 (0, 0)) (by (with_reducible repeat (first | refine blk_drewN ?_ _ | refine blk_drew ?_ | refine blk_alloc ?_ _)); exact BK326.out) hb)
             have n3_ := Aside0.mk (below_step (by repeat (first | (with_reducible first | exact HB.out | apply below_alloc | apply pw_below_drewN | apply below_drew1 | refine below_set ?_ GE326.out) | exact HB.out)) hb)
             have n4_ := Aside0.mk (hbox)
             have n5_ := Aside0.mk ((by rw [hg]; exact (below_size (by repeat (first | (with_reducible first | exact HB.out | apply below_alloc | apply pw_below_drewN | apply below_drew1 | refine below_set ?_ GE326.out) | exact HB.out))) : w.heap.size ≤ gb347))
             have n6_ := Aside0.mk ((by rw [hg]; exact (below_size (by repeat (first | (with_reducible first | exact HB.out | apply below_alloc | apply pw_below_drewN | apply below_drew1 | refine below_set ?_ GE326.out) | exact HB.out))) : w.heap.size ≤ gb347))
             have n7_ := Aside0.mk ((by rw [hg]; exact Nat.ne_of_lt (blk_lt (g := gb326) (o := .cells #[.int .i64 0, .int .i64 0, .int .i64 0, .slice none 0 0] 41 (0, 0)) (by (with_reducible repeat (first | refine blk_drewN ?_ _ | refine blk_drew ?_ | refine blk_alloc ?_ _)); exact BK326.out)) : gb326 ≠ gb347))
             have n8_ := Aside0.mk ((by rw [hg]; exact Nat.ne_of_gt (blk_lt (g := gb326) (o := .cells #[.int .i64 0, .int .i64 0, .int .i64 0, .slice none 0 0] 41 (0, 0)) (by (with_reducible repeat (first | refine blk_drewN ?_ _ | refine blk_drew ?_ | refine blk_alloc ?_ _)); exact BK326.out)) : gb347 ≠ gb326))
             clear HO_11
             clear HO_13
             clear BK326
             clear HB
             have HO_11 := n0_
             have HO_13 := n1_
             have BK326 := n2_
             have HB := n3_
             have BK347 := n4_
             have GW347 := n5_
             have GE347 := n6_
             have NB326_347 := n7_
             have NB347_326 := n8_
             clear n0_ n1_ n2_ n3_ n4_ n5_ n6_ n7_ n8_
             clear hb hbox hg
             refine hK.out _ _ ⟨HS0_, HS1_, HS2_⟩ (fun hHeld => ?_)
             clear hK K
             refine norm_ (a' := ?_) ?_ ?_
             rotate_left
             ·show Act.put _ (some 15) _ = _
              simp only [Act.put, List.setIfInBounds_toArray, List.set_cons_zero, List.set_cons_succ, i64_w, i32_w]
              rfl
             refine one_ (i := 12) (N := none) #[true, true, true, true, true, true, true, true, true, true, true, true, true] rfl rfl (one_of HT_.out (by kernel_rfl)) (by decide) (fun K hK => ?_)
             have hs34 : w33.cell? ⟨gb347, 0, none⟩ = some (.int .i64 0) := (blk_cell BK347.out 0).trans rfl
             have hfs34 := blk_frozen BK347.out 0
             have hns34_0 := NB326_347.out
             have hms34_0 := NB347_326.out
             have hs35 : w33.cell? ⟨gb347, 1, none⟩ = some (.int .i64 0) := (blk_cell BK347.out 1).trans rfl
             have hfs35 := blk_frozen BK347.out 1
             have hns35_0 := NB326_347.out
             have hms35_0 := NB347_326.out
             have hs36 : w33.cell? ⟨gb347, 2, none⟩ = some (.int .i64 0) := (blk_cell BK347.out 2).trans rfl
             have hfs36 := blk_frozen BK347.out 2
             have hns36_0 := NB326_347.out
             have hms36_0 := NB347_326.out
             have hs37 : w33.cell? ⟨gb347, 3, none⟩ = some (.slice none 0 0) := (blk_cell BK347.out 3).trans rfl
             have hfs37 := blk_frozen BK347.out 3
             have hns37_0 := NB326_347.out
             have hms37_0 := NB347_326.out
             refine skip_ (w1 := ?_) (by rfl) rfl ?_ ?_
             rotate_left
             ·go_simp
              rfl
             refine hK.out _ _ ⟨((cell_far (p := ⟨gb347, _, none⟩) (by first | (with_reducible exact Kd.own_blk (Kd.R_ne HO_11.out BK347.out (by decide))) | (rw [add_block]; with_reducible exact Kd.own_blk (Kd.R_ne HO_11.out BK347.out (by decide))) | (dsimp only; with_reducible exact Kd.own_blk (Kd.R_ne HO_11.out BK347.out (by decide))) | exact Kd.own_blk (Kd.R_ne HO_11.out BK347.out (by decide)) | (rw [add_block]; exact Kd.own_blk (Kd.R_ne HO_11.out BK347.out (by decide))) | (show (Addr.add _ _).block ≠ _; rw [add_block]; exact Kd.own_blk (Kd.R_ne HO_11.out BK347.out (by decide))) | (dsimp only; exact Kd.own_blk (Kd.R_ne HO_11.out BK347.out (by decide)))) _).trans (((cell_far (p := ⟨gb347, _, none⟩) (by first | (with_reducible exact Kd.own_blk (Kd.R_ne HO_11.out BK347.out (by decide))) | (rw [add_block]; with_reducible exact Kd.own_blk (Kd.R_ne HO_11.out BK347.out (by decide))) | (dsimp only; with_reducible exact Kd.own_blk (Kd.R_ne HO_11.out BK347.out (by decide))) | exact Kd.own_blk (Kd.R_ne HO_11.out BK347.out (by decide)) | (rw [add_block]; exact Kd.own_blk (Kd.R_ne HO_11.out BK347.out (by decide))) | (show (Addr.add _ _).block ≠ _; rw [add_block]; exact Kd.own_blk (Kd.R_ne HO_11.out BK347.out (by decide))) | (dsimp only; exact Kd.own_blk (Kd.R_ne HO_11.out BK347.out (by decide)))) _).trans (((cell_far (p := ⟨gb347, _, none⟩) (by first | (with_reducible exact Kd.own_blk (Kd.R_ne HO_11.out BK347.out (by decide))) | (rw [add_block]; with_reducible exact Kd.own_blk (Kd.R_ne HO_11.out BK347.out (by decide))) | (dsimp only; with_reducible exact Kd.own_blk (Kd.R_ne HO_11.out BK347.out (by decide))) | exact Kd.own_blk (Kd.R_ne HO_11.out BK347.out (by decide)) | (rw [add_block]; exact Kd.own_blk (Kd.R_ne HO_11.out BK347.out (by decide))) | (show (Addr.add _ _).block ≠ _; rw [add_block]; exact Kd.own_blk (Kd.R_ne HO_11.out BK347.out (by decide))) | (dsimp only; exact Kd.own_blk (Kd.R_ne HO_11.out BK347.out (by decide)))) _).trans (((cell_far (p := ⟨gb347, _, none⟩) (by first | (with_reducible exact Kd.own_blk (Kd.R_ne HO_11.out BK347.out (by decide))) | (rw [add_block]; with_reducible exact Kd.own_blk (Kd.R_ne HO_11.out BK347.out (by decide))) | (dsimp only; with_reducible exact Kd.own_blk (Kd.R_ne HO_11.out BK347.out (by decide))) | exact Kd.own_blk (Kd.R_ne HO_11.out BK347.out (by decide)) | (rw [add_block]; exact Kd.own_blk (Kd.R_ne HO_11.out BK347.out (by decide))) | (show (Addr.add _ _).block ≠ _; rw [add_block]; exact Kd.own_blk (Kd.R_ne HO_11.out BK347.out (by decide))) | (dsimp only; exact Kd.own_blk (Kd.R_ne HO_11.out BK347.out (by decide)))) _).trans (hHeld.1)))))))), ((cell_far (p := ⟨gb347, _, none⟩) (by first | (with_reducible exact Kd.own_blk (Kd.R_ne HO_11.out BK347.out (by decide))) | (rw [add_block]; with_reducible exact Kd.own_blk (Kd.R_ne HO_11.out BK347.out (by decide))) | (dsimp only; with_reducible exact Kd.own_blk (Kd.R_ne HO_11.out BK347.out (by decide))) | exact Kd.own_blk (Kd.R_ne HO_11.out BK347.out (by decide)) | (rw [add_block]; exact Kd.own_blk (Kd.R_ne HO_11.out BK347.out (by decide))) | (show (Addr.add _ _).block ≠ _; rw [add_block]; exact Kd.own_blk (Kd.R_ne HO_11.out BK347.out (by decide))) | (dsimp only; exact Kd.own_blk (Kd.R_ne HO_11.out BK347.out (by decide)))) _).trans (((cell_far (p := ⟨gb347, _, none⟩) (by first | (with_reducible exact Kd.own_blk (Kd.R_ne HO_11.out BK347.out (by decide))) | (rw [add_block]; with_reducible exact Kd.own_blk (Kd.R_ne HO_11.out BK347.out (by decide))) | (dsimp only; with_reducible exact Kd.own_blk (Kd.R_ne HO_11.out BK347.out (by decide))) | exact Kd.own_blk (Kd.R_ne HO_11.out BK347.out (by decide)) | (rw [add_block]; exact Kd.own_blk (Kd.R_ne HO_11.out BK347.out (by decide))) | (show (Addr.add _ _).block ≠ _; rw [add_block]; exact Kd.own_blk (Kd.R_ne HO_11.out BK347.out (by decide))) | (dsimp only; exact Kd.own_blk (Kd.R_ne HO_11.out BK347.out (by decide)))) _).trans (((cell_far (p := ⟨gb347, _, none⟩) (by first | (with_reducible exact Kd.own_blk (Kd.R_ne HO_11.out BK347.out (by decide))) | (rw [add_block]; with_reducible exact Kd.own_blk (Kd.R_ne HO_11.out BK347.out (by decide))) | (dsimp only; with_reducible exact Kd.own_blk (Kd.R_ne HO_11.out BK347.out (by decide))) | exact Kd.own_blk (Kd.R_ne HO_11.out BK347.out (by decide)) | (rw [add_block]; exact Kd.own_blk (Kd.R_ne HO_11.out BK347.out (by decide))) | (show (Addr.add _ _).block ≠ _; rw [add_block]; exact Kd.own_blk (Kd.R_ne HO_11.out BK347.out (by decide))) | (dsimp only; exact Kd.own_blk (Kd.R_ne HO_11.out BK347.out (by decide)))) _).trans (((cell_far (p := ⟨gb347, _, none⟩) (by first | (with_reducible exact Kd.own_blk (Kd.R_ne HO_11.out BK347.out (by decide))) | (rw [add_block]; with_reducible exact Kd.own_blk (Kd.R_ne HO_11.out BK347.out (by decide))) | (dsimp only; with_reducible exact Kd.own_blk (Kd.R_ne HO_11.out BK347.out (by decide))) | exact Kd.own_blk (Kd.R_ne HO_11.out BK347.out (by decide)) | (rw [add_block]; exact Kd.own_blk (Kd.R_ne HO_11.out BK347.out (by decide))) | (show (Addr.add _ _).block ≠ _; rw [add_block]; exact Kd.own_blk (Kd.R_ne HO_11.out BK347.out (by decide))) | (dsimp only; exact Kd.own_blk (Kd.R_ne HO_11.out BK347.out (by decide)))) _).trans (hHeld.2.1)))))))), ((cell_far (p := ⟨gb347, _, none⟩) (by first | (with_reducible exact Kd.own_blk (Kd.R_ne HO_11.out BK347.out (by decide))) | (rw [add_block]; with_reducible exact Kd.own_blk (Kd.R_ne HO_11.out BK347.out (by decide))) | (dsimp only; with_reducible exact Kd.own_blk (Kd.R_ne HO_11.out BK347.out (by decide))) | exact Kd.own_blk (Kd.R_ne HO_11.out BK347.out (by decide)) | (rw [add_block]; exact Kd.own_blk (Kd.R_ne HO_11.out BK347.out (by decide))) | (show (Addr.add _ _).block ≠ _; rw [add_block]; exact Kd.own_blk (Kd.R_ne HO_11.out BK347.out (by decide))) | (dsimp only; exact Kd.own_blk (Kd.R_ne HO_11.out BK347.out (by decide)))) _).trans (((cell_far (p := ⟨gb347, _, none⟩) (by first | (with_reducible exact Kd.own_blk (Kd.R_ne HO_11.out BK347.out (by decide))) | (rw [add_block]; with_reducible exact Kd.own_blk (Kd.R_ne HO_11.out BK347.out (by decide))) | (dsimp only; with_reducible exact Kd.own_blk (Kd.R_ne HO_11.out BK347.out (by decide))) | exact Kd.own_blk (Kd.R_ne HO_11.out BK347.out (by decide)) | (rw [add_block]; exact Kd.own_blk (Kd.R_ne HO_11.out BK347.out (by decide))) | (show (Addr.add _ _).block ≠ _; rw [add_block]; exact Kd.own_blk (Kd.R_ne HO_11.out BK347.out (by decide))) | (dsimp only; exact Kd.own_blk (Kd.R_ne HO_11.out BK347.out (by decide)))) _).trans (((cell_far (p := ⟨gb347, _, none⟩) (by first | (with_reducible exact Kd.own_blk (Kd.R_ne HO_11.out BK347.out (by decide))) | (rw [add_block]; with_reducible exact Kd.own_blk (Kd.R_ne HO_11.out BK347.out (by decide))) | (dsimp only; with_reducible exact Kd.own_blk (Kd.R_ne HO_11.out BK347.out (by decide))) | exact Kd.own_blk (Kd.R_ne HO_11.out BK347.out (by decide)) | (rw [add_block]; exact Kd.own_blk (Kd.R_ne HO_11.out BK347.out (by decide))) | (show (Addr.add _ _).block ≠ _; rw [add_block]; exact Kd.own_blk (Kd.R_ne HO_11.out BK347.out (by decide))) | (dsimp only; exact Kd.own_blk (Kd.R_ne HO_11.out BK347.out (by decide)))) _).trans (((cell_far (p := ⟨gb347, _, none⟩) (by first | (with_reducible exact Kd.own_blk (Kd.R_ne HO_11.out BK347.out (by decide))) | (rw [add_block]; with_reducible exact Kd.own_blk (Kd.R_ne HO_11.out BK347.out (by decide))) | (dsimp only; with_reducible exact Kd.own_blk (Kd.R_ne HO_11.out BK347.out (by decide))) | exact Kd.own_blk (Kd.R_ne HO_11.out BK347.out (by decide)) | (rw [add_block]; exact Kd.own_blk (Kd.R_ne HO_11.out BK347.out (by decide))) | (show (Addr.add _ _).block ≠ _; rw [add_block]; exact Kd.own_blk (Kd.R_ne HO_11.out BK347.out (by decide))) | (dsimp only; exact Kd.own_blk (Kd.R_ne HO_11.out BK347.out (by decide)))) _).trans (hHeld.2.2))))))))⟩ (fun hHeld => ?_)
             clear hK K
             refine done_ (done_of HT_.out (by kernel_rfl)) ?_
             have hnb38 := NB347_326.out
             have hnc38 := NB326_347.out
             have hcz39_0 : w33.cell? ⟨gb347, 0, none⟩ = some (.int .i64 0) := (blk_cell BK347.out 0).trans rfl
             have hcz39_1 : w33.cell? ⟨gb347, 1, none⟩ = some (.int .i64 0) := (blk_cell BK347.out 1).trans rfl
             have hcz39_2 : w33.cell? ⟨gb347, 2, none⟩ = some (.int .i64 0) := (blk_cell BK347.out 2).trans rfl
             have hcz39_3 : w33.cell? ⟨gb347, 3, none⟩ = some (.slice none 0 0) := (blk_cell BK347.out 3).trans rfl
             have hfz39_0 := blk_frozen BK347.out 0
             have hfz39_1 := blk_frozen BK347.out 1
             have hfz39_2 := blk_frozen BK347.out 2
             have hfz39_3 := blk_frozen BK347.out 3
             try go_wp2_with (first | ((with_reducible refine gate_callee (f := 47) rfl ?_); refine goesL_ (some 74) rfl rfl Tryd.func47 (by kernel_rfl) rfl #[.agg #[.int .i64 (rd t336 0), .int .i64 (rd t336 1), .int .i64 (rd t336 2), .slice Ao32 t340.length co32]] rfl (by (try simp only [List.map_toArray, List.map_cons, List.map_nil]); first | done | rfl | (simp only [List.length_drop, List.length_take]; rfl)) ?_; (with_reducible refine (impl_IsLine.calls kj10 (rd t336 0) (rd t336 1) (rd t336 2) _ _ t340 true _ ?side1 ?side2 A26.out).mono ?_); (case side1 => refine (Kd.R_reads' (e := 3) (base := w.heap.size) (ok := fun k_ => some k_ ≠ (.slice (some ad344) t336.length co31 : Value).ownBlock) (n := t340.length) (c := co32) ?_).2.2; exact (by (with_reducible repeat (first | apply Kd.R_alloc | apply Kd.R_drewN | apply Kd.R_drew)); exact (Kd.R_mono (Kd.R_far (p := ⟨gb347, 3, none⟩) (Kd.R_far (p := ⟨gb347, 2, none⟩) (Kd.R_far (p := ⟨gb347, 1, none⟩) (Kd.R_far (p := ⟨gb347, 0, none⟩) (Kd.R_types HO_13.out BK347.out (by decide)) (fun _ hk => hk.2) (.int .i64 (rd t336 0))) (fun _ hk => hk.2) (.int .i64 (rd t336 1))) (fun _ hk => hk.2) (.int .i64 (rd t336 2))) (fun _ hk => hk.2) (.slice Ao32 t340.length co32)) (fun _ h_ => h_.1)))); (case side2 => exact (Kd.R_reads' HO_13.out).2.1); rintro e w40 ⟨rfl, hb⟩; refine ⟨_, rfl, ?_⟩; have n0_ := Aside0.mk (Kd.R_below (by (with_reducible repeat (first | apply Kd.R_alloc | apply Kd.R_drewN | apply Kd.R_drew)); exact (Kd.R_mono (Kd.R_far (p := ⟨gb347, 3, none⟩) (Kd.R_far (p := ⟨gb347, 2, none⟩) (Kd.R_far (p := ⟨gb347, 1, none⟩) (Kd.R_far (p := ⟨gb347, 0, none⟩) (Kd.R_types HO_11.out BK347.out (by decide)) (fun _ hk => hk.2) (.int .i64 (rd t336 0))) (fun _ hk => hk.2) (.int .i64 (rd t336 1))) (fun _ hk => hk.2) (.int .i64 (rd t336 2))) (fun _ hk => hk.2) (.slice Ao32 t340.length co32)) (fun _ h_ => h_.1))) hb); have n1_ := Aside0.mk (Kd.R_below (by (with_reducible repeat (first | apply Kd.R_alloc | apply Kd.R_drewN | apply Kd.R_drew)); exact (Kd.R_mono (Kd.R_far (p := ⟨gb347, 3, none⟩) (Kd.R_far (p := ⟨gb347, 2, none⟩) (Kd.R_far (p := ⟨gb347, 1, none⟩) (Kd.R_far (p := ⟨gb347, 0, none⟩) (Kd.R_types HO_13.out BK347.out (by decide)) (fun _ hk => hk.2) (.int .i64 (rd t336 0))) (fun _ hk => hk.2) (.int .i64 (rd t336 1))) (fun _ hk => hk.2) (.int .i64 (rd t336 2))) (fun _ hk => hk.2) (.slice Ao32 t340.length co32)) (fun _ h_ => h_.1))) hb); have n2_ := Aside0.mk (blk_below (g := gb326) (o := .cells #[.int .i64 0, .int .i64 0, .int .i64 0, .slice none 0 0] 41 (0, 0)) (by (with_reducible repeat (first | refine blk_drewN ?_ _ | refine blk_drew ?_ | refine blk_alloc ?_ _)); refine blk_far ?_ NB326_347.out _; (with_reducible repeat (first | refine blk_drewN ?_ _ | refine blk_drew ?_ | refine blk_alloc ?_ _)); refine blk_far ?_ NB326_347.out _; (with_reducible repeat (first | refine blk_drewN ?_ _ | refine blk_drew ?_ | refine blk_alloc ?_ _)); refine blk_far ?_ NB326_347.out _; (with_reducible repeat (first | refine blk_drewN ?_ _ | refine blk_drew ?_ | refine blk_alloc ?_ _)); refine blk_far ?_ NB326_347.out _; (with_reducible repeat (first | refine blk_drewN ?_ _ | refine blk_drew ?_ | refine blk_alloc ?_ _)); exact BK326.out) hb); have n3_ := Aside0.mk (blk_below (g := gb347) (o := .cells #[.int .i64 (rd t336 0), .int .i64 (rd t336 1), .int .i64 (rd t336 2), .slice Ao32 t340.length co32] 41 (0, 0)) (by (with_reducible repeat (first | refine blk_drewN ?_ _ | refine blk_drew ?_ | refine blk_alloc ?_ _)); refine blk_put (cs := #[.int .i64 (rd t336 0), .int .i64 (rd t336 1), .int .i64 (rd t336 2), .slice none 0 0]) ?_ 3 _ rfl; (with_reducible repeat (first | refine blk_drewN ?_ _ | refine blk_drew ?_ | refine blk_alloc ?_ _)); refine blk_put (cs := #[.int .i64 (rd t336 0), .int .i64 (rd t336 1), .int .i64 0, .slice none 0 0]) ?_ 2 _ rfl; (with_reducible repeat (first | refine blk_drewN ?_ _ | refine blk_drew ?_ | refine blk_alloc ?_ _)); refine blk_put (cs := #[.int .i64 (rd t336 0), .int .i64 0, .int .i64 0, .slice none 0 0]) ?_ 1 _ rfl; (with_reducible repeat (first | refine blk_drewN ?_ _ | refine blk_drew ?_ | refine blk_alloc ?_ _)); refine blk_put (cs := #[.int .i64 0, .int .i64 0, .int .i64 0, .slice none 0 0]) ?_ 0 _ rfl; (with_reducible repeat (first | refine blk_drewN ?_ _ | refine blk_drew ?_ | refine blk_alloc ?_ _)); exact BK347.out) hb); have n4_ := Aside0.mk (below_step (by repeat (first | (with_reducible first | exact HB.out | apply below_alloc | apply pw_below_drewN | apply below_drew1 | refine below_set ?_ GE326.out | refine below_set ?_ GE347.out) | exact HB.out)) hb); clear HO_11; clear HO_13; clear BK326; clear BK347; clear HB; have HO_11 := n0_; have HO_13 := n1_; have BK326 := n2_; have BK347 := n3_; have HB := n4_; clear n0_ n1_ n2_ n3_ n4_; (try clear hb); have hcz41_0 : w40.cell? ⟨gb347, 0, none⟩ = some (.int .i64 (rd t336 0)) := (blk_cell BK347.out 0).trans rfl; have hcz41_1 : w40.cell? ⟨gb347, 1, none⟩ = some (.int .i64 (rd t336 1)) := (blk_cell BK347.out 1).trans rfl; have hcz41_2 : w40.cell? ⟨gb347, 2, none⟩ = some (.int .i64 (rd t336 2)) := (blk_cell BK347.out 2).trans rfl; have hcz41_3 : w40.cell? ⟨gb347, 3, none⟩ = some (.slice Ao32 t340.length co32) := (blk_cell BK347.out 3).trans rfl; have hfz41_0 := blk_frozen BK347.out 0; have hfz41_1 := blk_frozen BK347.out 1; have hfz41_2 := blk_frozen BK347.out 2; have hfz41_3 := blk_frozen BK347.out 3) | (go_at_call 48; (with_reducible refine (impl_lineText.calls kj10 (rd t336 0) (rd t336 1) (rd t336 2) _ _ t340 t349 _ ?side1 ?side2 A28.out ?sidet).mono ?_); (case sidet => refine Go.Proofs.YtoaacabnlfglmaaDoor.XText.T1.on (w := w) (Go.Proofs.YtoaacabnlfglmaaDoor.XText.T2.to1 HTab_.out) ?_; repeat (first | (with_reducible first | exact HB.out | exact Below.refl _ _ | apply below_alloc | apply pw_below_drewN | apply below_drew1 | refine below_set ?_ GE326.out | refine below_set ?_ GE347.out) | exact HB.out | exact Below.refl _ _)); (case side1 => repeat (first | exact (Kd.R_reads' HO_13.out).2.2 | (with_reducible refine Kd.C_alloc ?_ _) | (with_reducible refine Kd.C_drewN ?_ _) | (with_reducible refine Kd.C_drew ?_))); (case side2 => exact (Kd.R_reads' HO_13.out).2.1); rintro e w42 ⟨rfl, hb⟩; have n0_ := Aside0.mk (Kd.R_below (by (with_reducible repeat (first | apply Kd.R_alloc | apply Kd.R_drewN | apply Kd.R_drew)); exact HO_11.out) hb); have n1_ := Aside0.mk (Kd.R_below (by (with_reducible repeat (first | apply Kd.R_alloc | apply Kd.R_drewN | apply Kd.R_drew)); exact HO_13.out) hb); have n2_ := Aside0.mk (blk_below (g := gb326) (o := .cells #[.int .i64 0, .int .i64 0, .int .i64 0, .slice none 0 0] 41 (0, 0)) (by (with_reducible repeat (first | refine blk_drewN ?_ _ | refine blk_drew ?_ | refine blk_alloc ?_ _)); exact BK326.out) hb); have n3_ := Aside0.mk (blk_below (g := gb347) (o := .cells #[.int .i64 (rd t336 0), .int .i64 (rd t336 1), .int .i64 (rd t336 2), .slice Ao32 t340.length co32] 41 (0, 0)) (by (with_reducible repeat (first | refine blk_drewN ?_ _ | refine blk_drew ?_ | refine blk_alloc ?_ _)); exact BK347.out) hb); have n4_ := Aside0.mk (below_step (by repeat (first | (with_reducible first | exact HB.out | apply below_alloc | apply pw_below_drewN | apply below_drew1 | refine below_set ?_ GE326.out | refine below_set ?_ GE347.out) | exact HB.out)) hb); clear HO_11; clear HO_13; clear BK326; clear BK347; clear HB; have HO_11 := n0_; have HO_13 := n1_; have BK326 := n2_; have BK347 := n3_; have HB := n4_; clear n0_ n1_ n2_ n3_ n4_; (try clear hb); have hcz43_0 : w42.cell? ⟨gb347, 0, none⟩ = some (.int .i64 (rd t336 0)) := (blk_cell BK347.out 0).trans rfl; have hcz43_1 : w42.cell? ⟨gb347, 1, none⟩ = some (.int .i64 (rd t336 1)) := (blk_cell BK347.out 1).trans rfl; have hcz43_2 : w42.cell? ⟨gb347, 2, none⟩ = some (.int .i64 (rd t336 2)) := (blk_cell BK347.out 2).trans rfl; have hcz43_3 : w42.cell? ⟨gb347, 3, none⟩ = some (.slice Ao32 t340.length co32) := (blk_cell BK347.out 3).trans rfl; have hfz43_0 := blk_frozen BK347.out 0; have hfz43_1 := blk_frozen BK347.out 1; have hfz43_2 := blk_frozen BK347.out 2; have hfz43_3 := blk_frozen BK347.out 3; have hcz44_0 : w42.cell? ⟨gb326, 0, none⟩ = some (.int .i64 0) := (blk_cell BK326.out 0).trans rfl; have hcz44_1 : w42.cell? ⟨gb326, 1, none⟩ = some (.int .i64 0) := (blk_cell BK326.out 1).trans rfl; have hcz44_2 : w42.cell? ⟨gb326, 2, none⟩ = some (.int .i64 0) := (blk_cell BK326.out 2).trans rfl; have hcz44_3 : w42.cell? ⟨gb326, 3, none⟩ = some (.slice none 0 0) := (blk_cell BK326.out 3).trans rfl; have hfz44_0 := blk_frozen BK326.out 0; have hfz44_1 := blk_frozen BK326.out 1; have hfz44_2 := blk_frozen BK326.out 2; have hfz44_3 := blk_frozen BK326.out 3))
             refine bodyPost_ret (results_ct rfl _ _ gb326 41 #[.int .i64 (rd t336 0), .int .i64 (rd t336 1), .int .i64 (rd t336 2), .slice Ao32 t340.length co32] (0, 0) _ rfl (by (with_reducible repeat (first | refine blk_drewN ?_ _ | refine blk_drew ?_ | refine blk_alloc ?_ _)); refine blk_put (cs := #[.int .i64 (rd t336 0), .int .i64 (rd t336 1), .int .i64 (rd t336 2), .slice none 0 0]) ?_ 3 _ rfl; (with_reducible repeat (first | refine blk_drewN ?_ _ | refine blk_drew ?_ | refine blk_alloc ?_ _)); refine blk_put (cs := #[.int .i64 (rd t336 0), .int .i64 (rd t336 1), .int .i64 0, .slice none 0 0]) ?_ 2 _ rfl; (with_reducible repeat (first | refine blk_drewN ?_ _ | refine blk_drew ?_ | refine blk_alloc ?_ _)); refine blk_put (cs := #[.int .i64 (rd t336 0), .int .i64 0, .int .i64 0, .slice none 0 0]) ?_ 1 _ rfl; (with_reducible repeat (first | refine blk_drewN ?_ _ | refine blk_drew ?_ | refine blk_alloc ?_ _)); refine blk_put (cs := #[.int .i64 0, .int .i64 0, .int .i64 0, .slice none 0 0]) ?_ 0 _ rfl; (with_reducible repeat (first | refine blk_drewN ?_ _ | refine blk_drew ?_ | refine blk_alloc ?_ _)); exact BK326.out) Tryd.underlying41 rfl (by kernel_rfl)) rfl ?_
             exact ⟨_, by first | rfl | (simp [errW_none, errW_some] <;> rfl) | (simp [*, errW_none, errW_some] <;> rfl), by (with_reducible repeat (first | apply Kd.R_alloc | apply Kd.R_drewN | apply Kd.R_drew)); exact Kd.R_mono (Kd.R_far (p := ⟨gb326, 3, none⟩) (Kd.R_far (p := ⟨gb326, 2, none⟩) (Kd.R_far (p := ⟨gb326, 1, none⟩) (Kd.R_far (p := ⟨gb326, 0, none⟩) (Kd.R_types HO_13.out BK326.out (by decide)) (fun _ hk => hk.2) (.int .i64 (rd t336 0))) (fun _ hk => hk.2) (.int .i64 (rd t336 1))) (fun _ hk => hk.2) (.int .i64 (rd t336 2))) (fun _ hk => hk.2) (.slice Ao32 t340.length co32)) (fun _ hk => trivial), by repeat (first | (with_reducible first | exact HB.out | apply below_alloc | apply pw_below_drewN | apply below_drew1 | refine below_set ?_ GE326.out | refine below_set ?_ GE347.out) | exact HB.out)⟩
            ·rw [if_neg c29] at H
             have c29b0 : (t349.toList == a0.toList) = false := beq_eq_false_iff_ne.mpr c29
             have c29b1 : (t349.toList != a0.toList) = true := bne_iff_ne.mpr c29
             simp only [Option.some.injEq, Prod.mk.injEq] at H
             obtain ⟨rfl, rfl, rfl, rfl, rfl⟩ := H
             try go_wp2
             have n0_ := Aside0.mk (Kd.R_drew HO_11.out)
             have n1_ := Aside0.mk (Kd.R_drew HO_13.out)
             have n2_ := Aside0.mk (blk_drew BK326.out)
             have n3_ := Aside0.mk (below_drew1 HB.out)
             clear HO_11
             clear HO_13
             clear BK326
             clear HB
             have HO_11 := n0_
             have HO_13 := n1_
             have BK326 := n2_
             have HB := n3_
             clear n0_ n1_ n2_ n3_
             obtain ⟨Ao46, co46, eo46⟩ := Kd.R_slice HO_11.out
             (first | subst eo46 | (injection eo46 with f1_ f2_ f3_; have f4_ := f1_.symm; have f5_ := f3_.symm; clear f1_ f2_ f3_; subst f4_; subst f5_))
             have p344 : 0 ≤ (0 : Int) := (by omega)
             have q344 : 0 < (t336.length : Int) := of_decide_eq_true (by first | (with_reducible assumption) | assumption)
             obtain ⟨ad344, e344, hx344_0⟩ := Kd.at_int (Kd.R_reads' HO_11.out).2.2 0 p344 q344
             cases e344
             have qi344 : (0 < t336.length) = True := eq_true (by omega)
             (try rw [show ((0 : Int)).toNat = 0 from rfl] at hx344_0)
             (try rw [Addr.add_zero'] at hx344_0)
             replace p344 := eq_true p344
             replace q344 := eq_true q344
             have p345 : 0 ≤ (1 : Int) := (by omega)
             have q345 : 1 < (t336.length : Int) := of_decide_eq_true (by first | (with_reducible assumption) | assumption)
             obtain ⟨ad345, e345, hx345_0⟩ := Kd.at_int (Kd.R_reads' HO_11.out).2.2 1 p345 q345
             obtain rfl : ad344 = ad345 := (by injection e345)
             (try simp only [show (1 : Int).toNat = 1 from rfl, Nat.reduceMul, Nat.reduceEqDiff, Go.Addr.add, ↓reduceIte] at hx345_0)
             have qi345 : (1 < t336.length) = True := eq_true (by omega)
             (try rw [show ((1 : Int)).toNat = 1 from rfl] at hx345_0)
             replace p345 := eq_true p345
             replace q345 := eq_true q345
             have p346 : 0 ≤ (2 : Int) := (by omega)
             have q346 : 2 < (t336.length : Int) := of_decide_eq_true (by first | (with_reducible assumption) | assumption)
             obtain ⟨ad346, e346, hx346_0⟩ := Kd.at_int (Kd.R_reads' HO_11.out).2.2 2 p346 q346
             obtain rfl : ad344 = ad346 := (by injection e346)
             (try simp only [show (2 : Int).toNat = 2 from rfl, Nat.reduceMul, Nat.reduceEqDiff, Go.Addr.add, ↓reduceIte] at hx346_0)
             have qi346 : (2 < t336.length) = True := eq_true (by omega)
             (try rw [show ((2 : Int)).toNat = 2 from rfl] at hx346_0)
             replace p346 := eq_true p346
             replace q346 := eq_true q346
             obtain ⟨Ao47, co47, eo47⟩ := Kd.R_slice HO_13.out
             (first | subst eo47 | (injection eo47 with f1_ f2_ f3_; have f4_ := f1_.symm; have f5_ := f3_.symm; clear f1_ f2_ f3_; subst f4_; subst f5_))
             refine start_ (n := 13) (S := fun w' => w'.cell? ad344 = some (.int .i64 (rd t336 0)) ∧ w'.cell? ⟨ad344.block, ad344.off + 1, none⟩ = some (.int .i64 (rd t336 1)) ∧ w'.cell? ⟨ad344.block, ad344.off + 2, none⟩ = some (.int .i64 (rd t336 2))) (ds := []) #[false, false, false, false, false, false, false, false, false, false, false, false, false] (by kernel_rfl) rfl rfl ⟨hx344_0, hx345_0, hx346_0⟩ (fun hHeld => ?_); refine with_tabW impl_ParseLine.tab8 impl_ParseLine.bits8 (fun HT_ HW_ => ?_)
             generalize wc.drew = w45 at HO_11 HO_13 BK326 HB hx344_0 hx345_0 hx346_0 hHeld ⊢
             refine pure_ (i := 0) (N := some 62) (v := ?_) (a' := ?_) #[true, false, false, false, false, false, false, false, false, false, false, false, false] rfl rfl (any_of HT_.out (by kernel_rfl)) (fun _ _ _ h => h) (Or.inl ⟨by rfl, ?_⟩) ?_ ?_
             rotate_left
             ·intro w'
              go_simp
              with_reducible rfl
             rotate_left
             ·simp only [Act.put, List.setIfInBounds_toArray, List.set_cons_zero, List.set_cons_succ, i64_w, i32_w]
              rfl
             refine pure_ (i := 1) (N := some 63) (v := ?_) (a' := ?_) #[true, true, false, false, false, false, false, false, false, false, false, false, false] rfl rfl (any_of HT_.out (by kernel_rfl)) (fun _ _ _ h => h) (Or.inl ⟨by rfl, ?_⟩) ?_ ?_
             rotate_left
             ·intro w'
              go_simp
              with_reducible rfl
             rotate_left
             ·simp only [Act.put, List.setIfInBounds_toArray, List.set_cons_zero, List.set_cons_succ, i64_w, i32_w]
              rfl
             refine pure_ (i := 3) (N := some 65) (v := ?_) (a' := ?_) #[true, true, false, true, false, false, false, false, false, false, false, false, false] rfl rfl (any_of HT_.out (by kernel_rfl)) (fun _ _ _ h => h) (Or.inl ⟨by rfl, ?_⟩) ?_ ?_
             rotate_left
             ·intro w'
              go_simp
              with_reducible rfl
             rotate_left
             ·simp only [Act.put, List.setIfInBounds_toArray, List.set_cons_zero, List.set_cons_succ, i64_w, i32_w]
              rfl
             refine pure_ (i := 4) (N := some 66) (v := ?_) (a' := ?_) #[true, true, false, true, true, false, false, false, false, false, false, false, false] rfl rfl (any_of HT_.out (by kernel_rfl)) (fun _ _ _ h => h) (Or.inl ⟨by rfl, ?_⟩) ?_ ?_
             rotate_left
             ·intro w'
              go_simp
              with_reducible rfl
             rotate_left
             ·simp only [Act.put, List.setIfInBounds_toArray, List.set_cons_zero, List.set_cons_succ, i64_w, i32_w]
              rfl
             refine pure_ (i := 6) (N := some 68) (v := ?_) (a' := ?_) #[true, true, false, true, true, false, true, false, false, false, false, false, false] rfl rfl (any_of HT_.out (by kernel_rfl)) (fun _ _ _ h => h) (Or.inl ⟨by rfl, ?_⟩) ?_ ?_
             rotate_left
             ·intro w'
              go_simp
              with_reducible rfl
             rotate_left
             ·simp only [Act.put, List.setIfInBounds_toArray, List.set_cons_zero, List.set_cons_succ, i64_w, i32_w]
              rfl
             refine pure_ (i := 7) (N := some 69) (v := ?_) (a' := ?_) #[true, true, false, true, true, false, true, true, false, false, false, false, false] rfl rfl (any_of HT_.out (by kernel_rfl)) (fun _ _ _ h => h) (Or.inl ⟨by rfl, ?_⟩) ?_ ?_
             rotate_left
             ·intro w'
              go_simp
              with_reducible rfl
             rotate_left
             ·simp only [Act.put, List.setIfInBounds_toArray, List.set_cons_zero, List.set_cons_succ, i64_w, i32_w]
              rfl
             refine pure_ (i := 9) (N := some 71) (v := ?_) (a' := ?_) #[true, true, false, true, true, false, true, true, false, true, false, false, false] rfl rfl (any_of HT_.out (by kernel_rfl)) (fun _ _ _ h => h) (Or.inl ⟨by rfl, ?_⟩) ?_ ?_
             rotate_left
             ·intro w'
              go_simp
              with_reducible rfl
             rotate_left
             ·simp only [Act.put, List.setIfInBounds_toArray, List.set_cons_zero, List.set_cons_succ, i64_w, i32_w]
              rfl
             refine take_ (i := 2) (N := some 64) (v := ?_) (a' := ?_) #[true, true, true, true, true, false, true, true, false, true, false, false, false] rfl rfl (take_ofW HT_.out HW_.out (by kernel_rfl)) (fun _ _ _ h => h) (Or.inl ⟨by rfl, ?_⟩) hHeld ?_ ?_
             rotate_left
             ·rintro w' ⟨s0, s1, s2⟩
              go_simp
              with_reducible rfl
             rotate_left
             ·simp only [Act.put, List.setIfInBounds_toArray, List.set_cons_zero, List.set_cons_succ, i64_w, i32_w]
              rfl
             refine take_ (i := 5) (N := some 67) (v := ?_) (a' := ?_) #[true, true, true, true, true, true, true, true, false, true, false, false, false] rfl rfl (take_ofW HT_.out HW_.out (by kernel_rfl)) (fun _ _ _ h => h) (Or.inl ⟨by rfl, ?_⟩) hHeld ?_ ?_
             rotate_left
             ·rintro w' ⟨s0, s1, s2⟩
              go_simp
              with_reducible rfl
             rotate_left
             ·simp only [Act.put, List.setIfInBounds_toArray, List.set_cons_zero, List.set_cons_succ, i64_w, i32_w]
              rfl
             refine take_ (i := 8) (N := some 70) (v := ?_) (a' := ?_) #[true, true, true, true, true, true, true, true, true, true, false, false, false] rfl rfl (take_ofW HT_.out HW_.out (by kernel_rfl)) (fun _ _ _ h => h) (Or.inl ⟨by rfl, ?_⟩) hHeld ?_ ?_
             rotate_left
             ·rintro w' ⟨s0, s1, s2⟩
              go_simp
              with_reducible rfl
             rotate_left
             ·simp only [Act.put, List.setIfInBounds_toArray, List.set_cons_zero, List.set_cons_succ, i64_w, i32_w]
              rfl
             refine pure_ (i := 10) (N := some 72) (v := ?_) (a' := ?_) #[true, true, true, true, true, true, true, true, true, true, true, false, false] rfl rfl (any_of HT_.out (by kernel_rfl)) (fun _ _ _ h => h) (Or.inl ⟨by rfl, ?_⟩) ?_ ?_
             rotate_left
             ·intro w'
              go_simp
              with_reducible rfl
             rotate_left
             ·simp only [Act.put, List.setIfInBounds_toArray, List.set_cons_zero, List.set_cons_succ, i64_w, i32_w]
              rfl
             refine one_ (i := 11) (N := some 15) #[true, true, true, true, true, true, true, true, true, true, true, true, false] rfl rfl (one_of HT_.out (by kernel_rfl)) (by decide) (fun K hK => ?_)
             refine box_step ?hg (N := 15) ?hd (cs := #[.int .i64 0, .int .i64 0, .int .i64 0, .slice none 0 0]) (t := 41) ?hr ?_; (case hd => rfl); (case hg => rfl); (case hr => first | (go_simp; done) | (go_simp; rfl))
             intro gb347 hg w48 hbox hb
             have HS0_ := (hb.cell (World.block_lt_of_cell? _ _ (hHeld.1))).trans (hHeld.1)
             have HS1_ := (hb.cell (World.block_lt_of_cell? _ _ (hHeld.2.1))).trans (hHeld.2.1)
             have HS2_ := (hb.cell (World.block_lt_of_cell? _ _ (hHeld.2.2))).trans (hHeld.2.2)
             have n0_ := Aside0.mk (Kd.R_below (by (with_reducible repeat (first | apply Kd.R_alloc | apply Kd.R_drewN | apply Kd.R_drew)); exact HO_11.out) hb)
             have n1_ := Aside0.mk (Kd.R_below (by (with_reducible repeat (first | apply Kd.R_alloc | apply Kd.R_drewN | apply Kd.R_drew)); exact HO_13.out) hb)
             have n2_ := Aside0.mk (blk_below (g := gb326) (o := .cells #[.int .i64 0, .int .i64 0, .int .i64 0, .slice none 0 0] 41 (0, 0)) (by (with_reducible repeat (first | refine blk_drewN ?_ _ | refine blk_drew ?_ | refine blk_alloc ?_ _)); exact BK326.out) hb)
             have n3_ := Aside0.mk (below_step (by repeat (first | (with_reducible first | exact HB.out | apply below_alloc | apply pw_below_drewN | apply below_drew1 | refine below_set ?_ GE326.out) | exact HB.out)) hb)
             have n4_ := Aside0.mk (hbox)
             have n5_ := Aside0.mk ((by rw [hg]; exact (below_size (by repeat (first | (with_reducible first | exact HB.out | apply below_alloc | apply pw_below_drewN | apply below_drew1 | refine below_set ?_ GE326.out) | exact HB.out))) : w.heap.size ≤ gb347))
             have n6_ := Aside0.mk ((by rw [hg]; exact (below_size (by repeat (first | (with_reducible first | exact HB.out | apply below_alloc | apply pw_below_drewN | apply below_drew1 | refine below_set ?_ GE326.out) | exact HB.out))) : w.heap.size ≤ gb347))
             have n7_ := Aside0.mk ((by rw [hg]; exact Nat.ne_of_lt (blk_lt (g := gb326) (o := .cells #[.int .i64 0, .int .i64 0, .int .i64 0, .slice none 0 0] 41 (0, 0)) (by (with_reducible repeat (first | refine blk_drewN ?_ _ | refine blk_drew ?_ | refine blk_alloc ?_ _)); exact BK326.out)) : gb326 ≠ gb347))
             have n8_ := Aside0.mk ((by rw [hg]; exact Nat.ne_of_gt (blk_lt (g := gb326) (o := .cells #[.int .i64 0, .int .i64 0, .int .i64 0, .slice none 0 0] 41 (0, 0)) (by (with_reducible repeat (first | refine blk_drewN ?_ _ | refine blk_drew ?_ | refine blk_alloc ?_ _)); exact BK326.out)) : gb347 ≠ gb326))
             clear HO_11
             clear HO_13
             clear BK326
             clear HB
             have HO_11 := n0_
             have HO_13 := n1_
             have BK326 := n2_
             have HB := n3_
             have BK347 := n4_
             have GW347 := n5_
             have GE347 := n6_
             have NB326_347 := n7_
             have NB347_326 := n8_
             clear n0_ n1_ n2_ n3_ n4_ n5_ n6_ n7_ n8_
             clear hb hbox hg
             refine hK.out _ _ ⟨HS0_, HS1_, HS2_⟩ (fun hHeld => ?_)
             clear hK K
             refine norm_ (a' := ?_) ?_ ?_
             rotate_left
             ·show Act.put _ (some 15) _ = _
              simp only [Act.put, List.setIfInBounds_toArray, List.set_cons_zero, List.set_cons_succ, i64_w, i32_w]
              rfl
             refine one_ (i := 12) (N := none) #[true, true, true, true, true, true, true, true, true, true, true, true, true] rfl rfl (one_of HT_.out (by kernel_rfl)) (by decide) (fun K hK => ?_)
             have hs49 : w48.cell? ⟨gb347, 0, none⟩ = some (.int .i64 0) := (blk_cell BK347.out 0).trans rfl
             have hfs49 := blk_frozen BK347.out 0
             have hns49_0 := NB326_347.out
             have hms49_0 := NB347_326.out
             have hs50 : w48.cell? ⟨gb347, 1, none⟩ = some (.int .i64 0) := (blk_cell BK347.out 1).trans rfl
             have hfs50 := blk_frozen BK347.out 1
             have hns50_0 := NB326_347.out
             have hms50_0 := NB347_326.out
             have hs51 : w48.cell? ⟨gb347, 2, none⟩ = some (.int .i64 0) := (blk_cell BK347.out 2).trans rfl
             have hfs51 := blk_frozen BK347.out 2
             have hns51_0 := NB326_347.out
             have hms51_0 := NB347_326.out
             have hs52 : w48.cell? ⟨gb347, 3, none⟩ = some (.slice none 0 0) := (blk_cell BK347.out 3).trans rfl
             have hfs52 := blk_frozen BK347.out 3
             have hns52_0 := NB326_347.out
             have hms52_0 := NB347_326.out
             refine skip_ (w1 := ?_) (by rfl) rfl ?_ ?_
             rotate_left
             ·go_simp
              rfl
             refine hK.out _ _ ⟨((cell_far (p := ⟨gb347, _, none⟩) (by first | (with_reducible exact Kd.own_blk (Kd.R_ne HO_11.out BK347.out (by decide))) | (rw [add_block]; with_reducible exact Kd.own_blk (Kd.R_ne HO_11.out BK347.out (by decide))) | (dsimp only; with_reducible exact Kd.own_blk (Kd.R_ne HO_11.out BK347.out (by decide))) | exact Kd.own_blk (Kd.R_ne HO_11.out BK347.out (by decide)) | (rw [add_block]; exact Kd.own_blk (Kd.R_ne HO_11.out BK347.out (by decide))) | (show (Addr.add _ _).block ≠ _; rw [add_block]; exact Kd.own_blk (Kd.R_ne HO_11.out BK347.out (by decide))) | (dsimp only; exact Kd.own_blk (Kd.R_ne HO_11.out BK347.out (by decide)))) _).trans (((cell_far (p := ⟨gb347, _, none⟩) (by first | (with_reducible exact Kd.own_blk (Kd.R_ne HO_11.out BK347.out (by decide))) | (rw [add_block]; with_reducible exact Kd.own_blk (Kd.R_ne HO_11.out BK347.out (by decide))) | (dsimp only; with_reducible exact Kd.own_blk (Kd.R_ne HO_11.out BK347.out (by decide))) | exact Kd.own_blk (Kd.R_ne HO_11.out BK347.out (by decide)) | (rw [add_block]; exact Kd.own_blk (Kd.R_ne HO_11.out BK347.out (by decide))) | (show (Addr.add _ _).block ≠ _; rw [add_block]; exact Kd.own_blk (Kd.R_ne HO_11.out BK347.out (by decide))) | (dsimp only; exact Kd.own_blk (Kd.R_ne HO_11.out BK347.out (by decide)))) _).trans (((cell_far (p := ⟨gb347, _, none⟩) (by first | (with_reducible exact Kd.own_blk (Kd.R_ne HO_11.out BK347.out (by decide))) | (rw [add_block]; with_reducible exact Kd.own_blk (Kd.R_ne HO_11.out BK347.out (by decide))) | (dsimp only; with_reducible exact Kd.own_blk (Kd.R_ne HO_11.out BK347.out (by decide))) | exact Kd.own_blk (Kd.R_ne HO_11.out BK347.out (by decide)) | (rw [add_block]; exact Kd.own_blk (Kd.R_ne HO_11.out BK347.out (by decide))) | (show (Addr.add _ _).block ≠ _; rw [add_block]; exact Kd.own_blk (Kd.R_ne HO_11.out BK347.out (by decide))) | (dsimp only; exact Kd.own_blk (Kd.R_ne HO_11.out BK347.out (by decide)))) _).trans (((cell_far (p := ⟨gb347, _, none⟩) (by first | (with_reducible exact Kd.own_blk (Kd.R_ne HO_11.out BK347.out (by decide))) | (rw [add_block]; with_reducible exact Kd.own_blk (Kd.R_ne HO_11.out BK347.out (by decide))) | (dsimp only; with_reducible exact Kd.own_blk (Kd.R_ne HO_11.out BK347.out (by decide))) | exact Kd.own_blk (Kd.R_ne HO_11.out BK347.out (by decide)) | (rw [add_block]; exact Kd.own_blk (Kd.R_ne HO_11.out BK347.out (by decide))) | (show (Addr.add _ _).block ≠ _; rw [add_block]; exact Kd.own_blk (Kd.R_ne HO_11.out BK347.out (by decide))) | (dsimp only; exact Kd.own_blk (Kd.R_ne HO_11.out BK347.out (by decide)))) _).trans (hHeld.1)))))))), ((cell_far (p := ⟨gb347, _, none⟩) (by first | (with_reducible exact Kd.own_blk (Kd.R_ne HO_11.out BK347.out (by decide))) | (rw [add_block]; with_reducible exact Kd.own_blk (Kd.R_ne HO_11.out BK347.out (by decide))) | (dsimp only; with_reducible exact Kd.own_blk (Kd.R_ne HO_11.out BK347.out (by decide))) | exact Kd.own_blk (Kd.R_ne HO_11.out BK347.out (by decide)) | (rw [add_block]; exact Kd.own_blk (Kd.R_ne HO_11.out BK347.out (by decide))) | (show (Addr.add _ _).block ≠ _; rw [add_block]; exact Kd.own_blk (Kd.R_ne HO_11.out BK347.out (by decide))) | (dsimp only; exact Kd.own_blk (Kd.R_ne HO_11.out BK347.out (by decide)))) _).trans (((cell_far (p := ⟨gb347, _, none⟩) (by first | (with_reducible exact Kd.own_blk (Kd.R_ne HO_11.out BK347.out (by decide))) | (rw [add_block]; with_reducible exact Kd.own_blk (Kd.R_ne HO_11.out BK347.out (by decide))) | (dsimp only; with_reducible exact Kd.own_blk (Kd.R_ne HO_11.out BK347.out (by decide))) | exact Kd.own_blk (Kd.R_ne HO_11.out BK347.out (by decide)) | (rw [add_block]; exact Kd.own_blk (Kd.R_ne HO_11.out BK347.out (by decide))) | (show (Addr.add _ _).block ≠ _; rw [add_block]; exact Kd.own_blk (Kd.R_ne HO_11.out BK347.out (by decide))) | (dsimp only; exact Kd.own_blk (Kd.R_ne HO_11.out BK347.out (by decide)))) _).trans (((cell_far (p := ⟨gb347, _, none⟩) (by first | (with_reducible exact Kd.own_blk (Kd.R_ne HO_11.out BK347.out (by decide))) | (rw [add_block]; with_reducible exact Kd.own_blk (Kd.R_ne HO_11.out BK347.out (by decide))) | (dsimp only; with_reducible exact Kd.own_blk (Kd.R_ne HO_11.out BK347.out (by decide))) | exact Kd.own_blk (Kd.R_ne HO_11.out BK347.out (by decide)) | (rw [add_block]; exact Kd.own_blk (Kd.R_ne HO_11.out BK347.out (by decide))) | (show (Addr.add _ _).block ≠ _; rw [add_block]; exact Kd.own_blk (Kd.R_ne HO_11.out BK347.out (by decide))) | (dsimp only; exact Kd.own_blk (Kd.R_ne HO_11.out BK347.out (by decide)))) _).trans (((cell_far (p := ⟨gb347, _, none⟩) (by first | (with_reducible exact Kd.own_blk (Kd.R_ne HO_11.out BK347.out (by decide))) | (rw [add_block]; with_reducible exact Kd.own_blk (Kd.R_ne HO_11.out BK347.out (by decide))) | (dsimp only; with_reducible exact Kd.own_blk (Kd.R_ne HO_11.out BK347.out (by decide))) | exact Kd.own_blk (Kd.R_ne HO_11.out BK347.out (by decide)) | (rw [add_block]; exact Kd.own_blk (Kd.R_ne HO_11.out BK347.out (by decide))) | (show (Addr.add _ _).block ≠ _; rw [add_block]; exact Kd.own_blk (Kd.R_ne HO_11.out BK347.out (by decide))) | (dsimp only; exact Kd.own_blk (Kd.R_ne HO_11.out BK347.out (by decide)))) _).trans (hHeld.2.1)))))))), ((cell_far (p := ⟨gb347, _, none⟩) (by first | (with_reducible exact Kd.own_blk (Kd.R_ne HO_11.out BK347.out (by decide))) | (rw [add_block]; with_reducible exact Kd.own_blk (Kd.R_ne HO_11.out BK347.out (by decide))) | (dsimp only; with_reducible exact Kd.own_blk (Kd.R_ne HO_11.out BK347.out (by decide))) | exact Kd.own_blk (Kd.R_ne HO_11.out BK347.out (by decide)) | (rw [add_block]; exact Kd.own_blk (Kd.R_ne HO_11.out BK347.out (by decide))) | (show (Addr.add _ _).block ≠ _; rw [add_block]; exact Kd.own_blk (Kd.R_ne HO_11.out BK347.out (by decide))) | (dsimp only; exact Kd.own_blk (Kd.R_ne HO_11.out BK347.out (by decide)))) _).trans (((cell_far (p := ⟨gb347, _, none⟩) (by first | (with_reducible exact Kd.own_blk (Kd.R_ne HO_11.out BK347.out (by decide))) | (rw [add_block]; with_reducible exact Kd.own_blk (Kd.R_ne HO_11.out BK347.out (by decide))) | (dsimp only; with_reducible exact Kd.own_blk (Kd.R_ne HO_11.out BK347.out (by decide))) | exact Kd.own_blk (Kd.R_ne HO_11.out BK347.out (by decide)) | (rw [add_block]; exact Kd.own_blk (Kd.R_ne HO_11.out BK347.out (by decide))) | (show (Addr.add _ _).block ≠ _; rw [add_block]; exact Kd.own_blk (Kd.R_ne HO_11.out BK347.out (by decide))) | (dsimp only; exact Kd.own_blk (Kd.R_ne HO_11.out BK347.out (by decide)))) _).trans (((cell_far (p := ⟨gb347, _, none⟩) (by first | (with_reducible exact Kd.own_blk (Kd.R_ne HO_11.out BK347.out (by decide))) | (rw [add_block]; with_reducible exact Kd.own_blk (Kd.R_ne HO_11.out BK347.out (by decide))) | (dsimp only; with_reducible exact Kd.own_blk (Kd.R_ne HO_11.out BK347.out (by decide))) | exact Kd.own_blk (Kd.R_ne HO_11.out BK347.out (by decide)) | (rw [add_block]; exact Kd.own_blk (Kd.R_ne HO_11.out BK347.out (by decide))) | (show (Addr.add _ _).block ≠ _; rw [add_block]; exact Kd.own_blk (Kd.R_ne HO_11.out BK347.out (by decide))) | (dsimp only; exact Kd.own_blk (Kd.R_ne HO_11.out BK347.out (by decide)))) _).trans (((cell_far (p := ⟨gb347, _, none⟩) (by first | (with_reducible exact Kd.own_blk (Kd.R_ne HO_11.out BK347.out (by decide))) | (rw [add_block]; with_reducible exact Kd.own_blk (Kd.R_ne HO_11.out BK347.out (by decide))) | (dsimp only; with_reducible exact Kd.own_blk (Kd.R_ne HO_11.out BK347.out (by decide))) | exact Kd.own_blk (Kd.R_ne HO_11.out BK347.out (by decide)) | (rw [add_block]; exact Kd.own_blk (Kd.R_ne HO_11.out BK347.out (by decide))) | (show (Addr.add _ _).block ≠ _; rw [add_block]; exact Kd.own_blk (Kd.R_ne HO_11.out BK347.out (by decide))) | (dsimp only; exact Kd.own_blk (Kd.R_ne HO_11.out BK347.out (by decide)))) _).trans (hHeld.2.2))))))))⟩ (fun hHeld => ?_)
             clear hK K
             refine done_ (done_of HT_.out (by kernel_rfl)) ?_
             have hnb53 := NB347_326.out
             have hnc53 := NB326_347.out
             have hcz54_0 : w48.cell? ⟨gb347, 0, none⟩ = some (.int .i64 0) := (blk_cell BK347.out 0).trans rfl
             have hcz54_1 : w48.cell? ⟨gb347, 1, none⟩ = some (.int .i64 0) := (blk_cell BK347.out 1).trans rfl
             have hcz54_2 : w48.cell? ⟨gb347, 2, none⟩ = some (.int .i64 0) := (blk_cell BK347.out 2).trans rfl
             have hcz54_3 : w48.cell? ⟨gb347, 3, none⟩ = some (.slice none 0 0) := (blk_cell BK347.out 3).trans rfl
             have hfz54_0 := blk_frozen BK347.out 0
             have hfz54_1 := blk_frozen BK347.out 1
             have hfz54_2 := blk_frozen BK347.out 2
             have hfz54_3 := blk_frozen BK347.out 3
             try go_wp2_with (first | ((with_reducible refine gate_callee (f := 47) rfl ?_); refine goesL_ (some 74) rfl rfl Tryd.func47 (by kernel_rfl) rfl #[.agg #[.int .i64 (rd t336 0), .int .i64 (rd t336 1), .int .i64 (rd t336 2), .slice Ao47 t340.length co47]] rfl (by (try simp only [List.map_toArray, List.map_cons, List.map_nil]); first | done | rfl | (simp only [List.length_drop, List.length_take]; rfl)) ?_; (with_reducible refine (impl_IsLine.calls kj10 (rd t336 0) (rd t336 1) (rd t336 2) _ _ t340 true _ ?side1 ?side2 A26.out).mono ?_); (case side1 => refine (Kd.R_reads' (e := 3) (base := w.heap.size) (ok := fun k_ => some k_ ≠ (.slice (some ad344) t336.length co46 : Value).ownBlock) (n := t340.length) (c := co47) ?_).2.2; exact (by (with_reducible repeat (first | apply Kd.R_alloc | apply Kd.R_drewN | apply Kd.R_drew)); exact (Kd.R_mono (Kd.R_far (p := ⟨gb347, 3, none⟩) (Kd.R_far (p := ⟨gb347, 2, none⟩) (Kd.R_far (p := ⟨gb347, 1, none⟩) (Kd.R_far (p := ⟨gb347, 0, none⟩) (Kd.R_types HO_13.out BK347.out (by decide)) (fun _ hk => hk.2) (.int .i64 (rd t336 0))) (fun _ hk => hk.2) (.int .i64 (rd t336 1))) (fun _ hk => hk.2) (.int .i64 (rd t336 2))) (fun _ hk => hk.2) (.slice Ao47 t340.length co47)) (fun _ h_ => h_.1)))); (case side2 => exact (Kd.R_reads' HO_13.out).2.1); rintro e w55 ⟨rfl, hb⟩; refine ⟨_, rfl, ?_⟩; have n0_ := Aside0.mk (Kd.R_below (by (with_reducible repeat (first | apply Kd.R_alloc | apply Kd.R_drewN | apply Kd.R_drew)); exact (Kd.R_mono (Kd.R_far (p := ⟨gb347, 3, none⟩) (Kd.R_far (p := ⟨gb347, 2, none⟩) (Kd.R_far (p := ⟨gb347, 1, none⟩) (Kd.R_far (p := ⟨gb347, 0, none⟩) (Kd.R_types HO_11.out BK347.out (by decide)) (fun _ hk => hk.2) (.int .i64 (rd t336 0))) (fun _ hk => hk.2) (.int .i64 (rd t336 1))) (fun _ hk => hk.2) (.int .i64 (rd t336 2))) (fun _ hk => hk.2) (.slice Ao47 t340.length co47)) (fun _ h_ => h_.1))) hb); have n1_ := Aside0.mk (Kd.R_below (by (with_reducible repeat (first | apply Kd.R_alloc | apply Kd.R_drewN | apply Kd.R_drew)); exact (Kd.R_mono (Kd.R_far (p := ⟨gb347, 3, none⟩) (Kd.R_far (p := ⟨gb347, 2, none⟩) (Kd.R_far (p := ⟨gb347, 1, none⟩) (Kd.R_far (p := ⟨gb347, 0, none⟩) (Kd.R_types HO_13.out BK347.out (by decide)) (fun _ hk => hk.2) (.int .i64 (rd t336 0))) (fun _ hk => hk.2) (.int .i64 (rd t336 1))) (fun _ hk => hk.2) (.int .i64 (rd t336 2))) (fun _ hk => hk.2) (.slice Ao47 t340.length co47)) (fun _ h_ => h_.1))) hb); have n2_ := Aside0.mk (blk_below (g := gb326) (o := .cells #[.int .i64 0, .int .i64 0, .int .i64 0, .slice none 0 0] 41 (0, 0)) (by (with_reducible repeat (first | refine blk_drewN ?_ _ | refine blk_drew ?_ | refine blk_alloc ?_ _)); refine blk_far ?_ NB326_347.out _; (with_reducible repeat (first | refine blk_drewN ?_ _ | refine blk_drew ?_ | refine blk_alloc ?_ _)); refine blk_far ?_ NB326_347.out _; (with_reducible repeat (first | refine blk_drewN ?_ _ | refine blk_drew ?_ | refine blk_alloc ?_ _)); refine blk_far ?_ NB326_347.out _; (with_reducible repeat (first | refine blk_drewN ?_ _ | refine blk_drew ?_ | refine blk_alloc ?_ _)); refine blk_far ?_ NB326_347.out _; (with_reducible repeat (first | refine blk_drewN ?_ _ | refine blk_drew ?_ | refine blk_alloc ?_ _)); exact BK326.out) hb); have n3_ := Aside0.mk (blk_below (g := gb347) (o := .cells #[.int .i64 (rd t336 0), .int .i64 (rd t336 1), .int .i64 (rd t336 2), .slice Ao47 t340.length co47] 41 (0, 0)) (by (with_reducible repeat (first | refine blk_drewN ?_ _ | refine blk_drew ?_ | refine blk_alloc ?_ _)); refine blk_put (cs := #[.int .i64 (rd t336 0), .int .i64 (rd t336 1), .int .i64 (rd t336 2), .slice none 0 0]) ?_ 3 _ rfl; (with_reducible repeat (first | refine blk_drewN ?_ _ | refine blk_drew ?_ | refine blk_alloc ?_ _)); refine blk_put (cs := #[.int .i64 (rd t336 0), .int .i64 (rd t336 1), .int .i64 0, .slice none 0 0]) ?_ 2 _ rfl; (with_reducible repeat (first | refine blk_drewN ?_ _ | refine blk_drew ?_ | refine blk_alloc ?_ _)); refine blk_put (cs := #[.int .i64 (rd t336 0), .int .i64 0, .int .i64 0, .slice none 0 0]) ?_ 1 _ rfl; (with_reducible repeat (first | refine blk_drewN ?_ _ | refine blk_drew ?_ | refine blk_alloc ?_ _)); refine blk_put (cs := #[.int .i64 0, .int .i64 0, .int .i64 0, .slice none 0 0]) ?_ 0 _ rfl; (with_reducible repeat (first | refine blk_drewN ?_ _ | refine blk_drew ?_ | refine blk_alloc ?_ _)); exact BK347.out) hb); have n4_ := Aside0.mk (below_step (by repeat (first | (with_reducible first | exact HB.out | apply below_alloc | apply pw_below_drewN | apply below_drew1 | refine below_set ?_ GE326.out | refine below_set ?_ GE347.out) | exact HB.out)) hb); clear HO_11; clear HO_13; clear BK326; clear BK347; clear HB; have HO_11 := n0_; have HO_13 := n1_; have BK326 := n2_; have BK347 := n3_; have HB := n4_; clear n0_ n1_ n2_ n3_ n4_; (try clear hb); have hcz56_0 : w55.cell? ⟨gb347, 0, none⟩ = some (.int .i64 (rd t336 0)) := (blk_cell BK347.out 0).trans rfl; have hcz56_1 : w55.cell? ⟨gb347, 1, none⟩ = some (.int .i64 (rd t336 1)) := (blk_cell BK347.out 1).trans rfl; have hcz56_2 : w55.cell? ⟨gb347, 2, none⟩ = some (.int .i64 (rd t336 2)) := (blk_cell BK347.out 2).trans rfl; have hcz56_3 : w55.cell? ⟨gb347, 3, none⟩ = some (.slice Ao47 t340.length co47) := (blk_cell BK347.out 3).trans rfl; have hfz56_0 := blk_frozen BK347.out 0; have hfz56_1 := blk_frozen BK347.out 1; have hfz56_2 := blk_frozen BK347.out 2; have hfz56_3 := blk_frozen BK347.out 3) | (go_at_call 48; (with_reducible refine (impl_lineText.calls kj10 (rd t336 0) (rd t336 1) (rd t336 2) _ _ t340 t349 _ ?side1 ?side2 A28.out ?sidet).mono ?_); (case sidet => refine Go.Proofs.YtoaacabnlfglmaaDoor.XText.T1.on (w := w) (Go.Proofs.YtoaacabnlfglmaaDoor.XText.T2.to1 HTab_.out) ?_; repeat (first | (with_reducible first | exact HB.out | exact Below.refl _ _ | apply below_alloc | apply pw_below_drewN | apply below_drew1 | refine below_set ?_ GE326.out | refine below_set ?_ GE347.out) | exact HB.out | exact Below.refl _ _)); (case side1 => repeat (first | exact (Kd.R_reads' HO_13.out).2.2 | (with_reducible refine Kd.C_alloc ?_ _) | (with_reducible refine Kd.C_drewN ?_ _) | (with_reducible refine Kd.C_drew ?_))); (case side2 => exact (Kd.R_reads' HO_13.out).2.1); rintro e w57 ⟨rfl, hb⟩; have n0_ := Aside0.mk (Kd.R_below (by (with_reducible repeat (first | apply Kd.R_alloc | apply Kd.R_drewN | apply Kd.R_drew)); exact HO_11.out) hb); have n1_ := Aside0.mk (Kd.R_below (by (with_reducible repeat (first | apply Kd.R_alloc | apply Kd.R_drewN | apply Kd.R_drew)); exact HO_13.out) hb); have n2_ := Aside0.mk (blk_below (g := gb326) (o := .cells #[.int .i64 0, .int .i64 0, .int .i64 0, .slice none 0 0] 41 (0, 0)) (by (with_reducible repeat (first | refine blk_drewN ?_ _ | refine blk_drew ?_ | refine blk_alloc ?_ _)); exact BK326.out) hb); have n3_ := Aside0.mk (blk_below (g := gb347) (o := .cells #[.int .i64 (rd t336 0), .int .i64 (rd t336 1), .int .i64 (rd t336 2), .slice Ao47 t340.length co47] 41 (0, 0)) (by (with_reducible repeat (first | refine blk_drewN ?_ _ | refine blk_drew ?_ | refine blk_alloc ?_ _)); exact BK347.out) hb); have n4_ := Aside0.mk (below_step (by repeat (first | (with_reducible first | exact HB.out | apply below_alloc | apply pw_below_drewN | apply below_drew1 | refine below_set ?_ GE326.out | refine below_set ?_ GE347.out) | exact HB.out)) hb); clear HO_11; clear HO_13; clear BK326; clear BK347; clear HB; have HO_11 := n0_; have HO_13 := n1_; have BK326 := n2_; have BK347 := n3_; have HB := n4_; clear n0_ n1_ n2_ n3_ n4_; (try clear hb); have hcz58_0 : w57.cell? ⟨gb326, 0, none⟩ = some (.int .i64 0) := (blk_cell BK326.out 0).trans rfl; have hcz58_1 : w57.cell? ⟨gb326, 1, none⟩ = some (.int .i64 0) := (blk_cell BK326.out 1).trans rfl; have hcz58_2 : w57.cell? ⟨gb326, 2, none⟩ = some (.int .i64 0) := (blk_cell BK326.out 2).trans rfl; have hcz58_3 : w57.cell? ⟨gb326, 3, none⟩ = some (.slice none 0 0) := (blk_cell BK326.out 3).trans rfl; have hfz58_0 := blk_frozen BK326.out 0; have hfz58_1 := blk_frozen BK326.out 1; have hfz58_2 := blk_frozen BK326.out 2; have hfz58_3 := blk_frozen BK326.out 3))
             refine bodyPost_ret (results_ct rfl _ _ gb326 41 #[.int .i64 0, .int .i64 0, .int .i64 0, .slice none 0 0] (0, 0) _ rfl (by (with_reducible repeat (first | refine blk_drewN ?_ _ | refine blk_drew ?_ | refine blk_alloc ?_ _)); refine blk_put (cs := #[.int .i64 0, .int .i64 0, .int .i64 0, .slice none 0 0]) ?_ 3 _ rfl; (with_reducible repeat (first | refine blk_drewN ?_ _ | refine blk_drew ?_ | refine blk_alloc ?_ _)); refine blk_put (cs := #[.int .i64 0, .int .i64 0, .int .i64 0, .slice none 0 0]) ?_ 2 _ rfl; (with_reducible repeat (first | refine blk_drewN ?_ _ | refine blk_drew ?_ | refine blk_alloc ?_ _)); refine blk_put (cs := #[.int .i64 0, .int .i64 0, .int .i64 0, .slice none 0 0]) ?_ 1 _ rfl; (with_reducible repeat (first | refine blk_drewN ?_ _ | refine blk_drew ?_ | refine blk_alloc ?_ _)); refine blk_put (cs := #[.int .i64 0, .int .i64 0, .int .i64 0, .slice none 0 0]) ?_ 0 _ rfl; (with_reducible repeat (first | refine blk_drewN ?_ _ | refine blk_drew ?_ | refine blk_alloc ?_ _)); exact BK326.out) Tryd.underlying41 rfl (by kernel_rfl)) rfl ?_
             exact ⟨_, by first | rfl | (simp [errW_none, errW_some] <;> rfl) | (simp [*, errW_none, errW_some] <;> rfl), by first | exact Kd.R_nil _ _ _ _ _ | exact Kd.N_nil _ _ _ _ _ | exact Kd.V_nil _ _ _ _ _ | exact Kd.Q_nil _ _ _ _ _ | exact Kd.S_nil _ _ _ _ _, by repeat (first | (with_reducible first | exact HB.out | apply below_alloc | apply pw_below_drewN | apply below_drew1 | refine below_set ?_ GE326.out | refine below_set ?_ GE347.out) | exact HB.out)⟩
           ·replace c27 := Bool.eq_false_iff.mpr c27
            subst c27
            have H1 : (some (0, 0, 0, ([] : List Int), false)) = some (r1, r2, r3, r4, r5) := by rw [if_neg (show ¬ (false = true) by decide)] at H; exact H
            clear H
            have H := H1
            clear H1
            simp only [Option.some.injEq, Prod.mk.injEq] at H
            obtain ⟨rfl, rfl, rfl, rfl, rfl⟩ := H
            try go_wp2
            have n0_ := Aside0.mk (Kd.R_drew HO_11.out)
            have n1_ := Aside0.mk (Kd.R_drew HO_13.out)
            have n2_ := Aside0.mk (blk_drew BK326.out)
            have n3_ := Aside0.mk (below_drew1 HB.out)
            clear HO_11
            clear HO_13
            clear BK326
            clear HB
            have HO_11 := n0_
            have HO_13 := n1_
            have BK326 := n2_
            have HB := n3_
            clear n0_ n1_ n2_ n3_
            obtain ⟨Ao60, co60, eo60⟩ := Kd.R_slice HO_11.out
            (first | subst eo60 | (injection eo60 with f1_ f2_ f3_; have f4_ := f1_.symm; have f5_ := f3_.symm; clear f1_ f2_ f3_; subst f4_; subst f5_))
            have p344 : 0 ≤ (0 : Int) := (by omega)
            have q344 : 0 < (t336.length : Int) := of_decide_eq_true (by first | (with_reducible assumption) | assumption)
            obtain ⟨ad344, e344, hx344_0⟩ := Kd.at_int (Kd.R_reads' HO_11.out).2.2 0 p344 q344
            cases e344
            have qi344 : (0 < t336.length) = True := eq_true (by omega)
            (try rw [show ((0 : Int)).toNat = 0 from rfl] at hx344_0)
            (try rw [Addr.add_zero'] at hx344_0)
            replace p344 := eq_true p344
            replace q344 := eq_true q344
            have p345 : 0 ≤ (1 : Int) := (by omega)
            have q345 : 1 < (t336.length : Int) := of_decide_eq_true (by first | (with_reducible assumption) | assumption)
            obtain ⟨ad345, e345, hx345_0⟩ := Kd.at_int (Kd.R_reads' HO_11.out).2.2 1 p345 q345
            obtain rfl : ad344 = ad345 := (by injection e345)
            (try simp only [show (1 : Int).toNat = 1 from rfl, Nat.reduceMul, Nat.reduceEqDiff, Go.Addr.add, ↓reduceIte] at hx345_0)
            have qi345 : (1 < t336.length) = True := eq_true (by omega)
            (try rw [show ((1 : Int)).toNat = 1 from rfl] at hx345_0)
            replace p345 := eq_true p345
            replace q345 := eq_true q345
            have p346 : 0 ≤ (2 : Int) := (by omega)
            have q346 : 2 < (t336.length : Int) := of_decide_eq_true (by first | (with_reducible assumption) | assumption)
            obtain ⟨ad346, e346, hx346_0⟩ := Kd.at_int (Kd.R_reads' HO_11.out).2.2 2 p346 q346
            obtain rfl : ad344 = ad346 := (by injection e346)
            (try simp only [show (2 : Int).toNat = 2 from rfl, Nat.reduceMul, Nat.reduceEqDiff, Go.Addr.add, ↓reduceIte] at hx346_0)
            have qi346 : (2 < t336.length) = True := eq_true (by omega)
            (try rw [show ((2 : Int)).toNat = 2 from rfl] at hx346_0)
            replace p346 := eq_true p346
            replace q346 := eq_true q346
            obtain ⟨Ao61, co61, eo61⟩ := Kd.R_slice HO_13.out
            (first | subst eo61 | (injection eo61 with f1_ f2_ f3_; have f4_ := f1_.symm; have f5_ := f3_.symm; clear f1_ f2_ f3_; subst f4_; subst f5_))
            refine start_ (n := 13) (S := fun w' => w'.cell? ad344 = some (.int .i64 (rd t336 0)) ∧ w'.cell? ⟨ad344.block, ad344.off + 1, none⟩ = some (.int .i64 (rd t336 1)) ∧ w'.cell? ⟨ad344.block, ad344.off + 2, none⟩ = some (.int .i64 (rd t336 2))) (ds := []) #[false, false, false, false, false, false, false, false, false, false, false, false, false] (by kernel_rfl) rfl rfl ⟨hx344_0, hx345_0, hx346_0⟩ (fun hHeld => ?_); refine with_tabW impl_ParseLine.tab8 impl_ParseLine.bits8 (fun HT_ HW_ => ?_)
            generalize wc.drew = w59 at HO_11 HO_13 BK326 HB hx344_0 hx345_0 hx346_0 hHeld ⊢
            refine pure_ (i := 0) (N := some 62) (v := ?_) (a' := ?_) #[true, false, false, false, false, false, false, false, false, false, false, false, false] rfl rfl (any_of HT_.out (by kernel_rfl)) (fun _ _ _ h => h) (Or.inl ⟨by rfl, ?_⟩) ?_ ?_
            rotate_left
            ·intro w'
             go_simp
             with_reducible rfl
            rotate_left
            ·simp only [Act.put, List.setIfInBounds_toArray, List.set_cons_zero, List.set_cons_succ, i64_w, i32_w]
             rfl
            refine pure_ (i := 1) (N := some 63) (v := ?_) (a' := ?_) #[true, true, false, false, false, false, false, false, false, false, false, false, false] rfl rfl (any_of HT_.out (by kernel_rfl)) (fun _ _ _ h => h) (Or.inl ⟨by rfl, ?_⟩) ?_ ?_
            rotate_left
            ·intro w'
             go_simp
             with_reducible rfl
            rotate_left
            ·simp only [Act.put, List.setIfInBounds_toArray, List.set_cons_zero, List.set_cons_succ, i64_w, i32_w]
             rfl
            refine pure_ (i := 3) (N := some 65) (v := ?_) (a' := ?_) #[true, true, false, true, false, false, false, false, false, false, false, false, false] rfl rfl (any_of HT_.out (by kernel_rfl)) (fun _ _ _ h => h) (Or.inl ⟨by rfl, ?_⟩) ?_ ?_
            rotate_left
            ·intro w'
             go_simp
             with_reducible rfl
            rotate_left
            ·simp only [Act.put, List.setIfInBounds_toArray, List.set_cons_zero, List.set_cons_succ, i64_w, i32_w]
             rfl
            refine pure_ (i := 4) (N := some 66) (v := ?_) (a' := ?_) #[true, true, false, true, true, false, false, false, false, false, false, false, false] rfl rfl (any_of HT_.out (by kernel_rfl)) (fun _ _ _ h => h) (Or.inl ⟨by rfl, ?_⟩) ?_ ?_
            rotate_left
            ·intro w'
             go_simp
             with_reducible rfl
            rotate_left
            ·simp only [Act.put, List.setIfInBounds_toArray, List.set_cons_zero, List.set_cons_succ, i64_w, i32_w]
             rfl
            refine pure_ (i := 6) (N := some 68) (v := ?_) (a' := ?_) #[true, true, false, true, true, false, true, false, false, false, false, false, false] rfl rfl (any_of HT_.out (by kernel_rfl)) (fun _ _ _ h => h) (Or.inl ⟨by rfl, ?_⟩) ?_ ?_
            rotate_left
            ·intro w'
             go_simp
             with_reducible rfl
            rotate_left
            ·simp only [Act.put, List.setIfInBounds_toArray, List.set_cons_zero, List.set_cons_succ, i64_w, i32_w]
             rfl
            refine pure_ (i := 7) (N := some 69) (v := ?_) (a' := ?_) #[true, true, false, true, true, false, true, true, false, false, false, false, false] rfl rfl (any_of HT_.out (by kernel_rfl)) (fun _ _ _ h => h) (Or.inl ⟨by rfl, ?_⟩) ?_ ?_
            rotate_left
            ·intro w'
             go_simp
             with_reducible rfl
            rotate_left
            ·simp only [Act.put, List.setIfInBounds_toArray, List.set_cons_zero, List.set_cons_succ, i64_w, i32_w]
             rfl
            refine pure_ (i := 9) (N := some 71) (v := ?_) (a' := ?_) #[true, true, false, true, true, false, true, true, false, true, false, false, false] rfl rfl (any_of HT_.out (by kernel_rfl)) (fun _ _ _ h => h) (Or.inl ⟨by rfl, ?_⟩) ?_ ?_
            rotate_left
            ·intro w'
             go_simp
             with_reducible rfl
            rotate_left
            ·simp only [Act.put, List.setIfInBounds_toArray, List.set_cons_zero, List.set_cons_succ, i64_w, i32_w]
             rfl
            refine take_ (i := 2) (N := some 64) (v := ?_) (a' := ?_) #[true, true, true, true, true, false, true, true, false, true, false, false, false] rfl rfl (take_ofW HT_.out HW_.out (by kernel_rfl)) (fun _ _ _ h => h) (Or.inl ⟨by rfl, ?_⟩) hHeld ?_ ?_
            rotate_left
            ·rintro w' ⟨s0, s1, s2⟩
             go_simp
             with_reducible rfl
            rotate_left
            ·simp only [Act.put, List.setIfInBounds_toArray, List.set_cons_zero, List.set_cons_succ, i64_w, i32_w]
             rfl
            refine take_ (i := 5) (N := some 67) (v := ?_) (a' := ?_) #[true, true, true, true, true, true, true, true, false, true, false, false, false] rfl rfl (take_ofW HT_.out HW_.out (by kernel_rfl)) (fun _ _ _ h => h) (Or.inl ⟨by rfl, ?_⟩) hHeld ?_ ?_
            rotate_left
            ·rintro w' ⟨s0, s1, s2⟩
             go_simp
             with_reducible rfl
            rotate_left
            ·simp only [Act.put, List.setIfInBounds_toArray, List.set_cons_zero, List.set_cons_succ, i64_w, i32_w]
             rfl
            refine take_ (i := 8) (N := some 70) (v := ?_) (a' := ?_) #[true, true, true, true, true, true, true, true, true, true, false, false, false] rfl rfl (take_ofW HT_.out HW_.out (by kernel_rfl)) (fun _ _ _ h => h) (Or.inl ⟨by rfl, ?_⟩) hHeld ?_ ?_
            rotate_left
            ·rintro w' ⟨s0, s1, s2⟩
             go_simp
             with_reducible rfl
            rotate_left
            ·simp only [Act.put, List.setIfInBounds_toArray, List.set_cons_zero, List.set_cons_succ, i64_w, i32_w]
             rfl
            refine pure_ (i := 10) (N := some 72) (v := ?_) (a' := ?_) #[true, true, true, true, true, true, true, true, true, true, true, false, false] rfl rfl (any_of HT_.out (by kernel_rfl)) (fun _ _ _ h => h) (Or.inl ⟨by rfl, ?_⟩) ?_ ?_
            rotate_left
            ·intro w'
             go_simp
             with_reducible rfl
            rotate_left
            ·simp only [Act.put, List.setIfInBounds_toArray, List.set_cons_zero, List.set_cons_succ, i64_w, i32_w]
             rfl
            refine one_ (i := 11) (N := some 15) #[true, true, true, true, true, true, true, true, true, true, true, true, false] rfl rfl (one_of HT_.out (by kernel_rfl)) (by decide) (fun K hK => ?_)
            refine box_step ?hg (N := 15) ?hd (cs := #[.int .i64 0, .int .i64 0, .int .i64 0, .slice none 0 0]) (t := 41) ?hr ?_; (case hd => rfl); (case hg => rfl); (case hr => first | (go_simp; done) | (go_simp; rfl))
            intro gb347 hg w62 hbox hb
            have HS0_ := (hb.cell (World.block_lt_of_cell? _ _ (hHeld.1))).trans (hHeld.1)
            have HS1_ := (hb.cell (World.block_lt_of_cell? _ _ (hHeld.2.1))).trans (hHeld.2.1)
            have HS2_ := (hb.cell (World.block_lt_of_cell? _ _ (hHeld.2.2))).trans (hHeld.2.2)
            have n0_ := Aside0.mk (Kd.R_below (by (with_reducible repeat (first | apply Kd.R_alloc | apply Kd.R_drewN | apply Kd.R_drew)); exact HO_11.out) hb)
            have n1_ := Aside0.mk (Kd.R_below (by (with_reducible repeat (first | apply Kd.R_alloc | apply Kd.R_drewN | apply Kd.R_drew)); exact HO_13.out) hb)
            have n2_ := Aside0.mk (blk_below (g := gb326) (o := .cells #[.int .i64 0, .int .i64 0, .int .i64 0, .slice none 0 0] 41 (0, 0)) (by (with_reducible repeat (first | refine blk_drewN ?_ _ | refine blk_drew ?_ | refine blk_alloc ?_ _)); exact BK326.out) hb)
            have n3_ := Aside0.mk (below_step (by repeat (first | (with_reducible first | exact HB.out | apply below_alloc | apply pw_below_drewN | apply below_drew1 | refine below_set ?_ GE326.out) | exact HB.out)) hb)
            have n4_ := Aside0.mk (hbox)
            have n5_ := Aside0.mk ((by rw [hg]; exact (below_size (by repeat (first | (with_reducible first | exact HB.out | apply below_alloc | apply pw_below_drewN | apply below_drew1 | refine below_set ?_ GE326.out) | exact HB.out))) : w.heap.size ≤ gb347))
            have n6_ := Aside0.mk ((by rw [hg]; exact (below_size (by repeat (first | (with_reducible first | exact HB.out | apply below_alloc | apply pw_below_drewN | apply below_drew1 | refine below_set ?_ GE326.out) | exact HB.out))) : w.heap.size ≤ gb347))
            have n7_ := Aside0.mk ((by rw [hg]; exact Nat.ne_of_lt (blk_lt (g := gb326) (o := .cells #[.int .i64 0, .int .i64 0, .int .i64 0, .slice none 0 0] 41 (0, 0)) (by (with_reducible repeat (first | refine blk_drewN ?_ _ | refine blk_drew ?_ | refine blk_alloc ?_ _)); exact BK326.out)) : gb326 ≠ gb347))
            have n8_ := Aside0.mk ((by rw [hg]; exact Nat.ne_of_gt (blk_lt (g := gb326) (o := .cells #[.int .i64 0, .int .i64 0, .int .i64 0, .slice none 0 0] 41 (0, 0)) (by (with_reducible repeat (first | refine blk_drewN ?_ _ | refine blk_drew ?_ | refine blk_alloc ?_ _)); exact BK326.out)) : gb347 ≠ gb326))
            clear HO_11
            clear HO_13
            clear BK326
            clear HB
            have HO_11 := n0_
            have HO_13 := n1_
            have BK326 := n2_
            have HB := n3_
            have BK347 := n4_
            have GW347 := n5_
            have GE347 := n6_
            have NB326_347 := n7_
            have NB347_326 := n8_
            clear n0_ n1_ n2_ n3_ n4_ n5_ n6_ n7_ n8_
            clear hb hbox hg
            refine hK.out _ _ ⟨HS0_, HS1_, HS2_⟩ (fun hHeld => ?_)
            clear hK K
            refine norm_ (a' := ?_) ?_ ?_
            rotate_left
            ·show Act.put _ (some 15) _ = _
             simp only [Act.put, List.setIfInBounds_toArray, List.set_cons_zero, List.set_cons_succ, i64_w, i32_w]
             rfl
            refine one_ (i := 12) (N := none) #[true, true, true, true, true, true, true, true, true, true, true, true, true] rfl rfl (one_of HT_.out (by kernel_rfl)) (by decide) (fun K hK => ?_)
            have hs63 : w62.cell? ⟨gb347, 0, none⟩ = some (.int .i64 0) := (blk_cell BK347.out 0).trans rfl
            have hfs63 := blk_frozen BK347.out 0
            have hns63_0 := NB326_347.out
            have hms63_0 := NB347_326.out
            have hs64 : w62.cell? ⟨gb347, 1, none⟩ = some (.int .i64 0) := (blk_cell BK347.out 1).trans rfl
            have hfs64 := blk_frozen BK347.out 1
            have hns64_0 := NB326_347.out
            have hms64_0 := NB347_326.out
            have hs65 : w62.cell? ⟨gb347, 2, none⟩ = some (.int .i64 0) := (blk_cell BK347.out 2).trans rfl
            have hfs65 := blk_frozen BK347.out 2
            have hns65_0 := NB326_347.out
            have hms65_0 := NB347_326.out
            have hs66 : w62.cell? ⟨gb347, 3, none⟩ = some (.slice none 0 0) := (blk_cell BK347.out 3).trans rfl
            have hfs66 := blk_frozen BK347.out 3
            have hns66_0 := NB326_347.out
            have hms66_0 := NB347_326.out
            refine skip_ (w1 := ?_) (by rfl) rfl ?_ ?_
            rotate_left
            ·go_simp
             rfl
            refine hK.out _ _ ⟨((cell_far (p := ⟨gb347, _, none⟩) (by first | (with_reducible exact Kd.own_blk (Kd.R_ne HO_11.out BK347.out (by decide))) | (rw [add_block]; with_reducible exact Kd.own_blk (Kd.R_ne HO_11.out BK347.out (by decide))) | (dsimp only; with_reducible exact Kd.own_blk (Kd.R_ne HO_11.out BK347.out (by decide))) | exact Kd.own_blk (Kd.R_ne HO_11.out BK347.out (by decide)) | (rw [add_block]; exact Kd.own_blk (Kd.R_ne HO_11.out BK347.out (by decide))) | (show (Addr.add _ _).block ≠ _; rw [add_block]; exact Kd.own_blk (Kd.R_ne HO_11.out BK347.out (by decide))) | (dsimp only; exact Kd.own_blk (Kd.R_ne HO_11.out BK347.out (by decide)))) _).trans (((cell_far (p := ⟨gb347, _, none⟩) (by first | (with_reducible exact Kd.own_blk (Kd.R_ne HO_11.out BK347.out (by decide))) | (rw [add_block]; with_reducible exact Kd.own_blk (Kd.R_ne HO_11.out BK347.out (by decide))) | (dsimp only; with_reducible exact Kd.own_blk (Kd.R_ne HO_11.out BK347.out (by decide))) | exact Kd.own_blk (Kd.R_ne HO_11.out BK347.out (by decide)) | (rw [add_block]; exact Kd.own_blk (Kd.R_ne HO_11.out BK347.out (by decide))) | (show (Addr.add _ _).block ≠ _; rw [add_block]; exact Kd.own_blk (Kd.R_ne HO_11.out BK347.out (by decide))) | (dsimp only; exact Kd.own_blk (Kd.R_ne HO_11.out BK347.out (by decide)))) _).trans (((cell_far (p := ⟨gb347, _, none⟩) (by first | (with_reducible exact Kd.own_blk (Kd.R_ne HO_11.out BK347.out (by decide))) | (rw [add_block]; with_reducible exact Kd.own_blk (Kd.R_ne HO_11.out BK347.out (by decide))) | (dsimp only; with_reducible exact Kd.own_blk (Kd.R_ne HO_11.out BK347.out (by decide))) | exact Kd.own_blk (Kd.R_ne HO_11.out BK347.out (by decide)) | (rw [add_block]; exact Kd.own_blk (Kd.R_ne HO_11.out BK347.out (by decide))) | (show (Addr.add _ _).block ≠ _; rw [add_block]; exact Kd.own_blk (Kd.R_ne HO_11.out BK347.out (by decide))) | (dsimp only; exact Kd.own_blk (Kd.R_ne HO_11.out BK347.out (by decide)))) _).trans (((cell_far (p := ⟨gb347, _, none⟩) (by first | (with_reducible exact Kd.own_blk (Kd.R_ne HO_11.out BK347.out (by decide))) | (rw [add_block]; with_reducible exact Kd.own_blk (Kd.R_ne HO_11.out BK347.out (by decide))) | (dsimp only; with_reducible exact Kd.own_blk (Kd.R_ne HO_11.out BK347.out (by decide))) | exact Kd.own_blk (Kd.R_ne HO_11.out BK347.out (by decide)) | (rw [add_block]; exact Kd.own_blk (Kd.R_ne HO_11.out BK347.out (by decide))) | (show (Addr.add _ _).block ≠ _; rw [add_block]; exact Kd.own_blk (Kd.R_ne HO_11.out BK347.out (by decide))) | (dsimp only; exact Kd.own_blk (Kd.R_ne HO_11.out BK347.out (by decide)))) _).trans (hHeld.1)))))))), ((cell_far (p := ⟨gb347, _, none⟩) (by first | (with_reducible exact Kd.own_blk (Kd.R_ne HO_11.out BK347.out (by decide))) | (rw [add_block]; with_reducible exact Kd.own_blk (Kd.R_ne HO_11.out BK347.out (by decide))) | (dsimp only; with_reducible exact Kd.own_blk (Kd.R_ne HO_11.out BK347.out (by decide))) | exact Kd.own_blk (Kd.R_ne HO_11.out BK347.out (by decide)) | (rw [add_block]; exact Kd.own_blk (Kd.R_ne HO_11.out BK347.out (by decide))) | (show (Addr.add _ _).block ≠ _; rw [add_block]; exact Kd.own_blk (Kd.R_ne HO_11.out BK347.out (by decide))) | (dsimp only; exact Kd.own_blk (Kd.R_ne HO_11.out BK347.out (by decide)))) _).trans (((cell_far (p := ⟨gb347, _, none⟩) (by first | (with_reducible exact Kd.own_blk (Kd.R_ne HO_11.out BK347.out (by decide))) | (rw [add_block]; with_reducible exact Kd.own_blk (Kd.R_ne HO_11.out BK347.out (by decide))) | (dsimp only; with_reducible exact Kd.own_blk (Kd.R_ne HO_11.out BK347.out (by decide))) | exact Kd.own_blk (Kd.R_ne HO_11.out BK347.out (by decide)) | (rw [add_block]; exact Kd.own_blk (Kd.R_ne HO_11.out BK347.out (by decide))) | (show (Addr.add _ _).block ≠ _; rw [add_block]; exact Kd.own_blk (Kd.R_ne HO_11.out BK347.out (by decide))) | (dsimp only; exact Kd.own_blk (Kd.R_ne HO_11.out BK347.out (by decide)))) _).trans (((cell_far (p := ⟨gb347, _, none⟩) (by first | (with_reducible exact Kd.own_blk (Kd.R_ne HO_11.out BK347.out (by decide))) | (rw [add_block]; with_reducible exact Kd.own_blk (Kd.R_ne HO_11.out BK347.out (by decide))) | (dsimp only; with_reducible exact Kd.own_blk (Kd.R_ne HO_11.out BK347.out (by decide))) | exact Kd.own_blk (Kd.R_ne HO_11.out BK347.out (by decide)) | (rw [add_block]; exact Kd.own_blk (Kd.R_ne HO_11.out BK347.out (by decide))) | (show (Addr.add _ _).block ≠ _; rw [add_block]; exact Kd.own_blk (Kd.R_ne HO_11.out BK347.out (by decide))) | (dsimp only; exact Kd.own_blk (Kd.R_ne HO_11.out BK347.out (by decide)))) _).trans (((cell_far (p := ⟨gb347, _, none⟩) (by first | (with_reducible exact Kd.own_blk (Kd.R_ne HO_11.out BK347.out (by decide))) | (rw [add_block]; with_reducible exact Kd.own_blk (Kd.R_ne HO_11.out BK347.out (by decide))) | (dsimp only; with_reducible exact Kd.own_blk (Kd.R_ne HO_11.out BK347.out (by decide))) | exact Kd.own_blk (Kd.R_ne HO_11.out BK347.out (by decide)) | (rw [add_block]; exact Kd.own_blk (Kd.R_ne HO_11.out BK347.out (by decide))) | (show (Addr.add _ _).block ≠ _; rw [add_block]; exact Kd.own_blk (Kd.R_ne HO_11.out BK347.out (by decide))) | (dsimp only; exact Kd.own_blk (Kd.R_ne HO_11.out BK347.out (by decide)))) _).trans (hHeld.2.1)))))))), ((cell_far (p := ⟨gb347, _, none⟩) (by first | (with_reducible exact Kd.own_blk (Kd.R_ne HO_11.out BK347.out (by decide))) | (rw [add_block]; with_reducible exact Kd.own_blk (Kd.R_ne HO_11.out BK347.out (by decide))) | (dsimp only; with_reducible exact Kd.own_blk (Kd.R_ne HO_11.out BK347.out (by decide))) | exact Kd.own_blk (Kd.R_ne HO_11.out BK347.out (by decide)) | (rw [add_block]; exact Kd.own_blk (Kd.R_ne HO_11.out BK347.out (by decide))) | (show (Addr.add _ _).block ≠ _; rw [add_block]; exact Kd.own_blk (Kd.R_ne HO_11.out BK347.out (by decide))) | (dsimp only; exact Kd.own_blk (Kd.R_ne HO_11.out BK347.out (by decide)))) _).trans (((cell_far (p := ⟨gb347, _, none⟩) (by first | (with_reducible exact Kd.own_blk (Kd.R_ne HO_11.out BK347.out (by decide))) | (rw [add_block]; with_reducible exact Kd.own_blk (Kd.R_ne HO_11.out BK347.out (by decide))) | (dsimp only; with_reducible exact Kd.own_blk (Kd.R_ne HO_11.out BK347.out (by decide))) | exact Kd.own_blk (Kd.R_ne HO_11.out BK347.out (by decide)) | (rw [add_block]; exact Kd.own_blk (Kd.R_ne HO_11.out BK347.out (by decide))) | (show (Addr.add _ _).block ≠ _; rw [add_block]; exact Kd.own_blk (Kd.R_ne HO_11.out BK347.out (by decide))) | (dsimp only; exact Kd.own_blk (Kd.R_ne HO_11.out BK347.out (by decide)))) _).trans (((cell_far (p := ⟨gb347, _, none⟩) (by first | (with_reducible exact Kd.own_blk (Kd.R_ne HO_11.out BK347.out (by decide))) | (rw [add_block]; with_reducible exact Kd.own_blk (Kd.R_ne HO_11.out BK347.out (by decide))) | (dsimp only; with_reducible exact Kd.own_blk (Kd.R_ne HO_11.out BK347.out (by decide))) | exact Kd.own_blk (Kd.R_ne HO_11.out BK347.out (by decide)) | (rw [add_block]; exact Kd.own_blk (Kd.R_ne HO_11.out BK347.out (by decide))) | (show (Addr.add _ _).block ≠ _; rw [add_block]; exact Kd.own_blk (Kd.R_ne HO_11.out BK347.out (by decide))) | (dsimp only; exact Kd.own_blk (Kd.R_ne HO_11.out BK347.out (by decide)))) _).trans (((cell_far (p := ⟨gb347, _, none⟩) (by first | (with_reducible exact Kd.own_blk (Kd.R_ne HO_11.out BK347.out (by decide))) | (rw [add_block]; with_reducible exact Kd.own_blk (Kd.R_ne HO_11.out BK347.out (by decide))) | (dsimp only; with_reducible exact Kd.own_blk (Kd.R_ne HO_11.out BK347.out (by decide))) | exact Kd.own_blk (Kd.R_ne HO_11.out BK347.out (by decide)) | (rw [add_block]; exact Kd.own_blk (Kd.R_ne HO_11.out BK347.out (by decide))) | (show (Addr.add _ _).block ≠ _; rw [add_block]; exact Kd.own_blk (Kd.R_ne HO_11.out BK347.out (by decide))) | (dsimp only; exact Kd.own_blk (Kd.R_ne HO_11.out BK347.out (by decide)))) _).trans (hHeld.2.2))))))))⟩ (fun hHeld => ?_)
            clear hK K
            refine done_ (done_of HT_.out (by kernel_rfl)) ?_
            have hnb67 := NB347_326.out
            have hnc67 := NB326_347.out
            have hcz68_0 : w62.cell? ⟨gb347, 0, none⟩ = some (.int .i64 0) := (blk_cell BK347.out 0).trans rfl
            have hcz68_1 : w62.cell? ⟨gb347, 1, none⟩ = some (.int .i64 0) := (blk_cell BK347.out 1).trans rfl
            have hcz68_2 : w62.cell? ⟨gb347, 2, none⟩ = some (.int .i64 0) := (blk_cell BK347.out 2).trans rfl
            have hcz68_3 : w62.cell? ⟨gb347, 3, none⟩ = some (.slice none 0 0) := (blk_cell BK347.out 3).trans rfl
            have hfz68_0 := blk_frozen BK347.out 0
            have hfz68_1 := blk_frozen BK347.out 1
            have hfz68_2 := blk_frozen BK347.out 2
            have hfz68_3 := blk_frozen BK347.out 3
            try go_wp2_with (first | ((with_reducible refine gate_callee (f := 47) rfl ?_); refine goesL_ (some 74) rfl rfl Tryd.func47 (by kernel_rfl) rfl #[.agg #[.int .i64 (rd t336 0), .int .i64 (rd t336 1), .int .i64 (rd t336 2), .slice Ao61 t340.length co61]] rfl (by (try simp only [List.map_toArray, List.map_cons, List.map_nil]); first | done | rfl | (simp only [List.length_drop, List.length_take]; rfl)) ?_; (with_reducible refine (impl_IsLine.calls kj10 (rd t336 0) (rd t336 1) (rd t336 2) _ _ t340 false _ ?side1 ?side2 A26.out).mono ?_); (case side1 => refine (Kd.R_reads' (e := 3) (base := w.heap.size) (ok := fun k_ => some k_ ≠ (.slice (some ad344) t336.length co60 : Value).ownBlock) (n := t340.length) (c := co61) ?_).2.2; exact (by (with_reducible repeat (first | apply Kd.R_alloc | apply Kd.R_drewN | apply Kd.R_drew)); exact (Kd.R_mono (Kd.R_far (p := ⟨gb347, 3, none⟩) (Kd.R_far (p := ⟨gb347, 2, none⟩) (Kd.R_far (p := ⟨gb347, 1, none⟩) (Kd.R_far (p := ⟨gb347, 0, none⟩) (Kd.R_types HO_13.out BK347.out (by decide)) (fun _ hk => hk.2) (.int .i64 (rd t336 0))) (fun _ hk => hk.2) (.int .i64 (rd t336 1))) (fun _ hk => hk.2) (.int .i64 (rd t336 2))) (fun _ hk => hk.2) (.slice Ao61 t340.length co61)) (fun _ h_ => h_.1)))); (case side2 => exact (Kd.R_reads' HO_13.out).2.1); rintro e w69 ⟨rfl, hb⟩; refine ⟨_, rfl, ?_⟩; have n0_ := Aside0.mk (Kd.R_below (by (with_reducible repeat (first | apply Kd.R_alloc | apply Kd.R_drewN | apply Kd.R_drew)); exact (Kd.R_mono (Kd.R_far (p := ⟨gb347, 3, none⟩) (Kd.R_far (p := ⟨gb347, 2, none⟩) (Kd.R_far (p := ⟨gb347, 1, none⟩) (Kd.R_far (p := ⟨gb347, 0, none⟩) (Kd.R_types HO_11.out BK347.out (by decide)) (fun _ hk => hk.2) (.int .i64 (rd t336 0))) (fun _ hk => hk.2) (.int .i64 (rd t336 1))) (fun _ hk => hk.2) (.int .i64 (rd t336 2))) (fun _ hk => hk.2) (.slice Ao61 t340.length co61)) (fun _ h_ => h_.1))) hb); have n1_ := Aside0.mk (Kd.R_below (by (with_reducible repeat (first | apply Kd.R_alloc | apply Kd.R_drewN | apply Kd.R_drew)); exact (Kd.R_mono (Kd.R_far (p := ⟨gb347, 3, none⟩) (Kd.R_far (p := ⟨gb347, 2, none⟩) (Kd.R_far (p := ⟨gb347, 1, none⟩) (Kd.R_far (p := ⟨gb347, 0, none⟩) (Kd.R_types HO_13.out BK347.out (by decide)) (fun _ hk => hk.2) (.int .i64 (rd t336 0))) (fun _ hk => hk.2) (.int .i64 (rd t336 1))) (fun _ hk => hk.2) (.int .i64 (rd t336 2))) (fun _ hk => hk.2) (.slice Ao61 t340.length co61)) (fun _ h_ => h_.1))) hb); have n2_ := Aside0.mk (blk_below (g := gb326) (o := .cells #[.int .i64 0, .int .i64 0, .int .i64 0, .slice none 0 0] 41 (0, 0)) (by (with_reducible repeat (first | refine blk_drewN ?_ _ | refine blk_drew ?_ | refine blk_alloc ?_ _)); refine blk_far ?_ NB326_347.out _; (with_reducible repeat (first | refine blk_drewN ?_ _ | refine blk_drew ?_ | refine blk_alloc ?_ _)); refine blk_far ?_ NB326_347.out _; (with_reducible repeat (first | refine blk_drewN ?_ _ | refine blk_drew ?_ | refine blk_alloc ?_ _)); refine blk_far ?_ NB326_347.out _; (with_reducible repeat (first | refine blk_drewN ?_ _ | refine blk_drew ?_ | refine blk_alloc ?_ _)); refine blk_far ?_ NB326_347.out _; (with_reducible repeat (first | refine blk_drewN ?_ _ | refine blk_drew ?_ | refine blk_alloc ?_ _)); exact BK326.out) hb); have n3_ := Aside0.mk (blk_below (g := gb347) (o := .cells #[.int .i64 (rd t336 0), .int .i64 (rd t336 1), .int .i64 (rd t336 2), .slice Ao61 t340.length co61] 41 (0, 0)) (by (with_reducible repeat (first | refine blk_drewN ?_ _ | refine blk_drew ?_ | refine blk_alloc ?_ _)); refine blk_put (cs := #[.int .i64 (rd t336 0), .int .i64 (rd t336 1), .int .i64 (rd t336 2), .slice none 0 0]) ?_ 3 _ rfl; (with_reducible repeat (first | refine blk_drewN ?_ _ | refine blk_drew ?_ | refine blk_alloc ?_ _)); refine blk_put (cs := #[.int .i64 (rd t336 0), .int .i64 (rd t336 1), .int .i64 0, .slice none 0 0]) ?_ 2 _ rfl; (with_reducible repeat (first | refine blk_drewN ?_ _ | refine blk_drew ?_ | refine blk_alloc ?_ _)); refine blk_put (cs := #[.int .i64 (rd t336 0), .int .i64 0, .int .i64 0, .slice none 0 0]) ?_ 1 _ rfl; (with_reducible repeat (first | refine blk_drewN ?_ _ | refine blk_drew ?_ | refine blk_alloc ?_ _)); refine blk_put (cs := #[.int .i64 0, .int .i64 0, .int .i64 0, .slice none 0 0]) ?_ 0 _ rfl; (with_reducible repeat (first | refine blk_drewN ?_ _ | refine blk_drew ?_ | refine blk_alloc ?_ _)); exact BK347.out) hb); have n4_ := Aside0.mk (below_step (by repeat (first | (with_reducible first | exact HB.out | apply below_alloc | apply pw_below_drewN | apply below_drew1 | refine below_set ?_ GE326.out | refine below_set ?_ GE347.out) | exact HB.out)) hb); clear HO_11; clear HO_13; clear BK326; clear BK347; clear HB; have HO_11 := n0_; have HO_13 := n1_; have BK326 := n2_; have BK347 := n3_; have HB := n4_; clear n0_ n1_ n2_ n3_ n4_; (try clear hb); have hcz70_0 : w69.cell? ⟨gb326, 0, none⟩ = some (.int .i64 0) := (blk_cell BK326.out 0).trans rfl; have hcz70_1 : w69.cell? ⟨gb326, 1, none⟩ = some (.int .i64 0) := (blk_cell BK326.out 1).trans rfl; have hcz70_2 : w69.cell? ⟨gb326, 2, none⟩ = some (.int .i64 0) := (blk_cell BK326.out 2).trans rfl; have hcz70_3 : w69.cell? ⟨gb326, 3, none⟩ = some (.slice none 0 0) := (blk_cell BK326.out 3).trans rfl; have hfz70_0 := blk_frozen BK326.out 0; have hfz70_1 := blk_frozen BK326.out 1; have hfz70_2 := blk_frozen BK326.out 2; have hfz70_3 := blk_frozen BK326.out 3))
            refine bodyPost_ret (results_ct rfl _ _ gb326 41 #[.int .i64 0, .int .i64 0, .int .i64 0, .slice none 0 0] (0, 0) _ rfl (by (with_reducible repeat (first | refine blk_drewN ?_ _ | refine blk_drew ?_ | refine blk_alloc ?_ _)); refine blk_put (cs := #[.int .i64 0, .int .i64 0, .int .i64 0, .slice none 0 0]) ?_ 3 _ rfl; (with_reducible repeat (first | refine blk_drewN ?_ _ | refine blk_drew ?_ | refine blk_alloc ?_ _)); refine blk_put (cs := #[.int .i64 0, .int .i64 0, .int .i64 0, .slice none 0 0]) ?_ 2 _ rfl; (with_reducible repeat (first | refine blk_drewN ?_ _ | refine blk_drew ?_ | refine blk_alloc ?_ _)); refine blk_put (cs := #[.int .i64 0, .int .i64 0, .int .i64 0, .slice none 0 0]) ?_ 1 _ rfl; (with_reducible repeat (first | refine blk_drewN ?_ _ | refine blk_drew ?_ | refine blk_alloc ?_ _)); refine blk_put (cs := #[.int .i64 0, .int .i64 0, .int .i64 0, .slice none 0 0]) ?_ 0 _ rfl; (with_reducible repeat (first | refine blk_drewN ?_ _ | refine blk_drew ?_ | refine blk_alloc ?_ _)); exact BK326.out) Tryd.underlying41 rfl (by kernel_rfl)) rfl ?_
            exact ⟨_, by first | rfl | (simp [errW_none, errW_some] <;> rfl) | (simp [*, errW_none, errW_some] <;> rfl), by first | exact Kd.R_nil _ _ _ _ _ | exact Kd.N_nil _ _ _ _ _ | exact Kd.V_nil _ _ _ _ _ | exact Kd.Q_nil _ _ _ _ _ | exact Kd.S_nil _ _ _ _ _, by repeat (first | (with_reducible first | exact HB.out | apply below_alloc | apply pw_below_drewN | apply below_drew1 | refine below_set ?_ GE326.out | refine below_set ?_ GE347.out) | exact HB.out)⟩
          ·rw [if_neg c25] at H
           exact absurd H (by simp)
         ·rw [if_neg c24] at H
          exact absurd H (by simp)
        ·rw [if_neg c23] at H
         exact absurd H (by simp)
    ·rw [if_neg c8] at H
     exact absurd H (by simp)
   ·rw [if_neg c7] at H
    exact absurd H (by simp)
  ·rw [if_neg c6] at H
   exact absurd H (by simp)
 ·rw [if_neg c5] at H
  exact absurd H (by simp)

end Go.Proofs.YtoaacabnlfglmaaDoor.QV
