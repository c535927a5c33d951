import Derived.Test.YthdnodmidbcgpaaQCx0
import Derived.Test.YthdnodmidbcgpaaQCx1
import Derived.Test.YthdnodmidbcgpaaQCx2
namespace Go.Proofs.Ythdnodmidbcgpaa.QC
open Go.Proofs.Ythdnodmidbcgpaa.X Go.RowKit Go.Proofs.YthdnodmidbcgpaaW.PrintWords Go.Proofs.YthdnodmidbcgpaaW.PrintLast Go.Proofs.YthdnodmidbcgpaaW.PrintMore
attribute [local go_sem] max2_int min2_int max_two min_two max_three min_three max_four min_four
set_option linter.unusedVariables false
set_option linter.unusedSimpArgs false
mutual
def spec_BestChange.j0 : Nat → Int → Int → List (List Int) → Int → Bool → Int → Int → Int → List Int → Int → Int → Int → List Int → Option (List Int × Int × Bool)
 | 0, _, _, _, _, _, _, _, _, _, _, _, _, _ => none
 | k + 1, x1, x3, x4, x5, x44, x140000, x140001, x140002, x140003, x141000, x141001, x141002, x141003 => if x44 = true then (some (([] : List Int), 0, false)) else (spec_BestChange.l0 k x1 x3 x4 x5 x4 (x4.length : Int) 0 x140000 x140001 x140002 x140003 x141000 x141001 x141002 x141003)
def spec_BestChange.l0 : Nat → Int → Int → List (List Int) → Int → List (List Int) → Int → Int → Int → Int → Int → List Int → Int → Int → Int → List Int → Option (List Int × Int × Bool)
 | 0, _, _, _, _, _, _, _, _, _, _, _, _, _, _, _ => none
 | k + 1, x1, x3, x4, x5, x45, x46, x47, x140000, x140001, x140002, x140003, x141000, x141001, x141002, x141003 => if x47 < x46 then (if 0 ≤ x47 then (if x47 < (x45.length : Int) then (if ((rd_L1 x45 x47).length : Int) = 3 then (if 0 < ((rd_L1 x45 x47).length : Int) then ((spec_buRide.f k x140000 x140001 x140002 x140003 x1 (rd (rd_L1 x45 x47) 0)).bind fun t147 => (if t147 = true then (if 1 < ((rd_L1 x45 x47).length : Int) then ((spec_buRide.f k x141000 x141001 x141002 x141003 (rd (rd_L1 x45 x47) 1) x3).bind fun t149 => (if t149 = true then (if 2 < ((rd_L1 x45 x47).length : Int) then ((spec_l1In.f (rd (rd_L1 x45 x47) 2) 0 100).bind fun t151 => (if t151 = true then (spec_BestChange.l0 k x1 x3 x4 x5 x45 x46 (wrap64 (x47 + 1)) x140000 x140001 x140002 x140003 x141000 x141001 x141002 x141003) else (some (([] : List Int), 0, false)))) else (none)) else (some (([] : List Int), 0, false)))) else (none)) else (some (([] : List Int), 0, false)))) else (none)) else (some (([] : List Int), 0, false))) else (none)) else (none)) else (spec_BestChange.l1 k x1 x3 x5 ([] : List Int) 0 x4 (x4.length : Int) 0 x140000 x140001 x140002 x140003 x141000 x141001 x141002 x141003)
def spec_BestChange.l1 : Nat → Int → Int → Int → List Int → Int → List (List Int) → Int → Int → Int → Int → Int → List Int → Int → Int → Int → List Int → Option (List Int × Int × Bool)
 | 0, _, _, _, _, _, _, _, _, _, _, _, _, _, _, _, _ => none
 | k + 1, x1, x3, x5, x17, x18, x80, x81, x82, x140000, x140001, x140002, x140003, x141000, x141001, x141002, x141003 => if x82 < x81 then (if 0 ≤ x82 then (if x82 < (x80.length : Int) then (if 0 < ((rd_L1 x80 x82).length : Int) then (if 1 < ((rd_L1 x80 x82).length : Int) then (if 2 < ((rd_L1 x80 x82).length : Int) then ((spec_buChange.f k x140000 x140001 x140002 x140003 x1 (rd (rd_L1 x80 x82) 0) x141000 x141001 x141002 x141003 (rd (rd_L1 x80 x82) 1) x3 (rd (rd_L1 x80 x82) 2) x5).bind fun bt156 => (if bt156.2.2 = true then (if (x17.length : Int) = 0 then ((spec_l1Own.f (rd_L1 x80 x82)).bind fun t159 => (spec_BestChange.l1 k x1 x3 x5 t159 bt156.2.1 x80 x81 (wrap64 (x82 + 1)) x140000 x140001 x140002 x140003 x141000 x141001 x141002 x141003)) else (if bt156.2.1 < x18 then ((spec_l1Own.f (rd_L1 x80 x82)).bind fun t162 => (spec_BestChange.l1 k x1 x3 x5 t162 bt156.2.1 x80 x81 (wrap64 (x82 + 1)) x140000 x140001 x140002 x140003 x141000 x141001 x141002 x141003)) else (spec_BestChange.l1 k x1 x3 x5 x17 x18 x80 x81 (wrap64 (x82 + 1)) x140000 x140001 x140002 x140003 x141000 x141001 x141002 x141003))) else (spec_BestChange.l1 k x1 x3 x5 x17 x18 x80 x81 (wrap64 (x82 + 1)) x140000 x140001 x140002 x140003 x141000 x141001 x141002 x141003))) else (none)) else (none)) else (none)) else (none)) else (none)) else (some (x17, x18, decide ((x17.length : Int) > 0)))
end
def spec_BestChange.f (k : Nat) (a0_0 : Int) (a0_1 : Int) (a0_2 : Int) (l0_3 : List Int) (a1 : Int) (a2_0 : Int) (a2_1 : Int) (a2_2 : Int) (l2_3 : List Int) (a3 : Int) (l4 : List (List Int)) (a5 : Int) : Option (List Int × Int × Bool) := (spec_buStop.f k a0_0 a0_1 a0_2 l0_3 a1).bind fun t141 => (if t141 = true then ((spec_buStop.f k a2_0 a2_1 a2_2 l2_3 a3).bind fun t142 => (if t142 = true then ((spec_l1In.f (l4.length : Int) 1 20).bind fun t143 => (if t143 = true then ((spec_buMinute.f a5).bind fun t144 => (spec_BestChange.j0 k a1 a3 l4 a5 (!t144) a0_0 a0_1 a0_2 l0_3 a2_0 a2_1 a2_2 l2_3)) else (spec_BestChange.j0 k a1 a3 l4 a5 true a0_0 a0_1 a0_2 l0_3 a2_0 a2_1 a2_2 l2_3))) else (spec_BestChange.j0 k a1 a3 l4 a5 true a0_0 a0_1 a0_2 l0_3 a2_0 a2_1 a2_2 l2_3))) else (spec_BestChange.j0 k a1 a3 l4 a5 true a0_0 a0_1 a0_2 l0_3 a2_0 a2_1 a2_2 l2_3))
def spec_BestChange.T6 : Bool × List (List Nat × List Nat) := (true, [([], []), ([0], [0]), ([1], [1]), ([2], [2]), ([3], [3]), ([3], [3]), ([3], [3]), ([6, 3], [3, 6]), ([7, 3], [3, 7]), ([4, 5, 8, 3, 3], [3, 4, 5, 8]), ([9, 3], [3, 9]), ([3, 10], [3, 10]), ([11, 9], [11]), ([12], [12]), ([12], [12]), ([14, 12], [12, 14]), ([15, 12], [12, 15]), ([12], [12]), ([13, 16, 17, 12, 12], [12, 13, 16, 17]), ([18, 12], [12, 18]), ([12, 19], [12, 19]), ([20, 18], [20]), ([21], [21]), ([22, 21], [21, 22]), ([23, 21], [21, 23]), ([24, 21, 21], [21, 24]), ([25, 21], [21, 25]), ([21, 26], [21, 26])])
def spec_BestChange.B6 : List Nat := [0, 1, 3, 7, 15, 15, 15, 79, 207, 511, 1023, 2047, 4095, 8191, 8191, 24575, 57343, 8191, 262143, 524287, 1048575, 2097151, 4194303, 8388607, 16777215, 33554431, 67108863, 134217727]
theorem spec_BestChange.tab6 : rtab .any (opsOf Try.f7 6) = spec_BestChange.T6 := by kernel_rfl
theorem spec_BestChange.bits6 : waitsOk spec_BestChange.T6.2 spec_BestChange.B6 = true := by kernel_rfl
def spec_BestChange.T14 : Bool × List (List Nat × List Nat) := (true, [([], []), ([], []), ([], []), ([2], [2]), ([3], [3]), ([], []), ([], []), ([6], [6]), ([7], [7]), ([], []), ([], []), ([10], [10]), ([11], [11]), ([], []), ([0, 1, 4, 5, 8, 9, 12, 13], [0, 1, 4, 5, 8, 9, 12, 13]), ([14], [14]), ([15], [15]), ([15], [15]), ([15], [15]), ([16, 14, 0, 1, 2, 3, 4, 5, 6, 7, 8, 9, 10, 11, 12, 13, 14, 15, 16], [16]), ([17, 19, 0, 1, 2, 3, 4, 5, 6, 7, 8, 9, 10, 11, 12, 13, 14, 15, 16, 17, 19], [17]), ([18, 20, 0, 1, 2, 3, 4, 5, 6, 7, 8, 9, 10, 11, 12, 13, 14, 15, 16, 17, 18, 19, 20], [18])])
def spec_BestChange.B14 : List Nat := [0, 0, 0, 4, 12, 0, 0, 64, 192, 0, 0, 1024, 3072, 0, 16383, 32767, 65535, 65535, 65535, 131071, 786431, 2097151]
theorem spec_BestChange.tab14 : rtab .any (opsOf Try.f7 14) = spec_BestChange.T14 := by kernel_rfl
theorem spec_BestChange.bits14 : waitsOk spec_BestChange.T14.2 spec_BestChange.B14 = true := by kernel_rfl
set_option maxHeartbeats 8000000 in
set_option maxRecDepth 100000 in
theorem spec_BestChange.calls (k : Nat) (a0_0 : Int) (a0_1 : Int) (a0_2 : Int) (A0_3 : Option Addr) (c0_3 : Nat) (l0_3 : List Int) (a1 : Int) (a2_0 : Int) (a2_1 : Int) (a2_2 : Int) (A2_3 : Option Addr) (c2_3 : Nat) (l2_3 : List Int) (a3 : Int) (A4 : Option Addr) (c4 : Nat) (l4 : List (List Int)) (a5 : Int) (r1 : List Int) (r2 : Int) (r3 : Bool) (w : World) (hr0_3 : Kd.C (Kd.int .i64) w A0_3 l0_3.length l0_3) (hc0_3 : l0_3.length ≤ c0_3) (hr2_3 : Kd.C (Kd.int .i64) w A2_3 l2_3.length l2_3) (hc2_3 : l2_3.length ≤ c2_3) (hr4 : Kd.C (Kd.slice 3 (Kd.int .i64)) w A4 l4.length l4) (hc4 : l4.length ≤ c4) (h : spec_BestChange.f k a0_0 a0_1 a0_2 l0_3 a1 a2_0 a2_1 a2_2 l2_3 a3 l4 a5 = some (r1, r2, r3)) :
  Calls Try.prog 7 #[.agg #[.int .i64 a0_0, .int .i64 a0_1, .int .i64 a0_2, .slice A0_3 l0_3.length c0_3], .int .i64 a1, .agg #[.int .i64 a2_0, .int .i64 a2_1, .int .i64 a2_2, .slice A2_3 l2_3.length c2_3], .int .i64 a3, .slice A4 l4.length c4, .int .i64 a5] w fun e w' => ∃ Aa : Value, e = .returned (.tuple #[Aa, .int .i64 r2, .bool r3]) ∧ Kd.R (Kd.int .i64) 3 w' w.heap.size (fun _ => True) Aa r1 ∧ Below w.heap.size w w' := by
 have hu30 := Try.underlying30
 have HR0_3 := Aside0.mk hr0_3
 have HC0_3 := Aside0.mk hc0_3
 clear hr0_3 hc0_3
 have HR2_3 := Aside0.mk hr2_3
 have HC2_3 := Aside0.mk hc2_3
 clear hr2_3 hc2_3
 have HR4 := Aside0.mk hr4
 have HC4 := Aside0.mk hc4
 clear hr4 hc4
 have HB := Aside0.mk (Below.refl w.heap.size w)
 have H := h
 unfold spec_BestChange.f at H
 clear h
 have HC7 := Aside0.mk H
 clear H
 go_enter Try.func7, Try.ntmps7
 go_upto_region 1 with (first | ((with_reducible refine gate_dst (N := 6) rfl ?_); (try (refine gate_guard (by rfl) ?_; dsimp only)); refine box_event ?hg (N := 6) ?hd (cs := #[.int .i64 a0_0, .int .i64 a0_1, .int .i64 a0_2, .slice A0_3 l0_3.length c0_3]) (t := 30) ?hr ?_; (case hd => rfl); (case hg => rfl); (case hr => first | (go_simp; done) | (go_simp; rfl)); intro gb139 hg w8 hbox hb; have n0_ := Aside0.mk (below_step (below_to HB) hb); have n1_ := Aside0.mk (hbox); have n2_ := Aside0.mk ((by rw [hg]; exact (below_size (below_to HB)) : w.heap.size ≤ gb139)); have n3_ := Aside0.mk ((by rw [hg]; exact (below_size (below_to HB)) : w.heap.size ≤ gb139)); clear HB; have HB := n0_; have BK139 := n1_; have GW139 := n2_; have GE139 := n3_; clear n0_ n1_ n2_ n3_; clear hb hbox hg) | ((with_reducible refine gate_dst (N := 8) rfl ?_); (try (refine gate_guard (by rfl) ?_; dsimp only)); refine box_event ?hg (N := 8) ?hd (cs := #[.int .i64 a2_0, .int .i64 a2_1, .int .i64 a2_2, .slice A2_3 l2_3.length c2_3]) (t := 30) ?hr ?_; (case hd => rfl); (case hg => rfl); (case hr => first | (go_simp; done) | (go_simp; rfl)); intro gb140 hg w9 hbox hb; have n0_ := Aside0.mk (blk_below (blk_to BK139) hb); have n1_ := Aside0.mk (below_step (below_to1 HB GE139.out) hb); have n2_ := Aside0.mk (hbox); have n3_ := Aside0.mk ((by rw [hg]; exact (below_size (below_to1 HB GE139.out)) : w.heap.size ≤ gb140)); have n4_ := Aside0.mk ((by rw [hg]; exact (below_size (below_to1 HB GE139.out)) : w.heap.size ≤ gb140)); have n5_ := Aside0.mk ((by rw [hg]; exact Nat.ne_of_lt (blk_lt (blk_to BK139)) : gb139 ≠ gb140)); have n6_ := Aside0.mk ((by rw [hg]; exact Nat.ne_of_gt (blk_lt (blk_to BK139)) : gb140 ≠ gb139)); clear BK139; clear HB; have BK139 := n0_; have HB := n1_; have BK140 := n2_; have GW140 := n3_; have GE140 := n4_; have NB139_140 := n5_; have NB140_139 := n6_; clear n0_ n1_ n2_ n3_ n4_ n5_ n6_; clear hb hbox hg))
 (try simp only [Act.put, List.setIfInBounds_toArray, List.set_cons_zero, List.set_cons_succ])
 go_cut [44] (fun v44 wc => ∃ (kq : Nat) (x44_6 : Bool), v44 = .bool x44_6 ∧ Aside0 (spec_BestChange.j0 kq a1 a3 l4 a5 x44_6 a0_0 a0_1 a0_2 l0_3 a2_0 a2_1 a2_2 l2_3 = some (r1, r2, r3)) ∧ Aside0 (kq ≤ k) ∧ Aside0 (wc.heap[gb139]? = some (.cells #[.int .i64 a0_0, .int .i64 a0_1, .int .i64 a0_2, (.slice A0_3 l0_3.length c0_3)] 30 (0, 0))) ∧ Aside0 (wc.heap[gb140]? = some (.cells #[.int .i64 a2_0, .int .i64 a2_1, .int .i64 a2_2, (.slice A2_3 l2_3.length c2_3)] 30 (0, 0))) ∧ Aside0 (Below w.heap.size w wc))
 case first =>
  have H := HC7.out
  clear HC7
  replace H := Option.bind_eq_some_iff.mp H
  obtain ⟨t141, A100, H⟩ := H
  (try dsimp only at H)
  have A10 := Aside0.mk A100
  clear A100
  by_cases c11 : t141 = true
  rotate_left
  ·replace c11 := Bool.eq_false_iff.mpr c11
   subst c11
   rw [if_neg ft_] at H
   have H' := Aside0.mk H
   clear H
   have hnb32 := NB139_140.out
   have hnc32 := NB140_139.out
   have hcz33_0 : w9.cell? ⟨gb139, 0, none⟩ = some (.int .i64 a0_0) := (blk_cell BK139.out 0).trans rfl
   have hcz33_1 : w9.cell? ⟨gb139, 1, none⟩ = some (.int .i64 a0_1) := (blk_cell BK139.out 1).trans rfl
   have hcz33_2 : w9.cell? ⟨gb139, 2, none⟩ = some (.int .i64 a0_2) := (blk_cell BK139.out 2).trans rfl
   have hcz33_3 : w9.cell? ⟨gb139, 3, none⟩ = some (.slice A0_3 l0_3.length c0_3) := (blk_cell BK139.out 3).trans rfl
   have hfz33_0 := blk_frozen BK139.out 0
   have hfz33_1 := blk_frozen BK139.out 1
   have hfz33_2 := blk_frozen BK139.out 2
   have hfz33_3 := blk_frozen BK139.out 3
   go_wp2_with (first | ((with_reducible refine gate_callee (f := 42) rfl ?_); refine goesL_ (some 26) rfl rfl Try.func42 (by kernel_rfl) rfl #[.agg #[.int .i64 a0_0, .int .i64 a0_1, .int .i64 a0_2, .slice A0_3 l0_3.length c0_3], .int .i64 a1] rfl am_ ?_; (with_reducible refine (spec_buStop.calls k a0_0 a0_1 a0_2 _ _ l0_3 a1 false _ ?side1 ?side2 A10.out).mono ?_); (case side1 => exact cb_ HR0_3 HB); (case side2 => exact HC0_3.out); rintro e w34 ⟨rfl, hb⟩; refine ⟨_, rfl, ?_⟩; replace BK139 := Aside0.mk (blk_below (blk_to BK139) hb); replace BK140 := Aside0.mk (blk_below (blk_to BK140) hb); replace HB := Aside0.mk (below_step (below_to2 HB GE139.out GE140.out) hb); clear hb))
   go_meet
   case rel => exact ⟨_, (true), rt_, H', ⟨by first | omega | exact Nat.le_refl _⟩, ⟨blk_to BK139⟩, ⟨blk_to BK140⟩, ⟨below_to2 HB GE139.out GE140.out⟩⟩
  subst c11
  rw [if_pos rfl] at H
  replace H := Option.bind_eq_some_iff.mp H
  obtain ⟨t142, A120, H⟩ := H
  (try dsimp only at H)
  have A12 := Aside0.mk A120
  clear A120
  by_cases c13 : t142 = true
  rotate_left
  ·replace c13 := Bool.eq_false_iff.mpr c13
   subst c13
   rw [if_neg ft_] at H
   have H' := Aside0.mk H
   clear H
   have hnb27 := NB139_140.out
   have hnc27 := NB140_139.out
   have hcz28_0 : w9.cell? ⟨gb139, 0, none⟩ = some (.int .i64 a0_0) := (blk_cell BK139.out 0).trans rfl
   have hcz28_1 : w9.cell? ⟨gb139, 1, none⟩ = some (.int .i64 a0_1) := (blk_cell BK139.out 1).trans rfl
   have hcz28_2 : w9.cell? ⟨gb139, 2, none⟩ = some (.int .i64 a0_2) := (blk_cell BK139.out 2).trans rfl
   have hcz28_3 : w9.cell? ⟨gb139, 3, none⟩ = some (.slice A0_3 l0_3.length c0_3) := (blk_cell BK139.out 3).trans rfl
   have hfz28_0 := blk_frozen BK139.out 0
   have hfz28_1 := blk_frozen BK139.out 1
   have hfz28_2 := blk_frozen BK139.out 2
   have hfz28_3 := blk_frozen BK139.out 3
   go_wp2_with (first | ((with_reducible refine gate_callee (f := 42) rfl ?_); refine goesL_ (some 26) rfl rfl Try.func42 (by kernel_rfl) rfl #[.agg #[.int .i64 a0_0, .int .i64 a0_1, .int .i64 a0_2, .slice A0_3 l0_3.length c0_3], .int .i64 a1] rfl am_ ?_; (with_reducible refine (spec_buStop.calls k a0_0 a0_1 a0_2 _ _ l0_3 a1 true _ ?side1 ?side2 A10.out).mono ?_); (case side1 => exact cb_ HR0_3 HB); (case side2 => exact HC0_3.out); rintro e w29 ⟨rfl, hb⟩; refine ⟨_, rfl, ?_⟩; replace BK139 := Aside0.mk (blk_below (blk_to BK139) hb); replace BK140 := Aside0.mk (blk_below (blk_to BK140) hb); replace HB := Aside0.mk (below_step (below_to2 HB GE139.out GE140.out) hb); clear hb; have hcz30_0 : w29.cell? ⟨gb140, 0, none⟩ = some (.int .i64 a2_0) := (blk_cell BK140.out 0).trans rfl; have hcz30_1 : w29.cell? ⟨gb140, 1, none⟩ = some (.int .i64 a2_1) := (blk_cell BK140.out 1).trans rfl; have hcz30_2 : w29.cell? ⟨gb140, 2, none⟩ = some (.int .i64 a2_2) := (blk_cell BK140.out 2).trans rfl; have hcz30_3 : w29.cell? ⟨gb140, 3, none⟩ = some (.slice A2_3 l2_3.length c2_3) := (blk_cell BK140.out 3).trans rfl; have hfz30_0 := blk_frozen BK140.out 0; have hfz30_1 := blk_frozen BK140.out 1; have hfz30_2 := blk_frozen BK140.out 2; have hfz30_3 := blk_frozen BK140.out 3) | (go_at_call 42; (with_reducible refine (spec_buStop.calls k a2_0 a2_1 a2_2 _ _ l2_3 a3 false _ ?side1 ?side2 A12.out).mono ?_); (case side1 => exact cb_ HR2_3 HB); (case side2 => exact HC2_3.out); rintro e w31 ⟨rfl, hb⟩; replace BK139 := Aside0.mk (blk_below (blk_to BK139) hb); replace BK140 := Aside0.mk (blk_below (blk_to BK140) hb); replace HB := Aside0.mk (below_step (below_to2 HB GE139.out GE140.out) hb); clear hb))
   go_meet
   case rel => exact ⟨_, (true), rt_, H', ⟨by first | omega | exact Nat.le_refl _⟩, ⟨blk_to BK139⟩, ⟨blk_to BK140⟩, ⟨below_to2 HB GE139.out GE140.out⟩⟩
  subst c13
  rw [if_pos rfl] at H
  replace H := Option.bind_eq_some_iff.mp H
  obtain ⟨t143, A140, H⟩ := H
  (try dsimp only at H)
  have A14 := Aside0.mk A140
  clear A140
  by_cases c15 : t143 = true
  rotate_left
  ·replace c15 := Bool.eq_false_iff.mpr c15
   subst c15
   rw [if_neg ft_] at H
   have H' := Aside0.mk H
   clear H
   have hnb22 := NB139_140.out
   have hnc22 := NB140_139.out
   have hcz23_0 : w9.cell? ⟨gb139, 0, none⟩ = some (.int .i64 a0_0) := (blk_cell BK139.out 0).trans rfl
   have hcz23_1 : w9.cell? ⟨gb139, 1, none⟩ = some (.int .i64 a0_1) := (blk_cell BK139.out 1).trans rfl
   have hcz23_2 : w9.cell? ⟨gb139, 2, none⟩ = some (.int .i64 a0_2) := (blk_cell BK139.out 2).trans rfl
   have hcz23_3 : w9.cell? ⟨gb139, 3, none⟩ = some (.slice A0_3 l0_3.length c0_3) := (blk_cell BK139.out 3).trans rfl
   have hfz23_0 := blk_frozen BK139.out 0
   have hfz23_1 := blk_frozen BK139.out 1
   have hfz23_2 := blk_frozen BK139.out 2
   have hfz23_3 := blk_frozen BK139.out 3
   go_wp2_with (first | ((with_reducible refine gate_callee (f := 42) rfl ?_); refine goesL_ (some 26) rfl rfl Try.func42 (by kernel_rfl) rfl #[.agg #[.int .i64 a0_0, .int .i64 a0_1, .int .i64 a0_2, .slice A0_3 l0_3.length c0_3], .int .i64 a1] rfl am_ ?_; (with_reducible refine (spec_buStop.calls k a0_0 a0_1 a0_2 _ _ l0_3 a1 true _ ?side1 ?side2 A10.out).mono ?_); (case side1 => exact cb_ HR0_3 HB); (case side2 => exact HC0_3.out); rintro e w24 ⟨rfl, hb⟩; refine ⟨_, rfl, ?_⟩; replace BK139 := Aside0.mk (blk_below (blk_to BK139) hb); replace BK140 := Aside0.mk (blk_below (blk_to BK140) hb); replace HB := Aside0.mk (below_step (below_to2 HB GE139.out GE140.out) hb); clear hb; have hcz25_0 : w24.cell? ⟨gb140, 0, none⟩ = some (.int .i64 a2_0) := (blk_cell BK140.out 0).trans rfl; have hcz25_1 : w24.cell? ⟨gb140, 1, none⟩ = some (.int .i64 a2_1) := (blk_cell BK140.out 1).trans rfl; have hcz25_2 : w24.cell? ⟨gb140, 2, none⟩ = some (.int .i64 a2_2) := (blk_cell BK140.out 2).trans rfl; have hcz25_3 : w24.cell? ⟨gb140, 3, none⟩ = some (.slice A2_3 l2_3.length c2_3) := (blk_cell BK140.out 3).trans rfl; have hfz25_0 := blk_frozen BK140.out 0; have hfz25_1 := blk_frozen BK140.out 1; have hfz25_2 := blk_frozen BK140.out 2; have hfz25_3 := blk_frozen BK140.out 3) | (go_at_call 42; (with_reducible refine (spec_buStop.calls k a2_0 a2_1 a2_2 _ _ l2_3 a3 true _ ?side1 ?side2 A12.out).mono ?_); (case side1 => exact cb_ HR2_3 HB); (case side2 => exact HC2_3.out); rintro e w26 ⟨rfl, hb⟩; replace BK139 := Aside0.mk (blk_below (blk_to BK139) hb); replace BK140 := Aside0.mk (blk_below (blk_to BK140) hb); replace HB := Aside0.mk (below_step (below_to2 HB GE139.out GE140.out) hb); clear hb) | (go_at_call 43; (with_reducible refine (spec_l1In.calls (l4.length : Int) 1 20 false _ A14.out).mono ?_); rintro e w' ⟨rfl, ⟨nd, rfl⟩⟩))
   go_meet
   case rel => exact ⟨_, (true), rt_, H', ⟨by first | omega | exact Nat.le_refl _⟩, ⟨blk_to BK139⟩, ⟨blk_to BK140⟩, ⟨below_to2 HB GE139.out GE140.out⟩⟩
  subst c15
  rw [if_pos rfl] at H
  replace H := Option.bind_eq_some_iff.mp H
  obtain ⟨t144, A160, H⟩ := H
  (try dsimp only at H)
  have A16 := Aside0.mk A160
  clear A160
  have H' := Aside0.mk H
  clear H
  have hnb17 := NB139_140.out
  have hnc17 := NB140_139.out
  have hcz18_0 : w9.cell? ⟨gb139, 0, none⟩ = some (.int .i64 a0_0) := (blk_cell BK139.out 0).trans rfl
  have hcz18_1 : w9.cell? ⟨gb139, 1, none⟩ = some (.int .i64 a0_1) := (blk_cell BK139.out 1).trans rfl
  have hcz18_2 : w9.cell? ⟨gb139, 2, none⟩ = some (.int .i64 a0_2) := (blk_cell BK139.out 2).trans rfl
  have hcz18_3 : w9.cell? ⟨gb139, 3, none⟩ = some (.slice A0_3 l0_3.length c0_3) := (blk_cell BK139.out 3).trans rfl
  have hfz18_0 := blk_frozen BK139.out 0
  have hfz18_1 := blk_frozen BK139.out 1
  have hfz18_2 := blk_frozen BK139.out 2
  have hfz18_3 := blk_frozen BK139.out 3
  go_wp2_with (first | ((with_reducible refine gate_callee (f := 42) rfl ?_); refine goesL_ (some 26) rfl rfl Try.func42 (by kernel_rfl) rfl #[.agg #[.int .i64 a0_0, .int .i64 a0_1, .int .i64 a0_2, .slice A0_3 l0_3.length c0_3], .int .i64 a1] rfl am_ ?_; (with_reducible refine (spec_buStop.calls k a0_0 a0_1 a0_2 _ _ l0_3 a1 true _ ?side1 ?side2 A10.out).mono ?_); (case side1 => exact cb_ HR0_3 HB); (case side2 => exact HC0_3.out); rintro e w19 ⟨rfl, hb⟩; refine ⟨_, rfl, ?_⟩; replace BK139 := Aside0.mk (blk_below (blk_to BK139) hb); replace BK140 := Aside0.mk (blk_below (blk_to BK140) hb); replace HB := Aside0.mk (below_step (below_to2 HB GE139.out GE140.out) hb); clear hb; have hcz20_0 : w19.cell? ⟨gb140, 0, none⟩ = some (.int .i64 a2_0) := (blk_cell BK140.out 0).trans rfl; have hcz20_1 : w19.cell? ⟨gb140, 1, none⟩ = some (.int .i64 a2_1) := (blk_cell BK140.out 1).trans rfl; have hcz20_2 : w19.cell? ⟨gb140, 2, none⟩ = some (.int .i64 a2_2) := (blk_cell BK140.out 2).trans rfl; have hcz20_3 : w19.cell? ⟨gb140, 3, none⟩ = some (.slice A2_3 l2_3.length c2_3) := (blk_cell BK140.out 3).trans rfl; have hfz20_0 := blk_frozen BK140.out 0; have hfz20_1 := blk_frozen BK140.out 1; have hfz20_2 := blk_frozen BK140.out 2; have hfz20_3 := blk_frozen BK140.out 3) | (go_at_call 42; (with_reducible refine (spec_buStop.calls k a2_0 a2_1 a2_2 _ _ l2_3 a3 true _ ?side1 ?side2 A12.out).mono ?_); (case side1 => exact cb_ HR2_3 HB); (case side2 => exact HC2_3.out); rintro e w21 ⟨rfl, hb⟩; replace BK139 := Aside0.mk (blk_below (blk_to BK139) hb); replace BK140 := Aside0.mk (blk_below (blk_to BK140) hb); replace HB := Aside0.mk (below_step (below_to2 HB GE139.out GE140.out) hb); clear hb) | (go_at_call 43; (with_reducible refine (spec_l1In.calls (l4.length : Int) 1 20 true _ A14.out).mono ?_); rintro e w' ⟨rfl, ⟨nd, rfl⟩⟩) | (go_at_call 44; (with_reducible refine (spec_buMinute.calls a5 t144 _ A16.out).mono ?_); rintro e w' ⟨rfl, ⟨nd, rfl⟩⟩))
  go_meet
  case rel => exact ⟨_, (!t144), rt_, H', ⟨by first | omega | exact Nat.le_refl _⟩, ⟨blk_to BK139⟩, ⟨blk_to BK140⟩, ⟨below_to2 HB GE139.out GE140.out⟩⟩
 clear HC7
 try clear c1
 try clear c2
 try clear p2
 try clear c3
 try clear c4
 try clear c7
 try clear c11
 try clear c13
 try clear c15
 try clear c17
 try clear c22
 try clear c27
 try clear c32
 try clear hcz18_0
 try clear hcz18_1
 try clear hcz18_2
 try clear hcz18_3
 try clear hcz20_0
 try clear hcz20_1
 try clear hcz20_2
 try clear hcz20_3
 try clear hcz23_0
 try clear hcz23_1
 try clear hcz23_2
 try clear hcz23_3
 try clear hcz25_0
 try clear hcz25_1
 try clear hcz25_2
 try clear hcz25_3
 try clear hcz28_0
 try clear hcz28_1
 try clear hcz28_2
 try clear hcz28_3
 try clear hcz30_0
 try clear hcz30_1
 try clear hcz30_2
 try clear hcz30_3
 try clear hcz33_0
 try clear hcz33_1
 try clear hcz33_2
 try clear hcz33_3
 try clear hfz18_0
 try clear hfz18_1
 try clear hfz18_2
 try clear hfz18_3
 try clear hfz20_0
 try clear hfz20_1
 try clear hfz20_2
 try clear hfz20_3
 try clear hfz23_0
 try clear hfz23_1
 try clear hfz23_2
 try clear hfz23_3
 try clear hfz25_0
 try clear hfz25_1
 try clear hfz25_2
 try clear hfz25_3
 try clear hfz28_0
 try clear hfz28_1
 try clear hfz28_2
 try clear hfz28_3
 try clear hfz30_0
 try clear hfz30_1
 try clear hfz30_2
 try clear hfz30_3
 try clear hfz33_0
 try clear hfz33_1
 try clear hfz33_2
 try clear hfz33_3
 obtain ⟨kq, x44_6, rfl, HA, HJ6, BK139, BK140, HB⟩ := hcut
 cases kq with
 | zero => exact absurd HA.out (by simp [spec_BestChange.j0])
 | succ kj6 =>
  have H := HA.out
  clear HA
  simp only [spec_BestChange.j0] at H
  by_cases c35 : x44_6 = true
  ·subst c35
   rw [if_pos rfl] at H
   simp only [Option.some.injEq, Prod.mk.injEq] at H
   obtain ⟨rfl, rfl, rfl⟩ := H
   go_wp2
   go_ret3
   exact ⟨_, rtE_, by first | exact Kd.R_nil _ _ _ _ _ | exact Kd.N_nil _ _ _ _ _ | exact Kd.V_nil _ _ _ _ _ | exact Kd.Q_nil _ _ _ _ _ | exact Kd.S_nil _ _ _ _ _, below_to2 HB GE139.out GE140.out⟩
  replace c35 := Bool.eq_false_iff.mpr c35
  subst c35
  rw [if_neg ft_] at H
  have H' := Aside0.mk H
  clear H
  go_wp2
  go_loopg [47] kj6 (fun kq v47 w' => ∃ (x47_2 : Int), v47 = .int .i64 x47_2 ∧ Aside0 (spec_BestChange.l0 kq a1 a3 l4 a5 l4 (l4.length : Int) x47_2 a0_0 a0_1 a0_2 l0_3 a2_0 a2_1 a2_2 l2_3 = some (r1, r2, r3)) ∧ Aside0 (kq ≤ kj6) ∧ Aside0 (w'.heap[gb139]? = some (.cells #[.int .i64 a0_0, .int .i64 a0_1, .int .i64 a0_2, (.slice A0_3 l0_3.length c0_3)] 30 (0, 0))) ∧ Aside0 (w'.heap[gb140]? = some (.cells #[.int .i64 a2_0, .int .i64 a2_1, .int .i64 a2_2, (.slice A2_3 l2_3.length c2_3)] 30 (0, 0))) ∧ Aside0 (Below w.heap.size w w'))
  case atStart => exact ⟨(0), rt_, H', ⟨Nat.le_refl _⟩, ⟨blk_to BK139⟩, ⟨blk_to BK140⟩, ⟨below_to2 HB GE139.out GE140.out⟩⟩
  clear H'
  try clear c1
  try clear c2
  try clear p2
  try clear c3
  try clear c4
  try clear c7
  try clear c11
  try clear c13
  try clear c15
  try clear c17
  try clear c22
  try clear c27
  try clear c32
  try clear c35
  try clear hcz18_0
  try clear hcz18_1
  try clear hcz18_2
  try clear hcz18_3
  try clear hcz20_0
  try clear hcz20_1
  try clear hcz20_2
  try clear hcz20_3
  try clear hcz23_0
  try clear hcz23_1
  try clear hcz23_2
  try clear hcz23_3
  try clear hcz25_0
  try clear hcz25_1
  try clear hcz25_2
  try clear hcz25_3
  try clear hcz28_0
  try clear hcz28_1
  try clear hcz28_2
  try clear hcz28_3
  try clear hcz30_0
  try clear hcz30_1
  try clear hcz30_2
  try clear hcz30_3
  try clear hcz33_0
  try clear hcz33_1
  try clear hcz33_2
  try clear hcz33_3
  try clear hfz18_0
  try clear hfz18_1
  try clear hfz18_2
  try clear hfz18_3
  try clear hfz20_0
  try clear hfz20_1
  try clear hfz20_2
  try clear hfz20_3
  try clear hfz23_0
  try clear hfz23_1
  try clear hfz23_2
  try clear hfz23_3
  try clear hfz25_0
  try clear hfz25_1
  try clear hfz25_2
  try clear hfz25_3
  try clear hfz28_0
  try clear hfz28_1
  try clear hfz28_2
  try clear hfz28_3
  try clear hfz30_0
  try clear hfz30_1
  try clear hfz30_2
  try clear hfz30_3
  try clear hfz33_0
  try clear hfz33_1
  try clear hfz33_2
  try clear hfz33_3
  try clear p2
  obtain ⟨x47_2, rfl, HA, HK2, BK139, BK140, HB⟩ := hrel
  cases gk with
  | zero => exact absurd HA.out (by simp [spec_BestChange.l0])
  | succ k2 =>
   have H := HA.out
   clear HA
   simp only [spec_BestChange.l0] at H
   by_cases c36 : x47_2 < (l4.length : Int)
   rotate_left
   ·rw [if_neg c36] at H
    have c36b0 := decide_eq_false c36
    clear c36
    have H' := Aside0.mk H
    clear H
    go_wp2
    go_loopg [17, 18, 82] k2 (fun kq v17 v18 v82 w' => ∃ (x17_3 : List Int) (x18_3 : Int) (x82_3 : Int), v18 = .int .i64 x18_3 ∧ v82 = .int .i64 x82_3 ∧ Aside0 (spec_BestChange.l1 kq a1 a3 a5 x17_3 x18_3 l4 (l4.length : Int) x82_3 a0_0 a0_1 a0_2 l0_3 a2_0 a2_1 a2_2 l2_3 = some (r1, r2, r3)) ∧ Aside0 (kq ≤ k2) ∧ Aside0 (Kd.R (Kd.int .i64) 3 w' w.heap.size (fun _ => True) v17 x17_3) ∧ Aside0 (w'.heap[gb139]? = some (.cells #[.int .i64 a0_0, .int .i64 a0_1, .int .i64 a0_2, (.slice A0_3 l0_3.length c0_3)] 30 (0, 0))) ∧ Aside0 (w'.heap[gb140]? = some (.cells #[.int .i64 a2_0, .int .i64 a2_1, .int .i64 a2_2, (.slice A2_3 l2_3.length c2_3)] 30 (0, 0))) ∧ Aside0 (Below w.heap.size w w'))
    case atStart => exact ⟨(([] : List Int)), (0), (0), rt_, rt_, H', ⟨Nat.le_refl _⟩, ⟨by first | exact Kd.R_nil _ _ _ _ _ | exact Kd.N_nil _ _ _ _ _ | exact Kd.V_nil _ _ _ _ _ | exact Kd.Q_nil _ _ _ _ _ | exact Kd.S_nil _ _ _ _ _⟩, ⟨blk_to BK139⟩, ⟨blk_to BK140⟩, ⟨below_to2 HB GE139.out GE140.out⟩⟩
    clear H'
    try clear c1
    try clear p1
    try clear q1
    try clear hx1
    try clear qi1
    try clear c2
    try clear p2
    try clear c3
    try clear c4
    try clear c14
    try clear p14
    try clear q14
    try clear hx14
    try clear qi14
    try clear c36
    try clear c36b0
    try clear c37
    try clear c38
    try clear c39
    try clear c39b0
    try clear c39b1
    try clear c40
    try clear c42
    try clear c43
    try clear c45
    try clear hx145_0
    try clear hx146_0
    try clear p145
    try clear p146
    try clear q145
    try clear q146
    obtain ⟨x17_3, x18_3, x82_3, rfl, rfl, HA, HK3, HO_17, BK139, BK140, HB⟩ := hrel
    cases gk with
    | zero => exact absurd HA.out (by simp [spec_BestChange.l1])
    | succ k3 =>
     have H := HA.out
     clear HA
     simp only [spec_BestChange.l1] at H
     by_cases c61 : x82_3 < (l4.length : Int)
     rotate_left
     ·rw [if_neg c61] at H
      have c61b0 := decide_eq_false c61
      clear c61
      simp only [Option.some.injEq, Prod.mk.injEq] at H
      obtain ⟨rfl, rfl, rfl⟩ := H
      obtain ⟨Ao86, co86, eo86⟩ := Kd.R_slice HO_17.out
      subst eo86
      go_wp2
      go_ret3
      exact ⟨_, rtE_, kd_to HO_17, below_to2 HB GE139.out GE140.out⟩
     rw [if_pos c61] at H
     have c61b0 := decide_eq_true c61
     clear c61
     by_cases c62 : 0 ≤ x82_3
     rotate_left
     ·rw [if_neg c62] at H
      cases H
     rw [if_pos c62] at H
     have c62b0 := decide_eq_true c62
     clear c62
     by_cases c63 : x82_3 < (l4.length : Int)
     rotate_left
     ·rw [if_neg c63] at H
      cases H
     rw [if_pos c63] at H
     have c63b0 := decide_eq_true c63
     clear c63
     by_cases c64 : 0 < ((rd_L1 l4 x82_3).length : Int)
     rotate_left
     ·rw [if_neg c64] at H
      cases H
     rw [if_pos c64] at H
     have c64b0 := decide_eq_true c64
     have c64b1 : decide (0 < (rd_L1 l4 x82_3).length) = true := decide_eq_true (by omega)
     clear c64
     by_cases c65 : 1 < ((rd_L1 l4 x82_3).length : Int)
     rotate_left
     ·rw [if_neg c65] at H
      cases H
     rw [if_pos c65] at H
     have c65b0 := decide_eq_true c65
     have c65b1 : decide (1 < (rd_L1 l4 x82_3).length) = true := decide_eq_true (by omega)
     clear c65
     by_cases c66 : 2 < ((rd_L1 l4 x82_3).length : Int)
     rotate_left
     ·rw [if_neg c66] at H
      cases H
     rw [if_pos c66] at H
     have c66b0 := decide_eq_true c66
     have c66b1 : decide (2 < (rd_L1 l4 x82_3).length) = true := decide_eq_true (by omega)
     clear c66
     replace H := Option.bind_eq_some_iff.mp H
     obtain ⟨⟨t156, t157, t158⟩, A670, H⟩ := H
     (try dsimp only at H)
     have A67 := Aside0.mk A670
     clear A670
     by_cases c68 : t158 = true
     rotate_left
     ·replace c68 := Bool.eq_false_iff.mpr c68
      subst c68
      rw [if_neg ft_] at H
      have H' := Aside0.mk H
      clear H
      have p152 : 0 ≤ (x82_3 : Int) := odt_
      have q152 : x82_3 < (l4.length : Int) := odt_
      obtain ⟨ad152, A152_0, c152_0, e152, hx152_0, hl152_0, hi152_0⟩ := at_L1 HR4.out x82_3 p152 q152
      cases e152
      replace hx152_0 := bx_ HB hx152_0
      have HR152_0 := Aside0.mk hi152_0
      have HC152_0 := Aside0.mk hl152_0
      clear hi152_0 hl152_0
      replace p152 := eq_true p152
      replace q152 := eq_true q152
      try go_wp2
      have n0_ := Aside0.mk (Kd.R_drew HO_17.out)
      have n1_ := Aside0.mk (blk_drew BK139.out)
      have n2_ := Aside0.mk (blk_drew BK140.out)
      have n3_ := Aside0.mk (below_drew1 HB.out)
      clear HO_17
      clear BK139
      clear BK140
      clear HB
      have HO_17 := n0_
      have BK139 := n1_
      have BK140 := n2_
      have HB := n3_
      clear n0_ n1_ n2_ n3_
      have p153 : 0 ≤ (0 : Int) := (by omega)
      have q153 : 0 < ((rd_L1 l4 x82_3).length : Int) := odt_
      obtain ⟨ad153, e153, hx153_0⟩ := Kd.at_int HR152_0.out 0 p153 q153
      have hw153_0 := hx153_0
      (try rw [show ((0 : Int)).toNat = 0 from rfl] at hw153_0)
      (try rw [show 0 * 1 = 0 from rfl] at hw153_0)
      (try rw [Addr.add_zero'] at hw153_0)
      cases e153
      have qi153 : (0 < (rd_L1 l4 x82_3).length) = True := eq_true (by omega)
      (try rw [show ((0 : Int)).toNat = 0 from rfl] at hx153_0)
      (try rw [Addr.add_zero'] at hx153_0)
      replace hx153_0 := bx_ HB hx153_0
      replace p153 := eq_true p153
      replace q153 := eq_true q153
      have p154 : 0 ≤ (1 : Int) := (by omega)
      have q154 : 1 < ((rd_L1 l4 x82_3).length : Int) := odt_
      obtain ⟨ad154, e154, hx154_0⟩ := Kd.at_int HR152_0.out 1 p154 q154
      have hw154_0 := hx154_0
      (try rw [show ((1 : Int)).toNat = 1 from rfl] at hw154_0)
      (try rw [show 1 * 1 = 1 from rfl] at hw154_0)
      (try simp only [Nat.reduceMul, Nat.reduceEqDiff, Go.Addr.add, ↓reduceIte] at hw154_0)
      obtain rfl : ad153 = ad154 := (by injection e154)
      (try simp only [show (1 : Int).toNat = 1 from rfl, Nat.reduceMul, Nat.reduceEqDiff, Go.Addr.add, ↓reduceIte] at hx154_0)
      have qi154 : (1 < (rd_L1 l4 x82_3).length) = True := eq_true (by omega)
      (try rw [show ((1 : Int)).toNat = 1 from rfl] at hx154_0)
      replace hx154_0 := bx_ HB hx154_0
      replace p154 := eq_true p154
      replace q154 := eq_true q154
      have p155 : 0 ≤ (2 : Int) := (by omega)
      have q155 : 2 < ((rd_L1 l4 x82_3).length : Int) := odt_
      obtain ⟨ad155, e155, hx155_0⟩ := Kd.at_int HR152_0.out 2 p155 q155
      have hw155_0 := hx155_0
      (try rw [show ((2 : Int)).toNat = 2 from rfl] at hw155_0)
      (try rw [show 2 * 1 = 2 from rfl] at hw155_0)
      (try simp only [Nat.reduceMul, Nat.reduceEqDiff, Go.Addr.add, ↓reduceIte] at hw155_0)
      obtain rfl : ad153 = ad155 := (by injection e155)
      (try simp only [show (2 : Int).toNat = 2 from rfl, Nat.reduceMul, Nat.reduceEqDiff, Go.Addr.add, ↓reduceIte] at hx155_0)
      have qi155 : (2 < (rd_L1 l4 x82_3).length) = True := eq_true (by omega)
      (try rw [show ((2 : Int)).toNat = 2 from rfl] at hx155_0)
      replace hx155_0 := bx_ HB hx155_0
      replace p155 := eq_true p155
      replace q155 := eq_true q155
      refine start_ (n := 22) (S := fun w' => w'.cell? ⟨gb139, 0, none⟩ = some (.int .i64 a0_0) ∧ w'.cell? ⟨gb139, 1, none⟩ = some (.int .i64 a0_1) ∧ w'.cell? ⟨gb139, 2, none⟩ = some (.int .i64 a0_2) ∧ w'.cell? ⟨gb139, 3, none⟩ = some (.slice A0_3 l0_3.length c0_3) ∧ w'.cell? ⟨gb140, 0, none⟩ = some (.int .i64 a2_0) ∧ w'.cell? ⟨gb140, 1, none⟩ = some (.int .i64 a2_1) ∧ w'.cell? ⟨gb140, 2, none⟩ = some (.int .i64 a2_2) ∧ w'.cell? ⟨gb140, 3, none⟩ = some (.slice A2_3 l2_3.length c2_3) ∧ w'.cell? ad153 = some (.int .i64 (rd (rd_L1 l4 x82_3) 0)) ∧ w'.cell? ⟨ad153.block, ad153.off + 1, none⟩ = some (.int .i64 (rd (rd_L1 l4 x82_3) 1)) ∧ w'.cell? ⟨ad153.block, ad153.off + 2, none⟩ = some (.int .i64 (rd (rd_L1 l4 x82_3) 2))) (ds := []) (fr_ [0, 22]) (by kernel_rfl) rfl rfl ⟨(blk_cell BK139.out 0).trans rfl, (blk_cell BK139.out 1).trans rfl, (blk_cell BK139.out 2).trans rfl, (blk_cell BK139.out 3).trans rfl, (blk_cell BK140.out 0).trans rfl, (blk_cell BK140.out 1).trans rfl, (blk_cell BK140.out 2).trans rfl, (blk_cell BK140.out 3).trans rfl, ((HB.out.cell (World.block_lt_of_cell? w _ hw153_0)).trans hw153_0), ((HB.out.cell (World.block_lt_of_cell? w _ hw154_0)).trans hw154_0), ((HB.out.cell (World.block_lt_of_cell? w _ hw155_0)).trans hw155_0)⟩ (fun hHeld => ?_); refine with_tabW spec_BestChange.tab14 spec_BestChange.bits14 (fun HT_ HW_ => ?_)
      generalize wr.drew = w84 at HO_17 BK139 BK140 HB hx153_0 hx154_0 hx155_0 hHeld ⊢
      refine purS_ (i := 1) (N := some 88) (fr_ [0, 1, 1, 20]) HT_.out ?_
      refine purS_ (i := 2) (N := some 89) (fr_ [0, 1, 2, 19]) HT_.out ?_
      refine purS_ (i := 3) (N := some 90) (fr_ [0, 1, 3, 18]) HT_.out ?_
      refine purS_ (i := 6) (N := some 93) (fr_ [0, 1, 3, 2, 1, 15]) HT_.out ?_
      refine purS_ (i := 7) (N := some 94) (fr_ [0, 1, 3, 2, 2, 14]) HT_.out ?_
      refine purS_ (i := 9) (N := some 96) (fr_ [0, 1, 3, 2, 2, 1, 1, 12]) HT_.out ?_
      refine purS_ (i := 10) (N := some 97) (fr_ [0, 1, 3, 2, 2, 1, 2, 11]) HT_.out ?_
      refine purS_ (i := 11) (N := some 98) (fr_ [0, 1, 3, 2, 2, 1, 3, 10]) HT_.out ?_
      refine purS_ (i := 13) (N := some 100) (fr_ [0, 1, 3, 2, 2, 1, 3, 1, 1, 8]) HT_.out ?_
      refine take_ (i := 0) (N := some 87) (v := ?_) (a' := ?_) (fr_ [4, 2, 2, 1, 3, 1, 1, 8]) rfl rfl (take_ofW HT_.out HW_.out (by kernel_rfl)) (fun _ _ _ h => h) (Or.inl ⟨by rfl, ?_⟩) hHeld ?_ ?_
      rotate_left
      ·rintro w' ⟨s0, s1, s2, s3, s4, s5, s6, s7, s8, s9, s10⟩
       go_simp
       with_reducible rfl
      rotate_left
      ·simp only [Act.put, List.setIfInBounds_toArray, List.set_cons_zero, List.set_cons_succ, i64_w, i32_w]
       rfl
      refine take_ (i := 4) (N := some 91) (v := ?_) (a' := ?_) (fr_ [5, 1, 2, 1, 3, 1, 1, 8]) rfl rfl (take_ofW HT_.out HW_.out (by kernel_rfl)) (fun _ _ _ h => h) (Or.inl ⟨by rfl, ?_⟩) hHeld ?_ ?_
      rotate_left
      ·rintro w' ⟨s0, s1, s2, s3, s4, s5, s6, s7, s8, s9, s10⟩
       go_simp
       with_reducible rfl
      rotate_left
      ·simp only [Act.put, List.setIfInBounds_toArray, List.set_cons_zero, List.set_cons_succ, i64_w, i32_w]
       rfl
      refine take_ (i := 5) (N := some 92) (v := ?_) (a' := ?_) (fr_ [8, 1, 3, 1, 1, 8]) rfl rfl (take_ofW HT_.out HW_.out (by kernel_rfl)) (fun _ _ _ h => h) (Or.inl ⟨by rfl, ?_⟩) hHeld ?_ ?_
      rotate_left
      ·rintro w' ⟨s0, s1, s2, s3, s4, s5, s6, s7, s8, s9, s10⟩
       go_simp
       with_reducible rfl
      rotate_left
      ·simp only [Act.put, List.setIfInBounds_toArray, List.set_cons_zero, List.set_cons_succ, i64_w, i32_w]
       rfl
      refine take_ (i := 8) (N := some 95) (v := ?_) (a' := ?_) (fr_ [12, 1, 1, 8]) rfl rfl (take_ofW HT_.out HW_.out (by kernel_rfl)) (fun _ _ _ h => h) (Or.inl ⟨by rfl, ?_⟩) hHeld ?_ ?_
      rotate_left
      ·rintro w' ⟨s0, s1, s2, s3, s4, s5, s6, s7, s8, s9, s10⟩
       go_simp
       with_reducible rfl
      rotate_left
      ·simp only [Act.put, List.setIfInBounds_toArray, List.set_cons_zero, List.set_cons_succ, i64_w, i32_w]
       rfl
      refine take_ (i := 12) (N := some 99) (v := ?_) (a' := ?_) (fr_ [14, 8]) rfl rfl (take_ofW HT_.out HW_.out (by kernel_rfl)) (fun _ _ _ h => h) (Or.inl ⟨by rfl, ?_⟩) hHeld ?_ ?_
      rotate_left
      ·rintro w' ⟨s0, s1, s2, s3, s4, s5, s6, s7, s8, s9, s10⟩
       go_simp
       with_reducible rfl
      rotate_left
      ·simp only [Act.put, List.setIfInBounds_toArray, List.set_cons_zero, List.set_cons_succ, i64_w, i32_w]
       rfl
      refine one_ (i := 14) (N := some 101) (fr_ [15, 7]) rfl rfl (one_of HT_.out (by kernel_rfl)) (by decide) (fun K hK => ?_)
      refine goes_ Try.func46 (by kernel_rfl) rfl #[.agg #[.int .i64 a0_0, .int .i64 a0_1, .int .i64 a0_2, .slice A0_3 l0_3.length c0_3], .int .i64 a1, .int .i64 (rd (rd_L1 l4 x82_3) 0), .agg #[.int .i64 a2_0, .int .i64 a2_1, .int .i64 a2_2, .slice A2_3 l2_3.length c2_3], .int .i64 (rd (rd_L1 l4 x82_3) 1), .int .i64 a3, .int .i64 (rd (rd_L1 l4 x82_3) 2), .int .i64 a5] (by rfl) rfl rfl am_ ?_
      with_reducible refine (spec_buChange.calls k3 a0_0 a0_1 a0_2 _ _ l0_3 a1 (rd (rd_L1 l4 x82_3) 0) a2_0 a2_1 a2_2 _ _ l2_3 (rd (rd_L1 l4 x82_3) 1) a3 (rd (rd_L1 l4 x82_3) 2) a5 t156 t157 false _ ?side1 ?side2 ?side3 ?side4 A67.out).mono ?_
      (case side1 => exact cb_ HR0_3 HB)
      (case side2 => exact HC0_3.out)
      (case side3 => exact cb_ HR2_3 HB)
      (case side4 => exact HC2_3.out)
      rintro e w85 ⟨rfl, hb⟩
      refine ⟨_, rfl, ?_⟩
      have n0_ := Aside0.mk (Kd.R_below (kd_to HO_17) hb)
      have n1_ := Aside0.mk (blk_below (blk_to BK139) hb)
      have n2_ := Aside0.mk (blk_below (blk_to BK140) hb)
      have n3_ := Aside0.mk (below_step (below_to2 HB GE139.out GE140.out) hb)
      clear HO_17
      clear BK139
      clear BK140
      clear HB
      have HO_17 := n0_
      have BK139 := n1_
      have BK140 := n2_
      have HB := n3_
      clear n0_ n1_ n2_ n3_
      (try clear hb)
      (try clear hb2)
      (try clear hk)
      (try clear hi)
      refine hK.out _ _ ⟨(blk_cell BK139.out 0).trans rfl, (blk_cell BK139.out 1).trans rfl, (blk_cell BK139.out 2).trans rfl, (blk_cell BK139.out 3).trans rfl, (blk_cell BK140.out 0).trans rfl, (blk_cell BK140.out 1).trans rfl, (blk_cell BK140.out 2).trans rfl, (blk_cell BK140.out 3).trans rfl, ((HB.out.cell (World.block_lt_of_cell? w _ hw153_0)).trans hw153_0), ((HB.out.cell (World.block_lt_of_cell? w _ hw154_0)).trans hw154_0), ((HB.out.cell (World.block_lt_of_cell? w _ hw155_0)).trans hw155_0)⟩ (fun hHeld => ?_)
      clear hK K
      refine norm_ (a' := ?_) ?_ ?_
      rotate_left
      ·show Act.put _ (some 101) _ = _
       simp only [Act.put, List.setIfInBounds_toArray, List.set_cons_zero, List.set_cons_succ, i64_w, i32_w]
       rfl
      refine purS_ (i := 15) (N := some 86) (fl_ 22 16) HT_.out ?_
      refine purS_ (i := 16) (N := some 102) (fl_ 22 17) HT_.out ?_
      refine purS_ (i := 17) (N := some 103) (fl_ 22 18) HT_.out ?_
      refine purS_ (i := 18) (N := some 104) (fl_ 22 19) HT_.out ?_
      refine purS_ (i := 19) (N := some 21) (fl_ 22 20) HT_.out ?_
      refine purS_ (i := 20) (N := some 22) (fl_ 22 21) HT_.out ?_
      refine purS_ (i := 21) (N := some 23) (fl_ 22 22) HT_.out ?_
      refine done_ (done_of HT_.out (by kernel_rfl)) ?_
      try go_wp2
      go_roundg k3
      case measure => have := HJ6.out; have := HK2.out; have := HK3.out; omega
      case rel => exact ⟨(x17_3), (x18_3), (wrap64 (x82_3 + 1)), rt_, rt_, H', ⟨by have := HJ6.out; have := HK2.out; have := HK3.out; omega⟩, ⟨kd_to HO_17⟩, ⟨blk_to BK139⟩, ⟨blk_to BK140⟩, ⟨below_to2 HB GE139.out GE140.out⟩⟩
     subst c68
     rw [if_pos rfl] at H
     by_cases c69 : (x17_3.length : Int) = 0
     ·rw [if_pos c69] at H
      have c69b0 := beq_iff_eq.mpr c69
      have c69b1 := bne_eq_false_iff_eq.mpr c69
      clear c69
      replace H := Option.bind_eq_some_iff.mp H
      obtain ⟨t159, A700, H⟩ := H
      (try dsimp only at H)
      have A70 := Aside0.mk A700
      clear A700
      have H' := Aside0.mk H
      clear H
      have p152 : 0 ≤ (x82_3 : Int) := odt_
      have q152 : x82_3 < (l4.length : Int) := odt_
      obtain ⟨ad152, A152_0, c152_0, e152, hx152_0, hl152_0, hi152_0⟩ := at_L1 HR4.out x82_3 p152 q152
      cases e152
      replace hx152_0 := bx_ HB hx152_0
      have HR152_0 := Aside0.mk hi152_0
      have HC152_0 := Aside0.mk hl152_0
      clear hi152_0 hl152_0
      replace p152 := eq_true p152
      replace q152 := eq_true q152
      try go_wp2
      have n0_ := Aside0.mk (Kd.R_drew HO_17.out)
      have n1_ := Aside0.mk (blk_drew BK139.out)
      have n2_ := Aside0.mk (blk_drew BK140.out)
      have n3_ := Aside0.mk (below_drew1 HB.out)
      clear HO_17
      clear BK139
      clear BK140
      clear HB
      have HO_17 := n0_
      have BK139 := n1_
      have BK140 := n2_
      have HB := n3_
      clear n0_ n1_ n2_ n3_
      have p153 : 0 ≤ (0 : Int) := (by omega)
      have q153 : 0 < ((rd_L1 l4 x82_3).length : Int) := odt_
      obtain ⟨ad153, e153, hx153_0⟩ := Kd.at_int HR152_0.out 0 p153 q153
      have hw153_0 := hx153_0
      (try rw [show ((0 : Int)).toNat = 0 from rfl] at hw153_0)
      (try rw [show 0 * 1 = 0 from rfl] at hw153_0)
      (try rw [Addr.add_zero'] at hw153_0)
      cases e153
      have qi153 : (0 < (rd_L1 l4 x82_3).length) = True := eq_true (by omega)
      (try rw [show ((0 : Int)).toNat = 0 from rfl] at hx153_0)
      (try rw [Addr.add_zero'] at hx153_0)
      replace hx153_0 := bx_ HB hx153_0
      replace p153 := eq_true p153
      replace q153 := eq_true q153
      have p154 : 0 ≤ (1 : Int) := (by omega)
      have q154 : 1 < ((rd_L1 l4 x82_3).length : Int) := odt_
      obtain ⟨ad154, e154, hx154_0⟩ := Kd.at_int HR152_0.out 1 p154 q154
      have hw154_0 := hx154_0
      (try rw [show ((1 : Int)).toNat = 1 from rfl] at hw154_0)
      (try rw [show 1 * 1 = 1 from rfl] at hw154_0)
      (try simp only [Nat.reduceMul, Nat.reduceEqDiff, Go.Addr.add, ↓reduceIte] at hw154_0)
      obtain rfl : ad153 = ad154 := (by injection e154)
      (try simp only [show (1 : Int).toNat = 1 from rfl, Nat.reduceMul, Nat.reduceEqDiff, Go.Addr.add, ↓reduceIte] at hx154_0)
      have qi154 : (1 < (rd_L1 l4 x82_3).length) = True := eq_true (by omega)
      (try rw [show ((1 : Int)).toNat = 1 from rfl] at hx154_0)
      replace hx154_0 := bx_ HB hx154_0
      replace p154 := eq_true p154
      replace q154 := eq_true q154
      have p155 : 0 ≤ (2 : Int) := (by omega)
      have q155 : 2 < ((rd_L1 l4 x82_3).length : Int) := odt_
      obtain ⟨ad155, e155, hx155_0⟩ := Kd.at_int HR152_0.out 2 p155 q155
      have hw155_0 := hx155_0
      (try rw [show ((2 : Int)).toNat = 2 from rfl] at hw155_0)
      (try rw [show 2 * 1 = 2 from rfl] at hw155_0)
      (try simp only [Nat.reduceMul, Nat.reduceEqDiff, Go.Addr.add, ↓reduceIte] at hw155_0)
      obtain rfl : ad153 = ad155 := (by injection e155)
      (try simp only [show (2 : Int).toNat = 2 from rfl, Nat.reduceMul, Nat.reduceEqDiff, Go.Addr.add, ↓reduceIte] at hx155_0)
      have qi155 : (2 < (rd_L1 l4 x82_3).length) = True := eq_true (by omega)
      (try rw [show ((2 : Int)).toNat = 2 from rfl] at hx155_0)
      replace hx155_0 := bx_ HB hx155_0
      replace p155 := eq_true p155
      replace q155 := eq_true q155
      refine start_ (n := 22) (S := fun w' => w'.cell? ⟨gb139, 0, none⟩ = some (.int .i64 a0_0) ∧ w'.cell? ⟨gb139, 1, none⟩ = some (.int .i64 a0_1) ∧ w'.cell? ⟨gb139, 2, none⟩ = some (.int .i64 a0_2) ∧ w'.cell? ⟨gb139, 3, none⟩ = some (.slice A0_3 l0_3.length c0_3) ∧ w'.cell? ⟨gb140, 0, none⟩ = some (.int .i64 a2_0) ∧ w'.cell? ⟨gb140, 1, none⟩ = some (.int .i64 a2_1) ∧ w'.cell? ⟨gb140, 2, none⟩ = some (.int .i64 a2_2) ∧ w'.cell? ⟨gb140, 3, none⟩ = some (.slice A2_3 l2_3.length c2_3) ∧ w'.cell? ad153 = some (.int .i64 (rd (rd_L1 l4 x82_3) 0)) ∧ w'.cell? ⟨ad153.block, ad153.off + 1, none⟩ = some (.int .i64 (rd (rd_L1 l4 x82_3) 1)) ∧ w'.cell? ⟨ad153.block, ad153.off + 2, none⟩ = some (.int .i64 (rd (rd_L1 l4 x82_3) 2))) (ds := []) (fr_ [0, 22]) (by kernel_rfl) rfl rfl ⟨(blk_cell BK139.out 0).trans rfl, (blk_cell BK139.out 1).trans rfl, (blk_cell BK139.out 2).trans rfl, (blk_cell BK139.out 3).trans rfl, (blk_cell BK140.out 0).trans rfl, (blk_cell BK140.out 1).trans rfl, (blk_cell BK140.out 2).trans rfl, (blk_cell BK140.out 3).trans rfl, ((HB.out.cell (World.block_lt_of_cell? w _ hw153_0)).trans hw153_0), ((HB.out.cell (World.block_lt_of_cell? w _ hw154_0)).trans hw154_0), ((HB.out.cell (World.block_lt_of_cell? w _ hw155_0)).trans hw155_0)⟩ (fun hHeld => ?_); refine with_tabW spec_BestChange.tab14 spec_BestChange.bits14 (fun HT_ HW_ => ?_)
      generalize wr.drew = w71 at HO_17 BK139 BK140 HB hx153_0 hx154_0 hx155_0 hHeld ⊢
      refine purS_ (i := 1) (N := some 88) (fr_ [0, 1, 1, 20]) HT_.out ?_
      refine purS_ (i := 2) (N := some 89) (fr_ [0, 1, 2, 19]) HT_.out ?_
      refine purS_ (i := 3) (N := some 90) (fr_ [0, 1, 3, 18]) HT_.out ?_
      refine purS_ (i := 6) (N := some 93) (fr_ [0, 1, 3, 2, 1, 15]) HT_.out ?_
      refine purS_ (i := 7) (N := some 94) (fr_ [0, 1, 3, 2, 2, 14]) HT_.out ?_
      refine purS_ (i := 9) (N := some 96) (fr_ [0, 1, 3, 2, 2, 1, 1, 12]) HT_.out ?_
      refine purS_ (i := 10) (N := some 97) (fr_ [0, 1, 3, 2, 2, 1, 2, 11]) HT_.out ?_
      refine purS_ (i := 11) (N := some 98) (fr_ [0, 1, 3, 2, 2, 1, 3, 10]) HT_.out ?_
      refine purS_ (i := 13) (N := some 100) (fr_ [0, 1, 3, 2, 2, 1, 3, 1, 1, 8]) HT_.out ?_
      refine take_ (i := 0) (N := some 87) (v := ?_) (a' := ?_) (fr_ [4, 2, 2, 1, 3, 1, 1, 8]) rfl rfl (take_ofW HT_.out HW_.out (by kernel_rfl)) (fun _ _ _ h => h) (Or.inl ⟨by rfl, ?_⟩) hHeld ?_ ?_
      rotate_left
      ·rintro w' ⟨s0, s1, s2, s3, s4, s5, s6, s7, s8, s9, s10⟩
       go_simp
       with_reducible rfl
      rotate_left
      ·simp only [Act.put, List.setIfInBounds_toArray, List.set_cons_zero, List.set_cons_succ, i64_w, i32_w]
       rfl
      refine take_ (i := 4) (N := some 91) (v := ?_) (a' := ?_) (fr_ [5, 1, 2, 1, 3, 1, 1, 8]) rfl rfl (take_ofW HT_.out HW_.out (by kernel_rfl)) (fun _ _ _ h => h) (Or.inl ⟨by rfl, ?_⟩) hHeld ?_ ?_
      rotate_left
      ·rintro w' ⟨s0, s1, s2, s3, s4, s5, s6, s7, s8, s9, s10⟩
       go_simp
       with_reducible rfl
      rotate_left
      ·simp only [Act.put, List.setIfInBounds_toArray, List.set_cons_zero, List.set_cons_succ, i64_w, i32_w]
       rfl
      refine take_ (i := 5) (N := some 92) (v := ?_) (a' := ?_) (fr_ [8, 1, 3, 1, 1, 8]) rfl rfl (take_ofW HT_.out HW_.out (by kernel_rfl)) (fun _ _ _ h => h) (Or.inl ⟨by rfl, ?_⟩) hHeld ?_ ?_
      rotate_left
      ·rintro w' ⟨s0, s1, s2, s3, s4, s5, s6, s7, s8, s9, s10⟩
       go_simp
       with_reducible rfl
      rotate_left
      ·simp only [Act.put, List.setIfInBounds_toArray, List.set_cons_zero, List.set_cons_succ, i64_w, i32_w]
       rfl
      refine take_ (i := 8) (N := some 95) (v := ?_) (a' := ?_) (fr_ [12, 1, 1, 8]) rfl rfl (take_ofW HT_.out HW_.out (by kernel_rfl)) (fun _ _ _ h => h) (Or.inl ⟨by rfl, ?_⟩) hHeld ?_ ?_
      rotate_left
      ·rintro w' ⟨s0, s1, s2, s3, s4, s5, s6, s7, s8, s9, s10⟩
       go_simp
       with_reducible rfl
      rotate_left
      ·simp only [Act.put, List.setIfInBounds_toArray, List.set_cons_zero, List.set_cons_succ, i64_w, i32_w]
       rfl
      refine take_ (i := 12) (N := some 99) (v := ?_) (a' := ?_) (fr_ [14, 8]) rfl rfl (take_ofW HT_.out HW_.out (by kernel_rfl)) (fun _ _ _ h => h) (Or.inl ⟨by rfl, ?_⟩) hHeld ?_ ?_
      rotate_left
      ·rintro w' ⟨s0, s1, s2, s3, s4, s5, s6, s7, s8, s9, s10⟩
       go_simp
       with_reducible rfl
      rotate_left
      ·simp only [Act.put, List.setIfInBounds_toArray, List.set_cons_zero, List.set_cons_succ, i64_w, i32_w]
       rfl
      refine one_ (i := 14) (N := some 101) (fr_ [15, 7]) rfl rfl (one_of HT_.out (by kernel_rfl)) (by decide) (fun K hK => ?_)
      refine goes_ Try.func46 (by kernel_rfl) rfl #[.agg #[.int .i64 a0_0, .int .i64 a0_1, .int .i64 a0_2, .slice A0_3 l0_3.length c0_3], .int .i64 a1, .int .i64 (rd (rd_L1 l4 x82_3) 0), .agg #[.int .i64 a2_0, .int .i64 a2_1, .int .i64 a2_2, .slice A2_3 l2_3.length c2_3], .int .i64 (rd (rd_L1 l4 x82_3) 1), .int .i64 a3, .int .i64 (rd (rd_L1 l4 x82_3) 2), .int .i64 a5] (by rfl) rfl rfl am_ ?_
      with_reducible refine (spec_buChange.calls k3 a0_0 a0_1 a0_2 _ _ l0_3 a1 (rd (rd_L1 l4 x82_3) 0) a2_0 a2_1 a2_2 _ _ l2_3 (rd (rd_L1 l4 x82_3) 1) a3 (rd (rd_L1 l4 x82_3) 2) a5 t156 t157 true _ ?side1 ?side2 ?side3 ?side4 A67.out).mono ?_
      (case side1 => exact cb_ HR0_3 HB)
      (case side2 => exact HC0_3.out)
      (case side3 => exact cb_ HR2_3 HB)
      (case side4 => exact HC2_3.out)
      rintro e w72 ⟨rfl, hb⟩
      refine ⟨_, rfl, ?_⟩
      have n0_ := Aside0.mk (Kd.R_below (kd_to HO_17) hb)
      have n1_ := Aside0.mk (blk_below (blk_to BK139) hb)
      have n2_ := Aside0.mk (blk_below (blk_to BK140) hb)
      have n3_ := Aside0.mk (below_step (below_to2 HB GE139.out GE140.out) hb)
      clear HO_17
      clear BK139
      clear BK140
      clear HB
      have HO_17 := n0_
      have BK139 := n1_
      have BK140 := n2_
      have HB := n3_
      clear n0_ n1_ n2_ n3_
      (try clear hb)
      (try clear hb2)
      (try clear hk)
      (try clear hi)
      refine hK.out _ _ ⟨(blk_cell BK139.out 0).trans rfl, (blk_cell BK139.out 1).trans rfl, (blk_cell BK139.out 2).trans rfl, (blk_cell BK139.out 3).trans rfl, (blk_cell BK140.out 0).trans rfl, (blk_cell BK140.out 1).trans rfl, (blk_cell BK140.out 2).trans rfl, (blk_cell BK140.out 3).trans rfl, ((HB.out.cell (World.block_lt_of_cell? w _ hw153_0)).trans hw153_0), ((HB.out.cell (World.block_lt_of_cell? w _ hw154_0)).trans hw154_0), ((HB.out.cell (World.block_lt_of_cell? w _ hw155_0)).trans hw155_0)⟩ (fun hHeld => ?_)
      clear hK K
      refine norm_ (a' := ?_) ?_ ?_
      rotate_left
      ·show Act.put _ (some 101) _ = _
       simp only [Act.put, List.setIfInBounds_toArray, List.set_cons_zero, List.set_cons_succ, i64_w, i32_w]
       rfl
      refine purS_ (i := 15) (N := some 86) (fl_ 22 16) HT_.out ?_
      refine purS_ (i := 16) (N := some 102) (fl_ 22 17) HT_.out ?_
      refine purS_ (i := 17) (N := some 103) (fl_ 22 18) HT_.out ?_
      refine purS_ (i := 18) (N := some 104) (fl_ 22 19) HT_.out ?_
      refine purS_ (i := 19) (N := some 21) (fl_ 22 20) HT_.out ?_
      refine purS_ (i := 20) (N := some 22) (fl_ 22 21) HT_.out ?_
      refine purS_ (i := 21) (N := some 23) (fl_ 22 22) HT_.out ?_
      refine done_ (done_of HT_.out (by kernel_rfl)) ?_
      obtain ⟨Ao73, co73, eo73⟩ := Kd.R_slice HO_17.out
      subst eo73
      try go_wp2_with (first | ((with_reducible refine gate_callee (f := 47) rfl ?_); refine goesL_ (some 117) rfl rfl Try.func47 (by kernel_rfl) rfl #[.slice (some ad153) (rd_L1 l4 x82_3).length c152_0] rfl am_ ?_; (with_reducible refine (spec_l1Own.calls _ _ (rd_L1 l4 x82_3) t159 _ ?side1 ?side2 A70.out).mono ?_); (case side1 => exact cb_ HR152_0 HB); (case side2 => exact HC152_0.out); rintro e w74 ⟨v160, rfl, ho0, hb⟩; refine ⟨_, rfl, ?_⟩; have n0_ := Aside0.mk (Kd.R_elder' (kd_to HO_17) (Kd.R_base ho0) hb); have n1_ := Aside0.mk (Kd.R_lower (Kd.R_new' ho0 (Kd.R_lt (kd_to HO_17))) (below_size (below_to2 HB GE139.out GE140.out))); have n2_ := Aside0.mk (blk_below (blk_to BK139) hb); have n3_ := Aside0.mk (blk_below (blk_to BK140) hb); have n4_ := Aside0.mk (below_step (below_to2 HB GE139.out GE140.out) hb); clear HO_17; clear BK139; clear BK140; clear HB; have HO_17 := n0_; have HO161 := n1_; have BK139 := n2_; have BK140 := n3_; have HB := n4_; clear n0_ n1_ n2_ n3_ n4_; clear hb; (try clear ho0)))
      go_roundg k3
      case measure => have := HJ6.out; have := HK2.out; have := HK3.out; omega
      case rel => exact ⟨(t159), (t157), (wrap64 (x82_3 + 1)), rt_, rt_, H', ⟨by have := HJ6.out; have := HK2.out; have := HK3.out; omega⟩, ⟨by (with_reducible repeat (first | apply Kd.R_alloc | apply Kd.R_drewN | apply Kd.R_drew)); exact Kd.R_mono HO161.out (fun _ hk => trivial)⟩, ⟨blk_to BK139⟩, ⟨blk_to BK140⟩, ⟨below_to2 HB GE139.out GE140.out⟩⟩
     rw [if_neg c69] at H
     have c69b0 := beq_eq_false_iff_ne.mpr c69
     have c69b1 := bne_iff_ne.mpr c69
     have c69b2 : ¬ (x17_3 = []) := fun h_ => c69 (by rw [h_]; rfl)
     by_cases c75 : t157 < x18_3
     rotate_left
     ·rw [if_neg c75] at H
      have c75b0 := decide_eq_false c75
      clear c75
      have H' := Aside0.mk H
      clear H
      have p152 : 0 ≤ (x82_3 : Int) := odt_
      have q152 : x82_3 < (l4.length : Int) := odt_
      obtain ⟨ad152, A152_0, c152_0, e152, hx152_0, hl152_0, hi152_0⟩ := at_L1 HR4.out x82_3 p152 q152
      cases e152
      replace hx152_0 := bx_ HB hx152_0
      have HR152_0 := Aside0.mk hi152_0
      have HC152_0 := Aside0.mk hl152_0
      clear hi152_0 hl152_0
      replace p152 := eq_true p152
      replace q152 := eq_true q152
      try go_wp2
      have n0_ := Aside0.mk (Kd.R_drew HO_17.out)
      have n1_ := Aside0.mk (blk_drew BK139.out)
      have n2_ := Aside0.mk (blk_drew BK140.out)
      have n3_ := Aside0.mk (below_drew1 HB.out)
      clear HO_17
      clear BK139
      clear BK140
      clear HB
      have HO_17 := n0_
      have BK139 := n1_
      have BK140 := n2_
      have HB := n3_
      clear n0_ n1_ n2_ n3_
      have p153 : 0 ≤ (0 : Int) := (by omega)
      have q153 : 0 < ((rd_L1 l4 x82_3).length : Int) := odt_
      obtain ⟨ad153, e153, hx153_0⟩ := Kd.at_int HR152_0.out 0 p153 q153
      have hw153_0 := hx153_0
      (try rw [show ((0 : Int)).toNat = 0 from rfl] at hw153_0)
      (try rw [show 0 * 1 = 0 from rfl] at hw153_0)
      (try rw [Addr.add_zero'] at hw153_0)
      cases e153
      have qi153 : (0 < (rd_L1 l4 x82_3).length) = True := eq_true (by omega)
      (try rw [show ((0 : Int)).toNat = 0 from rfl] at hx153_0)
      (try rw [Addr.add_zero'] at hx153_0)
      replace hx153_0 := bx_ HB hx153_0
      replace p153 := eq_true p153
      replace q153 := eq_true q153
      have p154 : 0 ≤ (1 : Int) := (by omega)
      have q154 : 1 < ((rd_L1 l4 x82_3).length : Int) := odt_
      obtain ⟨ad154, e154, hx154_0⟩ := Kd.at_int HR152_0.out 1 p154 q154
      have hw154_0 := hx154_0
      (try rw [show ((1 : Int)).toNat = 1 from rfl] at hw154_0)
      (try rw [show 1 * 1 = 1 from rfl] at hw154_0)
      (try simp only [Nat.reduceMul, Nat.reduceEqDiff, Go.Addr.add, ↓reduceIte] at hw154_0)
      obtain rfl : ad153 = ad154 := (by injection e154)
      (try simp only [show (1 : Int).toNat = 1 from rfl, Nat.reduceMul, Nat.reduceEqDiff, Go.Addr.add, ↓reduceIte] at hx154_0)
      have qi154 : (1 < (rd_L1 l4 x82_3).length) = True := eq_true (by omega)
      (try rw [show ((1 : Int)).toNat = 1 from rfl] at hx154_0)
      replace hx154_0 := bx_ HB hx154_0
      replace p154 := eq_true p154
      replace q154 := eq_true q154
      have p155 : 0 ≤ (2 : Int) := (by omega)
      have q155 : 2 < ((rd_L1 l4 x82_3).length : Int) := odt_
      obtain ⟨ad155, e155, hx155_0⟩ := Kd.at_int HR152_0.out 2 p155 q155
      have hw155_0 := hx155_0
      (try rw [show ((2 : Int)).toNat = 2 from rfl] at hw155_0)
      (try rw [show 2 * 1 = 2 from rfl] at hw155_0)
      (try simp only [Nat.reduceMul, Nat.reduceEqDiff, Go.Addr.add, ↓reduceIte] at hw155_0)
      obtain rfl : ad153 = ad155 := (by injection e155)
      (try simp only [show (2 : Int).toNat = 2 from rfl, Nat.reduceMul, Nat.reduceEqDiff, Go.Addr.add, ↓reduceIte] at hx155_0)
      have qi155 : (2 < (rd_L1 l4 x82_3).length) = True := eq_true (by omega)
      (try rw [show ((2 : Int)).toNat = 2 from rfl] at hx155_0)
      replace hx155_0 := bx_ HB hx155_0
      replace p155 := eq_true p155
      replace q155 := eq_true q155
      refine start_ (n := 22) (S := fun w' => w'.cell? ⟨gb139, 0, none⟩ = some (.int .i64 a0_0) ∧ w'.cell? ⟨gb139, 1, none⟩ = some (.int .i64 a0_1) ∧ w'.cell? ⟨gb139, 2, none⟩ = some (.int .i64 a0_2) ∧ w'.cell? ⟨gb139, 3, none⟩ = some (.slice A0_3 l0_3.length c0_3) ∧ w'.cell? ⟨gb140, 0, none⟩ = some (.int .i64 a2_0) ∧ w'.cell? ⟨gb140, 1, none⟩ = some (.int .i64 a2_1) ∧ w'.cell? ⟨gb140, 2, none⟩ = some (.int .i64 a2_2) ∧ w'.cell? ⟨gb140, 3, none⟩ = some (.slice A2_3 l2_3.length c2_3) ∧ w'.cell? ad153 = some (.int .i64 (rd (rd_L1 l4 x82_3) 0)) ∧ w'.cell? ⟨ad153.block, ad153.off + 1, none⟩ = some (.int .i64 (rd (rd_L1 l4 x82_3) 1)) ∧ w'.cell? ⟨ad153.block, ad153.off + 2, none⟩ = some (.int .i64 (rd (rd_L1 l4 x82_3) 2))) (ds := []) (fr_ [0, 22]) (by kernel_rfl) rfl rfl ⟨(blk_cell BK139.out 0).trans rfl, (blk_cell BK139.out 1).trans rfl, (blk_cell BK139.out 2).trans rfl, (blk_cell BK139.out 3).trans rfl, (blk_cell BK140.out 0).trans rfl, (blk_cell BK140.out 1).trans rfl, (blk_cell BK140.out 2).trans rfl, (blk_cell BK140.out 3).trans rfl, ((HB.out.cell (World.block_lt_of_cell? w _ hw153_0)).trans hw153_0), ((HB.out.cell (World.block_lt_of_cell? w _ hw154_0)).trans hw154_0), ((HB.out.cell (World.block_lt_of_cell? w _ hw155_0)).trans hw155_0)⟩ (fun hHeld => ?_); refine with_tabW spec_BestChange.tab14 spec_BestChange.bits14 (fun HT_ HW_ => ?_)
      generalize wr.drew = w81 at HO_17 BK139 BK140 HB hx153_0 hx154_0 hx155_0 hHeld ⊢
      refine purS_ (i := 1) (N := some 88) (fr_ [0, 1, 1, 20]) HT_.out ?_
      refine purS_ (i := 2) (N := some 89) (fr_ [0, 1, 2, 19]) HT_.out ?_
      refine purS_ (i := 3) (N := some 90) (fr_ [0, 1, 3, 18]) HT_.out ?_
      refine purS_ (i := 6) (N := some 93) (fr_ [0, 1, 3, 2, 1, 15]) HT_.out ?_
      refine purS_ (i := 7) (N := some 94) (fr_ [0, 1, 3, 2, 2, 14]) HT_.out ?_
      refine purS_ (i := 9) (N := some 96) (fr_ [0, 1, 3, 2, 2, 1, 1, 12]) HT_.out ?_
      refine purS_ (i := 10) (N := some 97) (fr_ [0, 1, 3, 2, 2, 1, 2, 11]) HT_.out ?_
      refine purS_ (i := 11) (N := some 98) (fr_ [0, 1, 3, 2, 2, 1, 3, 10]) HT_.out ?_
      refine purS_ (i := 13) (N := some 100) (fr_ [0, 1, 3, 2, 2, 1, 3, 1, 1, 8]) HT_.out ?_
      refine take_ (i := 0) (N := some 87) (v := ?_) (a' := ?_) (fr_ [4, 2, 2, 1, 3, 1, 1, 8]) rfl rfl (take_ofW HT_.out HW_.out (by kernel_rfl)) (fun _ _ _ h => h) (Or.inl ⟨by rfl, ?_⟩) hHeld ?_ ?_
      rotate_left
      ·rintro w' ⟨s0, s1, s2, s3, s4, s5, s6, s7, s8, s9, s10⟩
       go_simp
       with_reducible rfl
      rotate_left
      ·simp only [Act.put, List.setIfInBounds_toArray, List.set_cons_zero, List.set_cons_succ, i64_w, i32_w]
       rfl
      refine take_ (i := 4) (N := some 91) (v := ?_) (a' := ?_) (fr_ [5, 1, 2, 1, 3, 1, 1, 8]) rfl rfl (take_ofW HT_.out HW_.out (by kernel_rfl)) (fun _ _ _ h => h) (Or.inl ⟨by rfl, ?_⟩) hHeld ?_ ?_
      rotate_left
      ·rintro w' ⟨s0, s1, s2, s3, s4, s5, s6, s7, s8, s9, s10⟩
       go_simp
       with_reducible rfl
      rotate_left
      ·simp only [Act.put, List.setIfInBounds_toArray, List.set_cons_zero, List.set_cons_succ, i64_w, i32_w]
       rfl
      refine take_ (i := 5) (N := some 92) (v := ?_) (a' := ?_) (fr_ [8, 1, 3, 1, 1, 8]) rfl rfl (take_ofW HT_.out HW_.out (by kernel_rfl)) (fun _ _ _ h => h) (Or.inl ⟨by rfl, ?_⟩) hHeld ?_ ?_
      rotate_left
      ·rintro w' ⟨s0, s1, s2, s3, s4, s5, s6, s7, s8, s9, s10⟩
       go_simp
       with_reducible rfl
      rotate_left
      ·simp only [Act.put, List.setIfInBounds_toArray, List.set_cons_zero, List.set_cons_succ, i64_w, i32_w]
       rfl
      refine take_ (i := 8) (N := some 95) (v := ?_) (a' := ?_) (fr_ [12, 1, 1, 8]) rfl rfl (take_ofW HT_.out HW_.out (by kernel_rfl)) (fun _ _ _ h => h) (Or.inl ⟨by rfl, ?_⟩) hHeld ?_ ?_
      rotate_left
      ·rintro w' ⟨s0, s1, s2, s3, s4, s5, s6, s7, s8, s9, s10⟩
       go_simp
       with_reducible rfl
      rotate_left
      ·simp only [Act.put, List.setIfInBounds_toArray, List.set_cons_zero, List.set_cons_succ, i64_w, i32_w]
       rfl
      refine take_ (i := 12) (N := some 99) (v := ?_) (a' := ?_) (fr_ [14, 8]) rfl rfl (take_ofW HT_.out HW_.out (by kernel_rfl)) (fun _ _ _ h => h) (Or.inl ⟨by rfl, ?_⟩) hHeld ?_ ?_
      rotate_left
      ·rintro w' ⟨s0, s1, s2, s3, s4, s5, s6, s7, s8, s9, s10⟩
       go_simp
       with_reducible rfl
      rotate_left
      ·simp only [Act.put, List.setIfInBounds_toArray, List.set_cons_zero, List.set_cons_succ, i64_w, i32_w]
       rfl
      refine one_ (i := 14) (N := some 101) (fr_ [15, 7]) rfl rfl (one_of HT_.out (by kernel_rfl)) (by decide) (fun K hK => ?_)
      refine goes_ Try.func46 (by kernel_rfl) rfl #[.agg #[.int .i64 a0_0, .int .i64 a0_1, .int .i64 a0_2, .slice A0_3 l0_3.length c0_3], .int .i64 a1, .int .i64 (rd (rd_L1 l4 x82_3) 0), .agg #[.int .i64 a2_0, .int .i64 a2_1, .int .i64 a2_2, .slice A2_3 l2_3.length c2_3], .int .i64 (rd (rd_L1 l4 x82_3) 1), .int .i64 a3, .int .i64 (rd (rd_L1 l4 x82_3) 2), .int .i64 a5] (by rfl) rfl rfl am_ ?_
      with_reducible refine (spec_buChange.calls k3 a0_0 a0_1 a0_2 _ _ l0_3 a1 (rd (rd_L1 l4 x82_3) 0) a2_0 a2_1 a2_2 _ _ l2_3 (rd (rd_L1 l4 x82_3) 1) a3 (rd (rd_L1 l4 x82_3) 2) a5 t156 t157 true _ ?side1 ?side2 ?side3 ?side4 A67.out).mono ?_
      (case side1 => exact cb_ HR0_3 HB)
      (case side2 => exact HC0_3.out)
      (case side3 => exact cb_ HR2_3 HB)
      (case side4 => exact HC2_3.out)
      rintro e w82 ⟨rfl, hb⟩
      refine ⟨_, rfl, ?_⟩
      have n0_ := Aside0.mk (Kd.R_below (kd_to HO_17) hb)
      have n1_ := Aside0.mk (blk_below (blk_to BK139) hb)
      have n2_ := Aside0.mk (blk_below (blk_to BK140) hb)
      have n3_ := Aside0.mk (below_step (below_to2 HB GE139.out GE140.out) hb)
      clear HO_17
      clear BK139
      clear BK140
      clear HB
      have HO_17 := n0_
      have BK139 := n1_
      have BK140 := n2_
      have HB := n3_
      clear n0_ n1_ n2_ n3_
      (try clear hb)
      (try clear hb2)
      (try clear hk)
      (try clear hi)
      refine hK.out _ _ ⟨(blk_cell BK139.out 0).trans rfl, (blk_cell BK139.out 1).trans rfl, (blk_cell BK139.out 2).trans rfl, (blk_cell BK139.out 3).trans rfl, (blk_cell BK140.out 0).trans rfl, (blk_cell BK140.out 1).trans rfl, (blk_cell BK140.out 2).trans rfl, (blk_cell BK140.out 3).trans rfl, ((HB.out.cell (World.block_lt_of_cell? w _ hw153_0)).trans hw153_0), ((HB.out.cell (World.block_lt_of_cell? w _ hw154_0)).trans hw154_0), ((HB.out.cell (World.block_lt_of_cell? w _ hw155_0)).trans hw155_0)⟩ (fun hHeld => ?_)
      clear hK K
      refine norm_ (a' := ?_) ?_ ?_
      rotate_left
      ·show Act.put _ (some 101) _ = _
       simp only [Act.put, List.setIfInBounds_toArray, List.set_cons_zero, List.set_cons_succ, i64_w, i32_w]
       rfl
      refine purS_ (i := 15) (N := some 86) (fl_ 22 16) HT_.out ?_
      refine purS_ (i := 16) (N := some 102) (fl_ 22 17) HT_.out ?_
      refine purS_ (i := 17) (N := some 103) (fl_ 22 18) HT_.out ?_
      refine purS_ (i := 18) (N := some 104) (fl_ 22 19) HT_.out ?_
      refine purS_ (i := 19) (N := some 21) (fl_ 22 20) HT_.out ?_
      refine purS_ (i := 20) (N := some 22) (fl_ 22 21) HT_.out ?_
      refine purS_ (i := 21) (N := some 23) (fl_ 22 22) HT_.out ?_
      refine done_ (done_of HT_.out (by kernel_rfl)) ?_
      obtain ⟨Ao83, co83, eo83⟩ := Kd.R_slice HO_17.out
      subst eo83
      try go_wp2
      go_roundg k3
      case measure => have := HJ6.out; have := HK2.out; have := HK3.out; omega
      case rel => exact ⟨(x17_3), (x18_3), (wrap64 (x82_3 + 1)), rt_, rt_, H', ⟨by have := HJ6.out; have := HK2.out; have := HK3.out; omega⟩, ⟨kd_to HO_17⟩, ⟨blk_to BK139⟩, ⟨blk_to BK140⟩, ⟨below_to2 HB GE139.out GE140.out⟩⟩
     rw [if_pos c75] at H
     have c75b0 := decide_eq_true c75
     clear c75
     replace H := Option.bind_eq_some_iff.mp H
     obtain ⟨t162, A760, H⟩ := H
     (try dsimp only at H)
     have A76 := Aside0.mk A760
     clear A760
     have H' := Aside0.mk H
     clear H
     have p152 : 0 ≤ (x82_3 : Int) := odt_
     have q152 : x82_3 < (l4.length : Int) := odt_
     obtain ⟨ad152, A152_0, c152_0, e152, hx152_0, hl152_0, hi152_0⟩ := at_L1 HR4.out x82_3 p152 q152
     cases e152
     replace hx152_0 := bx_ HB hx152_0
     have HR152_0 := Aside0.mk hi152_0
     have HC152_0 := Aside0.mk hl152_0
     clear hi152_0 hl152_0
     replace p152 := eq_true p152
     replace q152 := eq_true q152
     try go_wp2
     have n0_ := Aside0.mk (Kd.R_drew HO_17.out)
     have n1_ := Aside0.mk (blk_drew BK139.out)
     have n2_ := Aside0.mk (blk_drew BK140.out)
     have n3_ := Aside0.mk (below_drew1 HB.out)
     clear HO_17
     clear BK139
     clear BK140
     clear HB
     have HO_17 := n0_
     have BK139 := n1_
     have BK140 := n2_
     have HB := n3_
     clear n0_ n1_ n2_ n3_
     have p153 : 0 ≤ (0 : Int) := (by omega)
     have q153 : 0 < ((rd_L1 l4 x82_3).length : Int) := odt_
     obtain ⟨ad153, e153, hx153_0⟩ := Kd.at_int HR152_0.out 0 p153 q153
     have hw153_0 := hx153_0
     (try rw [show ((0 : Int)).toNat = 0 from rfl] at hw153_0)
     (try rw [show 0 * 1 = 0 from rfl] at hw153_0)
     (try rw [Addr.add_zero'] at hw153_0)
     cases e153
     have qi153 : (0 < (rd_L1 l4 x82_3).length) = True := eq_true (by omega)
     (try rw [show ((0 : Int)).toNat = 0 from rfl] at hx153_0)
     (try rw [Addr.add_zero'] at hx153_0)
     replace hx153_0 := bx_ HB hx153_0
     replace p153 := eq_true p153
     replace q153 := eq_true q153
     have p154 : 0 ≤ (1 : Int) := (by omega)
     have q154 : 1 < ((rd_L1 l4 x82_3).length : Int) := odt_
     obtain ⟨ad154, e154, hx154_0⟩ := Kd.at_int HR152_0.out 1 p154 q154
     have hw154_0 := hx154_0
     (try rw [show ((1 : Int)).toNat = 1 from rfl] at hw154_0)
     (try rw [show 1 * 1 = 1 from rfl] at hw154_0)
     (try simp only [Nat.reduceMul, Nat.reduceEqDiff, Go.Addr.add, ↓reduceIte] at hw154_0)
     obtain rfl : ad153 = ad154 := (by injection e154)
     (try simp only [show (1 : Int).toNat = 1 from rfl, Nat.reduceMul, Nat.reduceEqDiff, Go.Addr.add, ↓reduceIte] at hx154_0)
     have qi154 : (1 < (rd_L1 l4 x82_3).length) = True := eq_true (by omega)
     (try rw [show ((1 : Int)).toNat = 1 from rfl] at hx154_0)
     replace hx154_0 := bx_ HB hx154_0
     replace p154 := eq_true p154
     replace q154 := eq_true q154
     have p155 : 0 ≤ (2 : Int) := (by omega)
     have q155 : 2 < ((rd_L1 l4 x82_3).length : Int) := odt_
     obtain ⟨ad155, e155, hx155_0⟩ := Kd.at_int HR152_0.out 2 p155 q155
     have hw155_0 := hx155_0
     (try rw [show ((2 : Int)).toNat = 2 from rfl] at hw155_0)
     (try rw [show 2 * 1 = 2 from rfl] at hw155_0)
     (try simp only [Nat.reduceMul, Nat.reduceEqDiff, Go.Addr.add, ↓reduceIte] at hw155_0)
     obtain rfl : ad153 = ad155 := (by injection e155)
     (try simp only [show (2 : Int).toNat = 2 from rfl, Nat.reduceMul, Nat.reduceEqDiff, Go.Addr.add, ↓reduceIte] at hx155_0)
     have qi155 : (2 < (rd_L1 l4 x82_3).length) = True := eq_true (by omega)
     (try rw [show ((2 : Int)).toNat = 2 from rfl] at hx155_0)
     replace hx155_0 := bx_ HB hx155_0
     replace p155 := eq_true p155
     replace q155 := eq_true q155
     refine start_ (n := 22) (S := fun w' => w'.cell? ⟨gb139, 0, none⟩ = some (.int .i64 a0_0) ∧ w'.cell? ⟨gb139, 1, none⟩ = some (.int .i64 a0_1) ∧ w'.cell? ⟨gb139, 2, none⟩ = some (.int .i64 a0_2) ∧ w'.cell? ⟨gb139, 3, none⟩ = some (.slice A0_3 l0_3.length c0_3) ∧ w'.cell? ⟨gb140, 0, none⟩ = some (.int .i64 a2_0) ∧ w'.cell? ⟨gb140, 1, none⟩ = some (.int .i64 a2_1) ∧ w'.cell? ⟨gb140, 2, none⟩ = some (.int .i64 a2_2) ∧ w'.cell? ⟨gb140, 3, none⟩ = some (.slice A2_3 l2_3.length c2_3) ∧ w'.cell? ad153 = some (.int .i64 (rd (rd_L1 l4 x82_3) 0)) ∧ w'.cell? ⟨ad153.block, ad153.off + 1, none⟩ = some (.int .i64 (rd (rd_L1 l4 x82_3) 1)) ∧ w'.cell? ⟨ad153.block, ad153.off + 2, none⟩ = some (.int .i64 (rd (rd_L1 l4 x82_3) 2))) (ds := []) (fr_ [0, 22]) (by kernel_rfl) rfl rfl ⟨(blk_cell BK139.out 0).trans rfl, (blk_cell BK139.out 1).trans rfl, (blk_cell BK139.out 2).trans rfl, (blk_cell BK139.out 3).trans rfl, (blk_cell BK140.out 0).trans rfl, (blk_cell BK140.out 1).trans rfl, (blk_cell BK140.out 2).trans rfl, (blk_cell BK140.out 3).trans rfl, ((HB.out.cell (World.block_lt_of_cell? w _ hw153_0)).trans hw153_0), ((HB.out.cell (World.block_lt_of_cell? w _ hw154_0)).trans hw154_0), ((HB.out.cell (World.block_lt_of_cell? w _ hw155_0)).trans hw155_0)⟩ (fun hHeld => ?_); refine with_tabW spec_BestChange.tab14 spec_BestChange.bits14 (fun HT_ HW_ => ?_)
     generalize wr.drew = w77 at HO_17 BK139 BK140 HB hx153_0 hx154_0 hx155_0 hHeld ⊢
     refine purS_ (i := 1) (N := some 88) (fr_ [0, 1, 1, 20]) HT_.out ?_
     refine purS_ (i := 2) (N := some 89) (fr_ [0, 1, 2, 19]) HT_.out ?_
     refine purS_ (i := 3) (N := some 90) (fr_ [0, 1, 3, 18]) HT_.out ?_
     refine purS_ (i := 6) (N := some 93) (fr_ [0, 1, 3, 2, 1, 15]) HT_.out ?_
     refine purS_ (i := 7) (N := some 94) (fr_ [0, 1, 3, 2, 2, 14]) HT_.out ?_
     refine purS_ (i := 9) (N := some 96) (fr_ [0, 1, 3, 2, 2, 1, 1, 12]) HT_.out ?_
     refine purS_ (i := 10) (N := some 97) (fr_ [0, 1, 3, 2, 2, 1, 2, 11]) HT_.out ?_
     refine purS_ (i := 11) (N := some 98) (fr_ [0, 1, 3, 2, 2, 1, 3, 10]) HT_.out ?_
     refine purS_ (i := 13) (N := some 100) (fr_ [0, 1, 3, 2, 2, 1, 3, 1, 1, 8]) HT_.out ?_
     refine take_ (i := 0) (N := some 87) (v := ?_) (a' := ?_) (fr_ [4, 2, 2, 1, 3, 1, 1, 8]) rfl rfl (take_ofW HT_.out HW_.out (by kernel_rfl)) (fun _ _ _ h => h) (Or.inl ⟨by rfl, ?_⟩) hHeld ?_ ?_
     rotate_left
     ·rintro w' ⟨s0, s1, s2, s3, s4, s5, s6, s7, s8, s9, s10⟩
      go_simp
      with_reducible rfl
     rotate_left
     ·simp only [Act.put, List.setIfInBounds_toArray, List.set_cons_zero, List.set_cons_succ, i64_w, i32_w]
      rfl
     refine take_ (i := 4) (N := some 91) (v := ?_) (a' := ?_) (fr_ [5, 1, 2, 1, 3, 1, 1, 8]) rfl rfl (take_ofW HT_.out HW_.out (by kernel_rfl)) (fun _ _ _ h => h) (Or.inl ⟨by rfl, ?_⟩) hHeld ?_ ?_
     rotate_left
     ·rintro w' ⟨s0, s1, s2, s3, s4, s5, s6, s7, s8, s9, s10⟩
      go_simp
      with_reducible rfl
     rotate_left
     ·simp only [Act.put, List.setIfInBounds_toArray, List.set_cons_zero, List.set_cons_succ, i64_w, i32_w]
      rfl
     refine take_ (i := 5) (N := some 92) (v := ?_) (a' := ?_) (fr_ [8, 1, 3, 1, 1, 8]) rfl rfl (take_ofW HT_.out HW_.out (by kernel_rfl)) (fun _ _ _ h => h) (Or.inl ⟨by rfl, ?_⟩) hHeld ?_ ?_
     rotate_left
     ·rintro w' ⟨s0, s1, s2, s3, s4, s5, s6, s7, s8, s9, s10⟩
      go_simp
      with_reducible rfl
     rotate_left
     ·simp only [Act.put, List.setIfInBounds_toArray, List.set_cons_zero, List.set_cons_succ, i64_w, i32_w]
      rfl
     refine take_ (i := 8) (N := some 95) (v := ?_) (a' := ?_) (fr_ [12, 1, 1, 8]) rfl rfl (take_ofW HT_.out HW_.out (by kernel_rfl)) (fun _ _ _ h => h) (Or.inl ⟨by rfl, ?_⟩) hHeld ?_ ?_
     rotate_left
     ·rintro w' ⟨s0, s1, s2, s3, s4, s5, s6, s7, s8, s9, s10⟩
      go_simp
      with_reducible rfl
     rotate_left
     ·simp only [Act.put, List.setIfInBounds_toArray, List.set_cons_zero, List.set_cons_succ, i64_w, i32_w]
      rfl
     refine take_ (i := 12) (N := some 99) (v := ?_) (a' := ?_) (fr_ [14, 8]) rfl rfl (take_ofW HT_.out HW_.out (by kernel_rfl)) (fun _ _ _ h => h) (Or.inl ⟨by rfl, ?_⟩) hHeld ?_ ?_
     rotate_left
     ·rintro w' ⟨s0, s1, s2, s3, s4, s5, s6, s7, s8, s9, s10⟩
      go_simp
      with_reducible rfl
     rotate_left
     ·simp only [Act.put, List.setIfInBounds_toArray, List.set_cons_zero, List.set_cons_succ, i64_w, i32_w]
      rfl
     refine one_ (i := 14) (N := some 101) (fr_ [15, 7]) rfl rfl (one_of HT_.out (by kernel_rfl)) (by decide) (fun K hK => ?_)
     refine goes_ Try.func46 (by kernel_rfl) rfl #[.agg #[.int .i64 a0_0, .int .i64 a0_1, .int .i64 a0_2, .slice A0_3 l0_3.length c0_3], .int .i64 a1, .int .i64 (rd (rd_L1 l4 x82_3) 0), .agg #[.int .i64 a2_0, .int .i64 a2_1, .int .i64 a2_2, .slice A2_3 l2_3.length c2_3], .int .i64 (rd (rd_L1 l4 x82_3) 1), .int .i64 a3, .int .i64 (rd (rd_L1 l4 x82_3) 2), .int .i64 a5] (by rfl) rfl rfl am_ ?_
     with_reducible refine (spec_buChange.calls k3 a0_0 a0_1 a0_2 _ _ l0_3 a1 (rd (rd_L1 l4 x82_3) 0) a2_0 a2_1 a2_2 _ _ l2_3 (rd (rd_L1 l4 x82_3) 1) a3 (rd (rd_L1 l4 x82_3) 2) a5 t156 t157 true _ ?side1 ?side2 ?side3 ?side4 A67.out).mono ?_
     (case side1 => exact cb_ HR0_3 HB)
     (case side2 => exact HC0_3.out)
     (case side3 => exact cb_ HR2_3 HB)
     (case side4 => exact HC2_3.out)
     rintro e w78 ⟨rfl, hb⟩
     refine ⟨_, rfl, ?_⟩
     have n0_ := Aside0.mk (Kd.R_below (kd_to HO_17) hb)
     have n1_ := Aside0.mk (blk_below (blk_to BK139) hb)
     have n2_ := Aside0.mk (blk_below (blk_to BK140) hb)
     have n3_ := Aside0.mk (below_step (below_to2 HB GE139.out GE140.out) hb)
     clear HO_17
     clear BK139
     clear BK140
     clear HB
     have HO_17 := n0_
     have BK139 := n1_
     have BK140 := n2_
     have HB := n3_
     clear n0_ n1_ n2_ n3_
     (try clear hb)
     (try clear hb2)
     (try clear hk)
     (try clear hi)
     refine hK.out _ _ ⟨(blk_cell BK139.out 0).trans rfl, (blk_cell BK139.out 1).trans rfl, (blk_cell BK139.out 2).trans rfl, (blk_cell BK139.out 3).trans rfl, (blk_cell BK140.out 0).trans rfl, (blk_cell BK140.out 1).trans rfl, (blk_cell BK140.out 2).trans rfl, (blk_cell BK140.out 3).trans rfl, ((HB.out.cell (World.block_lt_of_cell? w _ hw153_0)).trans hw153_0), ((HB.out.cell (World.block_lt_of_cell? w _ hw154_0)).trans hw154_0), ((HB.out.cell (World.block_lt_of_cell? w _ hw155_0)).trans hw155_0)⟩ (fun hHeld => ?_)
     clear hK K
     refine norm_ (a' := ?_) ?_ ?_
     rotate_left
     ·show Act.put _ (some 101) _ = _
      simp only [Act.put, List.setIfInBounds_toArray, List.set_cons_zero, List.set_cons_succ, i64_w, i32_w]
      rfl
     refine purS_ (i := 15) (N := some 86) (fl_ 22 16) HT_.out ?_
     refine purS_ (i := 16) (N := some 102) (fl_ 22 17) HT_.out ?_
     refine purS_ (i := 17) (N := some 103) (fl_ 22 18) HT_.out ?_
     refine purS_ (i := 18) (N := some 104) (fl_ 22 19) HT_.out ?_
     refine purS_ (i := 19) (N := some 21) (fl_ 22 20) HT_.out ?_
     refine purS_ (i := 20) (N := some 22) (fl_ 22 21) HT_.out ?_
     refine purS_ (i := 21) (N := some 23) (fl_ 22 22) HT_.out ?_
     refine done_ (done_of HT_.out (by kernel_rfl)) ?_
     obtain ⟨Ao79, co79, eo79⟩ := Kd.R_slice HO_17.out
     subst eo79
     try go_wp2_with (first | ((with_reducible refine gate_callee (f := 47) rfl ?_); refine goesL_ (some 117) rfl rfl Try.func47 (by kernel_rfl) rfl #[.slice (some ad153) (rd_L1 l4 x82_3).length c152_0] rfl am_ ?_; (with_reducible refine (spec_l1Own.calls _ _ (rd_L1 l4 x82_3) t162 _ ?side1 ?side2 A76.out).mono ?_); (case side1 => exact cb_ HR152_0 HB); (case side2 => exact HC152_0.out); rintro e w80 ⟨v163, rfl, ho0, hb⟩; refine ⟨_, rfl, ?_⟩; have n0_ := Aside0.mk (Kd.R_elder' (kd_to HO_17) (Kd.R_base ho0) hb); have n1_ := Aside0.mk (Kd.R_lower (Kd.R_new' ho0 (Kd.R_lt (kd_to HO_17))) (below_size (below_to2 HB GE139.out GE140.out))); have n2_ := Aside0.mk (blk_below (blk_to BK139) hb); have n3_ := Aside0.mk (blk_below (blk_to BK140) hb); have n4_ := Aside0.mk (below_step (below_to2 HB GE139.out GE140.out) hb); clear HO_17; clear BK139; clear BK140; clear HB; have HO_17 := n0_; have HO164 := n1_; have BK139 := n2_; have BK140 := n3_; have HB := n4_; clear n0_ n1_ n2_ n3_ n4_; clear hb; (try clear ho0)))
     go_roundg k3
     case measure => have := HJ6.out; have := HK2.out; have := HK3.out; omega
     case rel => exact ⟨(t162), (t157), (wrap64 (x82_3 + 1)), rt_, rt_, H', ⟨by have := HJ6.out; have := HK2.out; have := HK3.out; omega⟩, ⟨by (with_reducible repeat (first | apply Kd.R_alloc | apply Kd.R_drewN | apply Kd.R_drew)); exact Kd.R_mono HO164.out (fun _ hk => trivial)⟩, ⟨blk_to BK139⟩, ⟨blk_to BK140⟩, ⟨below_to2 HB GE139.out GE140.out⟩⟩
   rw [if_pos c36] at H
   have c36b0 := decide_eq_true c36
   clear c36
   by_cases c37 : 0 ≤ x47_2
   rotate_left
   ·rw [if_neg c37] at H
    cases H
   rw [if_pos c37] at H
   have c37b0 := decide_eq_true c37
   clear c37
   by_cases c38 : x47_2 < (l4.length : Int)
   rotate_left
   ·rw [if_neg c38] at H
    cases H
   rw [if_pos c38] at H
   have c38b0 := decide_eq_true c38
   clear c38
   by_cases c39 : ((rd_L1 l4 x47_2).length : Int) = 3
   rotate_left
   ·rw [if_neg c39] at H
    have c39b0 := beq_eq_false_iff_ne.mpr c39
    have c39b1 := bne_iff_ne.mpr c39
    simp only [Option.some.injEq, Prod.mk.injEq] at H
    obtain ⟨rfl, rfl, rfl⟩ := H
    have p145 : 0 ≤ (x47_2 : Int) := odt_
    have q145 : x47_2 < (l4.length : Int) := odt_
    obtain ⟨ad145, A145_0, c145_0, e145, hx145_0, hl145_0, hi145_0⟩ := at_L1 HR4.out x47_2 p145 q145
    cases e145
    replace hx145_0 := bx_ HB hx145_0
    have HR145_0 := Aside0.mk hi145_0
    have HC145_0 := Aside0.mk hl145_0
    clear hi145_0 hl145_0
    replace p145 := eq_true p145
    replace q145 := eq_true q145
    try go_wp2
    have n0_ := Aside0.mk (blk_drew BK139.out)
    have n1_ := Aside0.mk (blk_drew BK140.out)
    have n2_ := Aside0.mk (below_drew1 HB.out)
    clear BK139
    clear BK140
    clear HB
    have BK139 := n0_
    have BK140 := n1_
    have HB := n2_
    clear n0_ n1_ n2_
    refine start_ (n := 28) (S := fun w' => True) (ds := []) (fr_ [0, 28]) (by kernel_rfl) rfl rfl trivial (fun hHeld => ?_); refine with_tabW spec_BestChange.tab6 spec_BestChange.bits6 (fun HT_ HW_ => ?_)
    generalize wr.drew = w60 at BK139 BK140 HB hHeld ⊢
    refine purS_ (i := 0) (N := some 51) (fl_ 28 1) HT_.out ?_
    refine purS_ (i := 1) (N := some 52) (fl_ 28 2) HT_.out ?_
    refine purS_ (i := 2) (N := some 53) (fl_ 28 3) HT_.out ?_
    refine purS_ (i := 3) (N := some 54) (fl_ 28 4) HT_.out ?_
    refine pure_ (i := 4) (N := some 55) (v := undef) (a' := ?_) (fl_ 28 5) rfl rfl (any_of HT_.out (by kernel_rfl)) (fun _ _ _ h => h) (Or.inr ⟨by rfl, rfl⟩) ?_ ?_
    rotate_left
    ·simp only [Act.put, List.setIfInBounds_toArray, List.set_cons_zero, List.set_cons_succ, i64_w, i32_w]
     rfl
    refine pure_ (i := 5) (N := some 56) (v := undef) (a' := ?_) (fl_ 28 6) rfl rfl (any_of HT_.out (by kernel_rfl)) (fun _ _ _ h => h) (Or.inr ⟨by rfl, rfl⟩) ?_ ?_
    rotate_left
    ·simp only [Act.put, List.setIfInBounds_toArray, List.set_cons_zero, List.set_cons_succ, i64_w, i32_w]
     rfl
    refine pure_ (i := 6) (N := some 57) (v := undef) (a' := ?_) (fl_ 28 7) rfl rfl (any_of HT_.out (by kernel_rfl)) (fun _ _ _ h => h) (Or.inr ⟨by rfl, rfl⟩) ?_ ?_
    rotate_left
    ·simp only [Act.put, List.setIfInBounds_toArray, List.set_cons_zero, List.set_cons_succ, i64_w, i32_w]
     rfl
    refine pure_ (i := 7) (N := some 58) (v := undef) (a' := ?_) (fl_ 28 8) rfl rfl (any_of HT_.out (by kernel_rfl)) (fun _ _ _ h => h) (Or.inr ⟨by rfl, rfl⟩) ?_ ?_
    rotate_left
    ·simp only [Act.put, List.setIfInBounds_toArray, List.set_cons_zero, List.set_cons_succ, i64_w, i32_w]
     rfl
    refine pure_ (i := 8) (N := some 59) (v := undef) (a' := ?_) (fl_ 28 9) rfl rfl (any_of HT_.out (by kernel_rfl)) (fun _ _ _ h => h) (Or.inr ⟨by rfl, rfl⟩) ?_ ?_
    rotate_left
    ·simp only [Act.put, List.setIfInBounds_toArray, List.set_cons_zero, List.set_cons_succ, i64_w, i32_w]
     rfl
    refine pure_ (i := 9) (N := some 60) (v := undef) (a' := ?_) (fl_ 28 10) rfl rfl (any_of HT_.out (by kernel_rfl)) (fun _ _ _ h => h) (Or.inr ⟨by rfl, rfl⟩) ?_ ?_
    rotate_left
    ·simp only [Act.put, List.setIfInBounds_toArray, List.set_cons_zero, List.set_cons_succ, i64_w, i32_w]
     rfl
    refine pure_ (i := 10) (N := some 61) (v := undef) (a' := ?_) (fl_ 28 11) rfl rfl (any_of HT_.out (by kernel_rfl)) (fun _ _ _ h => h) (Or.inr ⟨by rfl, rfl⟩) ?_ ?_
    rotate_left
    ·simp only [Act.put, List.setIfInBounds_toArray, List.set_cons_zero, List.set_cons_succ, i64_w, i32_w]
     rfl
    refine purS_ (i := 11) (N := some 62) (fl_ 28 12) HT_.out ?_
    refine purS_ (i := 12) (N := some 63) (fl_ 28 13) HT_.out ?_
    refine pure_ (i := 13) (N := some 64) (v := undef) (a' := ?_) (fl_ 28 14) rfl rfl (any_of HT_.out (by kernel_rfl)) (fun _ _ _ h => h) (Or.inr ⟨by rfl, rfl⟩) ?_ ?_
    rotate_left
    ·simp only [Act.put, List.setIfInBounds_toArray, List.set_cons_zero, List.set_cons_succ, i64_w, i32_w]
     rfl
    refine pure_ (i := 14) (N := some 65) (v := undef) (a' := ?_) (fl_ 28 15) rfl rfl (any_of HT_.out (by kernel_rfl)) (fun _ _ _ h => h) (Or.inr ⟨by rfl, rfl⟩) ?_ ?_
    rotate_left
    ·simp only [Act.put, List.setIfInBounds_toArray, List.set_cons_zero, List.set_cons_succ, i64_w, i32_w]
     rfl
    refine pure_ (i := 15) (N := some 66) (v := undef) (a' := ?_) (fl_ 28 16) rfl rfl (any_of HT_.out (by kernel_rfl)) (fun _ _ _ h => h) (Or.inr ⟨by rfl, rfl⟩) ?_ ?_
    rotate_left
    ·simp only [Act.put, List.setIfInBounds_toArray, List.set_cons_zero, List.set_cons_succ, i64_w, i32_w]
     rfl
    refine pure_ (i := 16) (N := some 67) (v := undef) (a' := ?_) (fl_ 28 17) rfl rfl (any_of HT_.out (by kernel_rfl)) (fun _ _ _ h => h) (Or.inr ⟨by rfl, rfl⟩) ?_ ?_
    rotate_left
    ·simp only [Act.put, List.setIfInBounds_toArray, List.set_cons_zero, List.set_cons_succ, i64_w, i32_w]
     rfl
    refine pure_ (i := 17) (N := some 68) (v := undef) (a' := ?_) (fl_ 28 18) rfl rfl (any_of HT_.out (by kernel_rfl)) (fun _ _ _ h => h) (Or.inr ⟨by rfl, rfl⟩) ?_ ?_
    rotate_left
    ·simp only [Act.put, List.setIfInBounds_toArray, List.set_cons_zero, List.set_cons_succ, i64_w, i32_w]
     rfl
    refine pure_ (i := 18) (N := some 69) (v := undef) (a' := ?_) (fl_ 28 19) rfl rfl (any_of HT_.out (by kernel_rfl)) (fun _ _ _ h => h) (Or.inr ⟨by rfl, rfl⟩) ?_ ?_
    rotate_left
    ·simp only [Act.put, List.setIfInBounds_toArray, List.set_cons_zero, List.set_cons_succ, i64_w, i32_w]
     rfl
    refine pure_ (i := 19) (N := some 70) (v := undef) (a' := ?_) (fl_ 28 20) rfl rfl (any_of HT_.out (by kernel_rfl)) (fun _ _ _ h => h) (Or.inr ⟨by rfl, rfl⟩) ?_ ?_
    rotate_left
    ·simp only [Act.put, List.setIfInBounds_toArray, List.set_cons_zero, List.set_cons_succ, i64_w, i32_w]
     rfl
    refine purS_ (i := 20) (N := some 71) (fl_ 28 21) HT_.out ?_
    refine purS_ (i := 21) (N := some 72) (fl_ 28 22) HT_.out ?_
    refine pure_ (i := 22) (N := some 73) (v := undef) (a' := ?_) (fl_ 28 23) rfl rfl (any_of HT_.out (by kernel_rfl)) (fun _ _ _ h => h) (Or.inr ⟨by rfl, rfl⟩) ?_ ?_
    rotate_left
    ·simp only [Act.put, List.setIfInBounds_toArray, List.set_cons_zero, List.set_cons_succ, i64_w, i32_w]
     rfl
    refine pure_ (i := 23) (N := some 74) (v := undef) (a' := ?_) (fl_ 28 24) rfl rfl (any_of HT_.out (by kernel_rfl)) (fun _ _ _ h => h) (Or.inr ⟨by rfl, rfl⟩) ?_ ?_
    rotate_left
    ·simp only [Act.put, List.setIfInBounds_toArray, List.set_cons_zero, List.set_cons_succ, i64_w, i32_w]
     rfl
    refine pure_ (i := 24) (N := some 75) (v := undef) (a' := ?_) (fl_ 28 25) rfl rfl (any_of HT_.out (by kernel_rfl)) (fun _ _ _ h => h) (Or.inr ⟨by rfl, rfl⟩) ?_ ?_
    rotate_left
    ·simp only [Act.put, List.setIfInBounds_toArray, List.set_cons_zero, List.set_cons_succ, i64_w, i32_w]
     rfl
    refine pure_ (i := 25) (N := some 76) (v := undef) (a' := ?_) (fl_ 28 26) rfl rfl (any_of HT_.out (by kernel_rfl)) (fun _ _ _ h => h) (Or.inr ⟨by rfl, rfl⟩) ?_ ?_
    rotate_left
    ·simp only [Act.put, List.setIfInBounds_toArray, List.set_cons_zero, List.set_cons_succ, i64_w, i32_w]
     rfl
    refine pure_ (i := 26) (N := some 77) (v := undef) (a' := ?_) (fl_ 28 27) rfl rfl (any_of HT_.out (by kernel_rfl)) (fun _ _ _ h => h) (Or.inr ⟨by rfl, rfl⟩) ?_ ?_
    rotate_left
    ·simp only [Act.put, List.setIfInBounds_toArray, List.set_cons_zero, List.set_cons_succ, i64_w, i32_w]
     rfl
    refine purS_ (i := 27) (N := some 78) (fl_ 28 28) HT_.out ?_
    refine done_ (done_of HT_.out (by kernel_rfl)) ?_
    try go_wp2
    go_ret3
    exact ⟨_, rtE_, by first | exact Kd.R_nil _ _ _ _ _ | exact Kd.N_nil _ _ _ _ _ | exact Kd.V_nil _ _ _ _ _ | exact Kd.Q_nil _ _ _ _ _ | exact Kd.S_nil _ _ _ _ _, below_to2 HB GE139.out GE140.out⟩
   rw [if_pos c39] at H
   have c39b0 := beq_iff_eq.mpr c39
   have c39b1 := bne_eq_false_iff_eq.mpr c39
   clear c39
   by_cases c40 : 0 < ((rd_L1 l4 x47_2).length : Int)
   rotate_left
   ·rw [if_neg c40] at H
    cases H
   rw [if_pos c40] at H
   have c40b0 := decide_eq_true c40
   have c40b1 : decide (0 < (rd_L1 l4 x47_2).length) = true := decide_eq_true (by omega)
   clear c40
   replace H := Option.bind_eq_some_iff.mp H
   obtain ⟨t147, A410, H⟩ := H
   (try dsimp only at H)
   have A41 := Aside0.mk A410
   clear A410
   by_cases c42 : t147 = true
   rotate_left
   ·replace c42 := Bool.eq_false_iff.mpr c42
    subst c42
    rw [if_neg ft_] at H
    simp only [Option.some.injEq, Prod.mk.injEq] at H
    obtain ⟨rfl, rfl, rfl⟩ := H
    have p145 : 0 ≤ (x47_2 : Int) := odt_
    have q145 : x47_2 < (l4.length : Int) := odt_
    obtain ⟨ad145, A145_0, c145_0, e145, hx145_0, hl145_0, hi145_0⟩ := at_L1 HR4.out x47_2 p145 q145
    cases e145
    replace hx145_0 := bx_ HB hx145_0
    have HR145_0 := Aside0.mk hi145_0
    have HC145_0 := Aside0.mk hl145_0
    clear hi145_0 hl145_0
    replace p145 := eq_true p145
    replace q145 := eq_true q145
    try go_wp2
    have n0_ := Aside0.mk (blk_drew BK139.out)
    have n1_ := Aside0.mk (blk_drew BK140.out)
    have n2_ := Aside0.mk (below_drew1 HB.out)
    clear BK139
    clear BK140
    clear HB
    have BK139 := n0_
    have BK140 := n1_
    have HB := n2_
    clear n0_ n1_ n2_
    have p146 : 0 ≤ (0 : Int) := (by omega)
    have q146 : 0 < ((rd_L1 l4 x47_2).length : Int) := odt_
    obtain ⟨ad146, e146, hx146_0⟩ := Kd.at_int HR145_0.out 0 p146 q146
    have hw146_0 := hx146_0
    (try rw [show ((0 : Int)).toNat = 0 from rfl] at hw146_0)
    (try rw [show 0 * 1 = 0 from rfl] at hw146_0)
    (try rw [Addr.add_zero'] at hw146_0)
    cases e146
    have qi146 : (0 < (rd_L1 l4 x47_2).length) = True := eq_true (by omega)
    (try rw [show ((0 : Int)).toNat = 0 from rfl] at hx146_0)
    (try rw [Addr.add_zero'] at hx146_0)
    replace hx146_0 := bx_ HB hx146_0
    replace p146 := eq_true p146
    replace q146 := eq_true q146
    refine start_ (n := 28) (S := fun w' => w'.cell? ⟨gb139, 0, none⟩ = some (.int .i64 a0_0) ∧ w'.cell? ⟨gb139, 1, none⟩ = some (.int .i64 a0_1) ∧ w'.cell? ⟨gb139, 2, none⟩ = some (.int .i64 a0_2) ∧ w'.cell? ⟨gb139, 3, none⟩ = some (.slice A0_3 l0_3.length c0_3) ∧ w'.cell? ad146 = some (.int .i64 (rd (rd_L1 l4 x47_2) 0))) (ds := []) (fr_ [0, 28]) (by kernel_rfl) rfl rfl ⟨(blk_cell BK139.out 0).trans rfl, (blk_cell BK139.out 1).trans rfl, (blk_cell BK139.out 2).trans rfl, (blk_cell BK139.out 3).trans rfl, ((HB.out.cell (World.block_lt_of_cell? w _ hw146_0)).trans hw146_0)⟩ (fun hHeld => ?_); refine with_tabW spec_BestChange.tab6 spec_BestChange.bits6 (fun HT_ HW_ => ?_)
    generalize wr.drew = w58 at BK139 BK140 HB hx146_0 hHeld ⊢
    refine purS_ (i := 0) (N := some 51) (fl_ 28 1) HT_.out ?_
    refine purS_ (i := 1) (N := some 52) (fl_ 28 2) HT_.out ?_
    refine purS_ (i := 2) (N := some 53) (fl_ 28 3) HT_.out ?_
    refine purS_ (i := 3) (N := some 54) (fl_ 28 4) HT_.out ?_
    refine purS_ (i := 5) (N := some 56) (fr_ [4, 1, 1, 22]) HT_.out ?_
    refine purS_ (i := 6) (N := some 57) (fr_ [4, 1, 2, 21]) HT_.out ?_
    refine purS_ (i := 7) (N := some 58) (fr_ [4, 1, 3, 20]) HT_.out ?_
    refine take_ (i := 4) (N := some 55) (v := ?_) (a' := ?_) (fr_ [8, 20]) rfl rfl (take_ofW HT_.out HW_.out (by kernel_rfl)) (fun _ _ _ h => h) (Or.inl ⟨by rfl, ?_⟩) hHeld ?_ ?_
    rotate_left
    ·rintro w' ⟨s0, s1, s2, s3, s4⟩
     go_simp
     with_reducible rfl
    rotate_left
    ·simp only [Act.put, List.setIfInBounds_toArray, List.set_cons_zero, List.set_cons_succ, i64_w, i32_w]
     rfl
    refine take_ (i := 8) (N := some 59) (v := ?_) (a' := ?_) (fr_ [9, 19]) rfl rfl (take_ofW HT_.out HW_.out (by kernel_rfl)) (fun _ _ _ h => h) (Or.inl ⟨by rfl, ?_⟩) hHeld ?_ ?_
    rotate_left
    ·rintro w' ⟨s0, s1, s2, s3, s4⟩
     go_simp
     with_reducible rfl
    rotate_left
    ·simp only [Act.put, List.setIfInBounds_toArray, List.set_cons_zero, List.set_cons_succ, i64_w, i32_w]
     rfl
    refine one_ (i := 9) (N := some 60) (fr_ [10, 18]) rfl rfl (one_of HT_.out (by kernel_rfl)) (by decide) (fun K hK => ?_)
    refine goes_ Try.func45 (by kernel_rfl) rfl #[.agg #[.int .i64 a0_0, .int .i64 a0_1, .int .i64 a0_2, .slice A0_3 l0_3.length c0_3], .int .i64 a1, .int .i64 (rd (rd_L1 l4 x47_2) 0)] (by rfl) rfl rfl am_ ?_
    with_reducible refine (spec_buRide.calls k2 a0_0 a0_1 a0_2 _ _ l0_3 a1 (rd (rd_L1 l4 x47_2) 0) false _ ?side1 ?side2 A41.out).mono ?_
    (case side1 => exact cb_ HR0_3 HB)
    (case side2 => exact HC0_3.out)
    rintro e w59 ⟨rfl, hb⟩
    refine ⟨_, rfl, ?_⟩
    have n0_ := Aside0.mk (blk_below (blk_to BK139) hb)
    have n1_ := Aside0.mk (blk_below (blk_to BK140) hb)
    have n2_ := Aside0.mk (below_step (below_to2 HB GE139.out GE140.out) hb)
    clear BK139
    clear BK140
    clear HB
    have BK139 := n0_
    have BK140 := n1_
    have HB := n2_
    clear n0_ n1_ n2_
    (try clear hb)
    (try clear hb2)
    (try clear hk)
    (try clear hi)
    refine hK.out _ _ ⟨(blk_cell BK139.out 0).trans rfl, (blk_cell BK139.out 1).trans rfl, (blk_cell BK139.out 2).trans rfl, (blk_cell BK139.out 3).trans rfl, ((HB.out.cell (World.block_lt_of_cell? w _ hw146_0)).trans hw146_0)⟩ (fun hHeld => ?_)
    clear hK K
    refine norm_ (a' := ?_) ?_ ?_
    rotate_left
    ·show Act.put _ (some 60) _ = _
     simp only [Act.put, List.setIfInBounds_toArray, List.set_cons_zero, List.set_cons_succ, i64_w, i32_w]
     rfl
    refine purS_ (i := 10) (N := some 61) (fl_ 28 11) HT_.out ?_
    refine purS_ (i := 11) (N := some 62) (fl_ 28 12) HT_.out ?_
    refine purS_ (i := 12) (N := some 63) (fl_ 28 13) HT_.out ?_
    refine pure_ (i := 13) (N := some 64) (v := undef) (a' := ?_) (fl_ 28 14) rfl rfl (any_of HT_.out (by kernel_rfl)) (fun _ _ _ h => h) (Or.inr ⟨by rfl, rfl⟩) ?_ ?_
    rotate_left
    ·simp only [Act.put, List.setIfInBounds_toArray, List.set_cons_zero, List.set_cons_succ, i64_w, i32_w]
     rfl
    refine pure_ (i := 14) (N := some 65) (v := undef) (a' := ?_) (fl_ 28 15) rfl rfl (any_of HT_.out (by kernel_rfl)) (fun _ _ _ h => h) (Or.inr ⟨by rfl, rfl⟩) ?_ ?_
    rotate_left
    ·simp only [Act.put, List.setIfInBounds_toArray, List.set_cons_zero, List.set_cons_succ, i64_w, i32_w]
     rfl
    refine pure_ (i := 15) (N := some 66) (v := undef) (a' := ?_) (fl_ 28 16) rfl rfl (any_of HT_.out (by kernel_rfl)) (fun _ _ _ h => h) (Or.inr ⟨by rfl, rfl⟩) ?_ ?_
    rotate_left
    ·simp only [Act.put, List.setIfInBounds_toArray, List.set_cons_zero, List.set_cons_succ, i64_w, i32_w]
     rfl
    refine pure_ (i := 16) (N := some 67) (v := undef) (a' := ?_) (fl_ 28 17) rfl rfl (any_of HT_.out (by kernel_rfl)) (fun _ _ _ h => h) (Or.inr ⟨by rfl, rfl⟩) ?_ ?_
    rotate_left
    ·simp only [Act.put, List.setIfInBounds_toArray, List.set_cons_zero, List.set_cons_succ, i64_w, i32_w]
     rfl
    refine pure_ (i := 17) (N := some 68) (v := undef) (a' := ?_) (fl_ 28 18) rfl rfl (any_of HT_.out (by kernel_rfl)) (fun _ _ _ h => h) (Or.inr ⟨by rfl, rfl⟩) ?_ ?_
    rotate_left
    ·simp only [Act.put, List.setIfInBounds_toArray, List.set_cons_zero, List.set_cons_succ, i64_w, i32_w]
     rfl
    refine pure_ (i := 18) (N := some 69) (v := undef) (a' := ?_) (fl_ 28 19) rfl rfl (any_of HT_.out (by kernel_rfl)) (fun _ _ _ h => h) (Or.inr ⟨by rfl, rfl⟩) ?_ ?_
    rotate_left
    ·simp only [Act.put, List.setIfInBounds_toArray, List.set_cons_zero, List.set_cons_succ, i64_w, i32_w]
     rfl
    refine pure_ (i := 19) (N := some 70) (v := undef) (a' := ?_) (fl_ 28 20) rfl rfl (any_of HT_.out (by kernel_rfl)) (fun _ _ _ h => h) (Or.inr ⟨by rfl, rfl⟩) ?_ ?_
    rotate_left
    ·simp only [Act.put, List.setIfInBounds_toArray, List.set_cons_zero, List.set_cons_succ, i64_w, i32_w]
     rfl
    refine purS_ (i := 20) (N := some 71) (fl_ 28 21) HT_.out ?_
    refine purS_ (i := 21) (N := some 72) (fl_ 28 22) HT_.out ?_
    refine pure_ (i := 22) (N := some 73) (v := undef) (a' := ?_) (fl_ 28 23) rfl rfl (any_of HT_.out (by kernel_rfl)) (fun _ _ _ h => h) (Or.inr ⟨by rfl, rfl⟩) ?_ ?_
    rotate_left
    ·simp only [Act.put, List.setIfInBounds_toArray, List.set_cons_zero, List.set_cons_succ, i64_w, i32_w]
     rfl
    refine pure_ (i := 23) (N := some 74) (v := undef) (a' := ?_) (fl_ 28 24) rfl rfl (any_of HT_.out (by kernel_rfl)) (fun _ _ _ h => h) (Or.inr ⟨by rfl, rfl⟩) ?_ ?_
    rotate_left
    ·simp only [Act.put, List.setIfInBounds_toArray, List.set_cons_zero, List.set_cons_succ, i64_w, i32_w]
     rfl
    refine pure_ (i := 24) (N := some 75) (v := undef) (a' := ?_) (fl_ 28 25) rfl rfl (any_of HT_.out (by kernel_rfl)) (fun _ _ _ h => h) (Or.inr ⟨by rfl, rfl⟩) ?_ ?_
    rotate_left
    ·simp only [Act.put, List.setIfInBounds_toArray, List.set_cons_zero, List.set_cons_succ, i64_w, i32_w]
     rfl
    refine pure_ (i := 25) (N := some 76) (v := undef) (a' := ?_) (fl_ 28 26) rfl rfl (any_of HT_.out (by kernel_rfl)) (fun _ _ _ h => h) (Or.inr ⟨by rfl, rfl⟩) ?_ ?_
    rotate_left
    ·simp only [Act.put, List.setIfInBounds_toArray, List.set_cons_zero, List.set_cons_succ, i64_w, i32_w]
     rfl
    refine pure_ (i := 26) (N := some 77) (v := undef) (a' := ?_) (fl_ 28 27) rfl rfl (any_of HT_.out (by kernel_rfl)) (fun _ _ _ h => h) (Or.inr ⟨by rfl, rfl⟩) ?_ ?_
    rotate_left
    ·simp only [Act.put, List.setIfInBounds_toArray, List.set_cons_zero, List.set_cons_succ, i64_w, i32_w]
     rfl
    refine purS_ (i := 27) (N := some 78) (fl_ 28 28) HT_.out ?_
    refine done_ (done_of HT_.out (by kernel_rfl)) ?_
    try go_wp2
    go_ret3
    exact ⟨_, rtE_, by first | exact Kd.R_nil _ _ _ _ _ | exact Kd.N_nil _ _ _ _ _ | exact Kd.V_nil _ _ _ _ _ | exact Kd.Q_nil _ _ _ _ _ | exact Kd.S_nil _ _ _ _ _, below_to2 HB GE139.out GE140.out⟩
   subst c42
   rw [if_pos rfl] at H
   by_cases c43 : 1 < ((rd_L1 l4 x47_2).length : Int)
   rotate_left
   ·rw [if_neg c43] at H
    cases H
   rw [if_pos c43] at H
   have c43b0 := decide_eq_true c43
   have c43b1 : decide (1 < (rd_L1 l4 x47_2).length) = true := decide_eq_true (by omega)
   clear c43
   replace H := Option.bind_eq_some_iff.mp H
   obtain ⟨t149, A440, H⟩ := H
   (try dsimp only at H)
   have A44 := Aside0.mk A440
   clear A440
   by_cases c45 : t149 = true
   rotate_left
   ·replace c45 := Bool.eq_false_iff.mpr c45
    subst c45
    rw [if_neg ft_] at H
    simp only [Option.some.injEq, Prod.mk.injEq] at H
    obtain ⟨rfl, rfl, rfl⟩ := H
    have p145 : 0 ≤ (x47_2 : Int) := odt_
    have q145 : x47_2 < (l4.length : Int) := odt_
    obtain ⟨ad145, A145_0, c145_0, e145, hx145_0, hl145_0, hi145_0⟩ := at_L1 HR4.out x47_2 p145 q145
    cases e145
    replace hx145_0 := bx_ HB hx145_0
    have HR145_0 := Aside0.mk hi145_0
    have HC145_0 := Aside0.mk hl145_0
    clear hi145_0 hl145_0
    replace p145 := eq_true p145
    replace q145 := eq_true q145
    try go_wp2
    have n0_ := Aside0.mk (blk_drew BK139.out)
    have n1_ := Aside0.mk (blk_drew BK140.out)
    have n2_ := Aside0.mk (below_drew1 HB.out)
    clear BK139
    clear BK140
    clear HB
    have BK139 := n0_
    have BK140 := n1_
    have HB := n2_
    clear n0_ n1_ n2_
    have p146 : 0 ≤ (0 : Int) := (by omega)
    have q146 : 0 < ((rd_L1 l4 x47_2).length : Int) := odt_
    obtain ⟨ad146, e146, hx146_0⟩ := Kd.at_int HR145_0.out 0 p146 q146
    have hw146_0 := hx146_0
    (try rw [show ((0 : Int)).toNat = 0 from rfl] at hw146_0)
    (try rw [show 0 * 1 = 0 from rfl] at hw146_0)
    (try rw [Addr.add_zero'] at hw146_0)
    cases e146
    have qi146 : (0 < (rd_L1 l4 x47_2).length) = True := eq_true (by omega)
    (try rw [show ((0 : Int)).toNat = 0 from rfl] at hx146_0)
    (try rw [Addr.add_zero'] at hx146_0)
    replace hx146_0 := bx_ HB hx146_0
    replace p146 := eq_true p146
    replace q146 := eq_true q146
    have p148 : 0 ≤ (1 : Int) := (by omega)
    have q148 : 1 < ((rd_L1 l4 x47_2).length : Int) := odt_
    obtain ⟨ad148, e148, hx148_0⟩ := Kd.at_int HR145_0.out 1 p148 q148
    have hw148_0 := hx148_0
    (try rw [show ((1 : Int)).toNat = 1 from rfl] at hw148_0)
    (try rw [show 1 * 1 = 1 from rfl] at hw148_0)
    (try simp only [Nat.reduceMul, Nat.reduceEqDiff, Go.Addr.add, ↓reduceIte] at hw148_0)
    obtain rfl : ad146 = ad148 := (by injection e148)
    (try simp only [show (1 : Int).toNat = 1 from rfl, Nat.reduceMul, Nat.reduceEqDiff, Go.Addr.add, ↓reduceIte] at hx148_0)
    have qi148 : (1 < (rd_L1 l4 x47_2).length) = True := eq_true (by omega)
    (try rw [show ((1 : Int)).toNat = 1 from rfl] at hx148_0)
    replace hx148_0 := bx_ HB hx148_0
    replace p148 := eq_true p148
    replace q148 := eq_true q148
    refine start_ (n := 28) (S := fun w' => w'.cell? ⟨gb139, 0, none⟩ = some (.int .i64 a0_0) ∧ w'.cell? ⟨gb139, 1, none⟩ = some (.int .i64 a0_1) ∧ w'.cell? ⟨gb139, 2, none⟩ = some (.int .i64 a0_2) ∧ w'.cell? ⟨gb139, 3, none⟩ = some (.slice A0_3 l0_3.length c0_3) ∧ w'.cell? ⟨gb140, 0, none⟩ = some (.int .i64 a2_0) ∧ w'.cell? ⟨gb140, 1, none⟩ = some (.int .i64 a2_1) ∧ w'.cell? ⟨gb140, 2, none⟩ = some (.int .i64 a2_2) ∧ w'.cell? ⟨gb140, 3, none⟩ = some (.slice A2_3 l2_3.length c2_3) ∧ w'.cell? ad146 = some (.int .i64 (rd (rd_L1 l4 x47_2) 0)) ∧ w'.cell? ⟨ad146.block, ad146.off + 1, none⟩ = some (.int .i64 (rd (rd_L1 l4 x47_2) 1))) (ds := []) (fr_ [0, 28]) (by kernel_rfl) rfl rfl ⟨(blk_cell BK139.out 0).trans rfl, (blk_cell BK139.out 1).trans rfl, (blk_cell BK139.out 2).trans rfl, (blk_cell BK139.out 3).trans rfl, (blk_cell BK140.out 0).trans rfl, (blk_cell BK140.out 1).trans rfl, (blk_cell BK140.out 2).trans rfl, (blk_cell BK140.out 3).trans rfl, ((HB.out.cell (World.block_lt_of_cell? w _ hw146_0)).trans hw146_0), ((HB.out.cell (World.block_lt_of_cell? w _ hw148_0)).trans hw148_0)⟩ (fun hHeld => ?_); refine with_tabW spec_BestChange.tab6 spec_BestChange.bits6 (fun HT_ HW_ => ?_)
    generalize wr.drew = w55 at BK139 BK140 HB hx146_0 hx148_0 hHeld ⊢
    refine purS_ (i := 0) (N := some 51) (fl_ 28 1) HT_.out ?_
    refine purS_ (i := 1) (N := some 52) (fl_ 28 2) HT_.out ?_
    refine purS_ (i := 2) (N := some 53) (fl_ 28 3) HT_.out ?_
    refine purS_ (i := 3) (N := some 54) (fl_ 28 4) HT_.out ?_
    refine purS_ (i := 5) (N := some 56) (fr_ [4, 1, 1, 22]) HT_.out ?_
    refine purS_ (i := 6) (N := some 57) (fr_ [4, 1, 2, 21]) HT_.out ?_
    refine purS_ (i := 7) (N := some 58) (fr_ [4, 1, 3, 20]) HT_.out ?_
    refine take_ (i := 4) (N := some 55) (v := ?_) (a' := ?_) (fr_ [8, 20]) rfl rfl (take_ofW HT_.out HW_.out (by kernel_rfl)) (fun _ _ _ h => h) (Or.inl ⟨by rfl, ?_⟩) hHeld ?_ ?_
    rotate_left
    ·rintro w' ⟨s0, s1, s2, s3, s4, s5, s6, s7, s8, s9⟩
     go_simp
     with_reducible rfl
    rotate_left
    ·simp only [Act.put, List.setIfInBounds_toArray, List.set_cons_zero, List.set_cons_succ, i64_w, i32_w]
     rfl
    refine take_ (i := 8) (N := some 59) (v := ?_) (a' := ?_) (fr_ [9, 19]) rfl rfl (take_ofW HT_.out HW_.out (by kernel_rfl)) (fun _ _ _ h => h) (Or.inl ⟨by rfl, ?_⟩) hHeld ?_ ?_
    rotate_left
    ·rintro w' ⟨s0, s1, s2, s3, s4, s5, s6, s7, s8, s9⟩
     go_simp
     with_reducible rfl
    rotate_left
    ·simp only [Act.put, List.setIfInBounds_toArray, List.set_cons_zero, List.set_cons_succ, i64_w, i32_w]
     rfl
    refine one_ (i := 9) (N := some 60) (fr_ [10, 18]) rfl rfl (one_of HT_.out (by kernel_rfl)) (by decide) (fun K hK => ?_)
    refine goes_ Try.func45 (by kernel_rfl) rfl #[.agg #[.int .i64 a0_0, .int .i64 a0_1, .int .i64 a0_2, .slice A0_3 l0_3.length c0_3], .int .i64 a1, .int .i64 (rd (rd_L1 l4 x47_2) 0)] (by rfl) rfl rfl am_ ?_
    with_reducible refine (spec_buRide.calls k2 a0_0 a0_1 a0_2 _ _ l0_3 a1 (rd (rd_L1 l4 x47_2) 0) true _ ?side1 ?side2 A41.out).mono ?_
    (case side1 => exact cb_ HR0_3 HB)
    (case side2 => exact HC0_3.out)
    rintro e w56 ⟨rfl, hb⟩
    refine ⟨_, rfl, ?_⟩
    have n0_ := Aside0.mk (blk_below (blk_to BK139) hb)
    have n1_ := Aside0.mk (blk_below (blk_to BK140) hb)
    have n2_ := Aside0.mk (below_step (below_to2 HB GE139.out GE140.out) hb)
    clear BK139
    clear BK140
    clear HB
    have BK139 := n0_
    have BK140 := n1_
    have HB := n2_
    clear n0_ n1_ n2_
    (try clear hb)
    (try clear hb2)
    (try clear hk)
    (try clear hi)
    refine hK.out _ _ ⟨(blk_cell BK139.out 0).trans rfl, (blk_cell BK139.out 1).trans rfl, (blk_cell BK139.out 2).trans rfl, (blk_cell BK139.out 3).trans rfl, (blk_cell BK140.out 0).trans rfl, (blk_cell BK140.out 1).trans rfl, (blk_cell BK140.out 2).trans rfl, (blk_cell BK140.out 3).trans rfl, ((HB.out.cell (World.block_lt_of_cell? w _ hw146_0)).trans hw146_0), ((HB.out.cell (World.block_lt_of_cell? w _ hw148_0)).trans hw148_0)⟩ (fun hHeld => ?_)
    clear hK K
    refine norm_ (a' := ?_) ?_ ?_
    rotate_left
    ·show Act.put _ (some 60) _ = _
     simp only [Act.put, List.setIfInBounds_toArray, List.set_cons_zero, List.set_cons_succ, i64_w, i32_w]
     rfl
    refine purS_ (i := 10) (N := some 61) (fl_ 28 11) HT_.out ?_
    refine purS_ (i := 11) (N := some 62) (fl_ 28 12) HT_.out ?_
    refine purS_ (i := 12) (N := some 63) (fl_ 28 13) HT_.out ?_
    refine purS_ (i := 14) (N := some 65) (fr_ [13, 1, 1, 13]) HT_.out ?_
    refine purS_ (i := 15) (N := some 66) (fr_ [13, 1, 2, 12]) HT_.out ?_
    refine purS_ (i := 17) (N := some 68) (fr_ [13, 1, 2, 1, 1, 10]) HT_.out ?_
    refine take_ (i := 13) (N := some 64) (v := ?_) (a' := ?_) (fr_ [16, 1, 1, 10]) rfl rfl (take_ofW HT_.out HW_.out (by kernel_rfl)) (fun _ _ _ h => h) (Or.inl ⟨by rfl, ?_⟩) hHeld ?_ ?_
    rotate_left
    ·rintro w' ⟨s0, s1, s2, s3, s4, s5, s6, s7, s8, s9⟩
     go_simp
     with_reducible rfl
    rotate_left
    ·simp only [Act.put, List.setIfInBounds_toArray, List.set_cons_zero, List.set_cons_succ, i64_w, i32_w]
     rfl
    refine take_ (i := 16) (N := some 67) (v := ?_) (a' := ?_) (fr_ [18, 10]) rfl rfl (take_ofW HT_.out HW_.out (by kernel_rfl)) (fun _ _ _ h => h) (Or.inl ⟨by rfl, ?_⟩) hHeld ?_ ?_
    rotate_left
    ·rintro w' ⟨s0, s1, s2, s3, s4, s5, s6, s7, s8, s9⟩
     go_simp
     with_reducible rfl
    rotate_left
    ·simp only [Act.put, List.setIfInBounds_toArray, List.set_cons_zero, List.set_cons_succ, i64_w, i32_w]
     rfl
    refine one_ (i := 18) (N := some 69) (fr_ [19, 9]) rfl rfl (one_of HT_.out (by kernel_rfl)) (by decide) (fun K hK => ?_)
    refine goes_ Try.func45 (by kernel_rfl) rfl #[.agg #[.int .i64 a2_0, .int .i64 a2_1, .int .i64 a2_2, .slice A2_3 l2_3.length c2_3], .int .i64 (rd (rd_L1 l4 x47_2) 1), .int .i64 a3] (by rfl) rfl rfl am_ ?_
    with_reducible refine (spec_buRide.calls k2 a2_0 a2_1 a2_2 _ _ l2_3 (rd (rd_L1 l4 x47_2) 1) a3 false _ ?side1 ?side2 A44.out).mono ?_
    (case side1 => exact cb_ HR2_3 HB)
    (case side2 => exact HC2_3.out)
    rintro e w57 ⟨rfl, hb⟩
    refine ⟨_, rfl, ?_⟩
    have n0_ := Aside0.mk (blk_below (blk_to BK139) hb)
    have n1_ := Aside0.mk (blk_below (blk_to BK140) hb)
    have n2_ := Aside0.mk (below_step (below_to2 HB GE139.out GE140.out) hb)
    clear BK139
    clear BK140
    clear HB
    have BK139 := n0_
    have BK140 := n1_
    have HB := n2_
    clear n0_ n1_ n2_
    (try clear hb)
    (try clear hb2)
    (try clear hk)
    (try clear hi)
    refine hK.out _ _ ⟨(blk_cell BK139.out 0).trans rfl, (blk_cell BK139.out 1).trans rfl, (blk_cell BK139.out 2).trans rfl, (blk_cell BK139.out 3).trans rfl, (blk_cell BK140.out 0).trans rfl, (blk_cell BK140.out 1).trans rfl, (blk_cell BK140.out 2).trans rfl, (blk_cell BK140.out 3).trans rfl, ((HB.out.cell (World.block_lt_of_cell? w _ hw146_0)).trans hw146_0), ((HB.out.cell (World.block_lt_of_cell? w _ hw148_0)).trans hw148_0)⟩ (fun hHeld => ?_)
    clear hK K
    refine norm_ (a' := ?_) ?_ ?_
    rotate_left
    ·show Act.put _ (some 69) _ = _
     simp only [Act.put, List.setIfInBounds_toArray, List.set_cons_zero, List.set_cons_succ, i64_w, i32_w]
     rfl
    refine purS_ (i := 19) (N := some 70) (fl_ 28 20) HT_.out ?_
    refine purS_ (i := 20) (N := some 71) (fl_ 28 21) HT_.out ?_
    refine purS_ (i := 21) (N := some 72) (fl_ 28 22) HT_.out ?_
    refine pure_ (i := 22) (N := some 73) (v := undef) (a' := ?_) (fl_ 28 23) rfl rfl (any_of HT_.out (by kernel_rfl)) (fun _ _ _ h => h) (Or.inr ⟨by rfl, rfl⟩) ?_ ?_
    rotate_left
    ·simp only [Act.put, List.setIfInBounds_toArray, List.set_cons_zero, List.set_cons_succ, i64_w, i32_w]
     rfl
    refine pure_ (i := 23) (N := some 74) (v := undef) (a' := ?_) (fl_ 28 24) rfl rfl (any_of HT_.out (by kernel_rfl)) (fun _ _ _ h => h) (Or.inr ⟨by rfl, rfl⟩) ?_ ?_
    rotate_left
    ·simp only [Act.put, List.setIfInBounds_toArray, List.set_cons_zero, List.set_cons_succ, i64_w, i32_w]
     rfl
    refine pure_ (i := 24) (N := some 75) (v := undef) (a' := ?_) (fl_ 28 25) rfl rfl (any_of HT_.out (by kernel_rfl)) (fun _ _ _ h => h) (Or.inr ⟨by rfl, rfl⟩) ?_ ?_
    rotate_left
    ·simp only [Act.put, List.setIfInBounds_toArray, List.set_cons_zero, List.set_cons_succ, i64_w, i32_w]
     rfl
    refine pure_ (i := 25) (N := some 76) (v := undef) (a' := ?_) (fl_ 28 26) rfl rfl (any_of HT_.out (by kernel_rfl)) (fun _ _ _ h => h) (Or.inr ⟨by rfl, rfl⟩) ?_ ?_
    rotate_left
    ·simp only [Act.put, List.setIfInBounds_toArray, List.set_cons_zero, List.set_cons_succ, i64_w, i32_w]
     rfl
    refine pure_ (i := 26) (N := some 77) (v := undef) (a' := ?_) (fl_ 28 27) rfl rfl (any_of HT_.out (by kernel_rfl)) (fun _ _ _ h => h) (Or.inr ⟨by rfl, rfl⟩) ?_ ?_
    rotate_left
    ·simp only [Act.put, List.setIfInBounds_toArray, List.set_cons_zero, List.set_cons_succ, i64_w, i32_w]
     rfl
    refine purS_ (i := 27) (N := some 78) (fl_ 28 28) HT_.out ?_
    refine done_ (done_of HT_.out (by kernel_rfl)) ?_
    try go_wp2
    go_ret3
    exact ⟨_, rtE_, by first | exact Kd.R_nil _ _ _ _ _ | exact Kd.N_nil _ _ _ _ _ | exact Kd.V_nil _ _ _ _ _ | exact Kd.Q_nil _ _ _ _ _ | exact Kd.S_nil _ _ _ _ _, below_to2 HB GE139.out GE140.out⟩
   subst c45
   rw [if_pos rfl] at H
   by_cases c46 : 2 < ((rd_L1 l4 x47_2).length : Int)
   rotate_left
   ·rw [if_neg c46] at H
    cases H
   rw [if_pos c46] at H
   have c46b0 := decide_eq_true c46
   have c46b1 : decide (2 < (rd_L1 l4 x47_2).length) = true := decide_eq_true (by omega)
   clear c46
   replace H := Option.bind_eq_some_iff.mp H
   obtain ⟨t151, A470, H⟩ := H
   (try dsimp only at H)
   have A47 := Aside0.mk A470
   clear A470
   by_cases c48 : t151 = true
   rotate_left
   ·replace c48 := Bool.eq_false_iff.mpr c48
    subst c48
    rw [if_neg ft_] at H
    simp only [Option.some.injEq, Prod.mk.injEq] at H
    obtain ⟨rfl, rfl, rfl⟩ := H
    have p145 : 0 ≤ (x47_2 : Int) := odt_
    have q145 : x47_2 < (l4.length : Int) := odt_
    obtain ⟨ad145, A145_0, c145_0, e145, hx145_0, hl145_0, hi145_0⟩ := at_L1 HR4.out x47_2 p145 q145
    cases e145
    replace hx145_0 := bx_ HB hx145_0
    have HR145_0 := Aside0.mk hi145_0
    have HC145_0 := Aside0.mk hl145_0
    clear hi145_0 hl145_0
    replace p145 := eq_true p145
    replace q145 := eq_true q145
    try go_wp2
    have n0_ := Aside0.mk (blk_drew BK139.out)
    have n1_ := Aside0.mk (blk_drew BK140.out)
    have n2_ := Aside0.mk (below_drew1 HB.out)
    clear BK139
    clear BK140
    clear HB
    have BK139 := n0_
    have BK140 := n1_
    have HB := n2_
    clear n0_ n1_ n2_
    have p146 : 0 ≤ (0 : Int) := (by omega)
    have q146 : 0 < ((rd_L1 l4 x47_2).length : Int) := odt_
    obtain ⟨ad146, e146, hx146_0⟩ := Kd.at_int HR145_0.out 0 p146 q146
    have hw146_0 := hx146_0
    (try rw [show ((0 : Int)).toNat = 0 from rfl] at hw146_0)
    (try rw [show 0 * 1 = 0 from rfl] at hw146_0)
    (try rw [Addr.add_zero'] at hw146_0)
    cases e146
    have qi146 : (0 < (rd_L1 l4 x47_2).length) = True := eq_true (by omega)
    (try rw [show ((0 : Int)).toNat = 0 from rfl] at hx146_0)
    (try rw [Addr.add_zero'] at hx146_0)
    replace hx146_0 := bx_ HB hx146_0
    replace p146 := eq_true p146
    replace q146 := eq_true q146
    have p148 : 0 ≤ (1 : Int) := (by omega)
    have q148 : 1 < ((rd_L1 l4 x47_2).length : Int) := odt_
    obtain ⟨ad148, e148, hx148_0⟩ := Kd.at_int HR145_0.out 1 p148 q148
    have hw148_0 := hx148_0
    (try rw [show ((1 : Int)).toNat = 1 from rfl] at hw148_0)
    (try rw [show 1 * 1 = 1 from rfl] at hw148_0)
    (try simp only [Nat.reduceMul, Nat.reduceEqDiff, Go.Addr.add, ↓reduceIte] at hw148_0)
    obtain rfl : ad146 = ad148 := (by injection e148)
    (try simp only [show (1 : Int).toNat = 1 from rfl, Nat.reduceMul, Nat.reduceEqDiff, Go.Addr.add, ↓reduceIte] at hx148_0)
    have qi148 : (1 < (rd_L1 l4 x47_2).length) = True := eq_true (by omega)
    (try rw [show ((1 : Int)).toNat = 1 from rfl] at hx148_0)
    replace hx148_0 := bx_ HB hx148_0
    replace p148 := eq_true p148
    replace q148 := eq_true q148
    have p150 : 0 ≤ (2 : Int) := (by omega)
    have q150 : 2 < ((rd_L1 l4 x47_2).length : Int) := odt_
    obtain ⟨ad150, e150, hx150_0⟩ := Kd.at_int HR145_0.out 2 p150 q150
    have hw150_0 := hx150_0
    (try rw [show ((2 : Int)).toNat = 2 from rfl] at hw150_0)
    (try rw [show 2 * 1 = 2 from rfl] at hw150_0)
    (try simp only [Nat.reduceMul, Nat.reduceEqDiff, Go.Addr.add, ↓reduceIte] at hw150_0)
    obtain rfl : ad146 = ad150 := (by injection e150)
    (try simp only [show (2 : Int).toNat = 2 from rfl, Nat.reduceMul, Nat.reduceEqDiff, Go.Addr.add, ↓reduceIte] at hx150_0)
    have qi150 : (2 < (rd_L1 l4 x47_2).length) = True := eq_true (by omega)
    (try rw [show ((2 : Int)).toNat = 2 from rfl] at hx150_0)
    replace hx150_0 := bx_ HB hx150_0
    replace p150 := eq_true p150
    replace q150 := eq_true q150
    refine start_ (n := 28) (S := fun w' => w'.cell? ⟨gb139, 0, none⟩ = some (.int .i64 a0_0) ∧ w'.cell? ⟨gb139, 1, none⟩ = some (.int .i64 a0_1) ∧ w'.cell? ⟨gb139, 2, none⟩ = some (.int .i64 a0_2) ∧ w'.cell? ⟨gb139, 3, none⟩ = some (.slice A0_3 l0_3.length c0_3) ∧ w'.cell? ⟨gb140, 0, none⟩ = some (.int .i64 a2_0) ∧ w'.cell? ⟨gb140, 1, none⟩ = some (.int .i64 a2_1) ∧ w'.cell? ⟨gb140, 2, none⟩ = some (.int .i64 a2_2) ∧ w'.cell? ⟨gb140, 3, none⟩ = some (.slice A2_3 l2_3.length c2_3) ∧ w'.cell? ad146 = some (.int .i64 (rd (rd_L1 l4 x47_2) 0)) ∧ w'.cell? ⟨ad146.block, ad146.off + 1, none⟩ = some (.int .i64 (rd (rd_L1 l4 x47_2) 1)) ∧ w'.cell? ⟨ad146.block, ad146.off + 2, none⟩ = some (.int .i64 (rd (rd_L1 l4 x47_2) 2))) (ds := []) (fr_ [0, 28]) (by kernel_rfl) rfl rfl ⟨(blk_cell BK139.out 0).trans rfl, (blk_cell BK139.out 1).trans rfl, (blk_cell BK139.out 2).trans rfl, (blk_cell BK139.out 3).trans rfl, (blk_cell BK140.out 0).trans rfl, (blk_cell BK140.out 1).trans rfl, (blk_cell BK140.out 2).trans rfl, (blk_cell BK140.out 3).trans rfl, ((HB.out.cell (World.block_lt_of_cell? w _ hw146_0)).trans hw146_0), ((HB.out.cell (World.block_lt_of_cell? w _ hw148_0)).trans hw148_0), ((HB.out.cell (World.block_lt_of_cell? w _ hw150_0)).trans hw150_0)⟩ (fun hHeld => ?_); refine with_tabW spec_BestChange.tab6 spec_BestChange.bits6 (fun HT_ HW_ => ?_)
    generalize wr.drew = w52 at BK139 BK140 HB hx146_0 hx148_0 hx150_0 hHeld ⊢
    refine purS_ (i := 0) (N := some 51) (fl_ 28 1) HT_.out ?_
    refine purS_ (i := 1) (N := some 52) (fl_ 28 2) HT_.out ?_
    refine purS_ (i := 2) (N := some 53) (fl_ 28 3) HT_.out ?_
    refine purS_ (i := 3) (N := some 54) (fl_ 28 4) HT_.out ?_
    refine purS_ (i := 5) (N := some 56) (fr_ [4, 1, 1, 22]) HT_.out ?_
    refine purS_ (i := 6) (N := some 57) (fr_ [4, 1, 2, 21]) HT_.out ?_
    refine purS_ (i := 7) (N := some 58) (fr_ [4, 1, 3, 20]) HT_.out ?_
    refine take_ (i := 4) (N := some 55) (v := ?_) (a' := ?_) (fr_ [8, 20]) rfl rfl (take_ofW HT_.out HW_.out (by kernel_rfl)) (fun _ _ _ h => h) (Or.inl ⟨by rfl, ?_⟩) hHeld ?_ ?_
    rotate_left
    ·rintro w' ⟨s0, s1, s2, s3, s4, s5, s6, s7, s8, s9, s10⟩
     go_simp
     with_reducible rfl
    rotate_left
    ·simp only [Act.put, List.setIfInBounds_toArray, List.set_cons_zero, List.set_cons_succ, i64_w, i32_w]
     rfl
    refine take_ (i := 8) (N := some 59) (v := ?_) (a' := ?_) (fr_ [9, 19]) rfl rfl (take_ofW HT_.out HW_.out (by kernel_rfl)) (fun _ _ _ h => h) (Or.inl ⟨by rfl, ?_⟩) hHeld ?_ ?_
    rotate_left
    ·rintro w' ⟨s0, s1, s2, s3, s4, s5, s6, s7, s8, s9, s10⟩
     go_simp
     with_reducible rfl
    rotate_left
    ·simp only [Act.put, List.setIfInBounds_toArray, List.set_cons_zero, List.set_cons_succ, i64_w, i32_w]
     rfl
    refine one_ (i := 9) (N := some 60) (fr_ [10, 18]) rfl rfl (one_of HT_.out (by kernel_rfl)) (by decide) (fun K hK => ?_)
    refine goes_ Try.func45 (by kernel_rfl) rfl #[.agg #[.int .i64 a0_0, .int .i64 a0_1, .int .i64 a0_2, .slice A0_3 l0_3.length c0_3], .int .i64 a1, .int .i64 (rd (rd_L1 l4 x47_2) 0)] (by rfl) rfl rfl am_ ?_
    with_reducible refine (spec_buRide.calls k2 a0_0 a0_1 a0_2 _ _ l0_3 a1 (rd (rd_L1 l4 x47_2) 0) true _ ?side1 ?side2 A41.out).mono ?_
    (case side1 => exact cb_ HR0_3 HB)
    (case side2 => exact HC0_3.out)
    rintro e w53 ⟨rfl, hb⟩
    refine ⟨_, rfl, ?_⟩
    have n0_ := Aside0.mk (blk_below (blk_to BK139) hb)
    have n1_ := Aside0.mk (blk_below (blk_to BK140) hb)
    have n2_ := Aside0.mk (below_step (below_to2 HB GE139.out GE140.out) hb)
    clear BK139
    clear BK140
    clear HB
    have BK139 := n0_
    have BK140 := n1_
    have HB := n2_
    clear n0_ n1_ n2_
    (try clear hb)
    (try clear hb2)
    (try clear hk)
    (try clear hi)
    refine hK.out _ _ ⟨(blk_cell BK139.out 0).trans rfl, (blk_cell BK139.out 1).trans rfl, (blk_cell BK139.out 2).trans rfl, (blk_cell BK139.out 3).trans rfl, (blk_cell BK140.out 0).trans rfl, (blk_cell BK140.out 1).trans rfl, (blk_cell BK140.out 2).trans rfl, (blk_cell BK140.out 3).trans rfl, ((HB.out.cell (World.block_lt_of_cell? w _ hw146_0)).trans hw146_0), ((HB.out.cell (World.block_lt_of_cell? w _ hw148_0)).trans hw148_0), ((HB.out.cell (World.block_lt_of_cell? w _ hw150_0)).trans hw150_0)⟩ (fun hHeld => ?_)
    clear hK K
    refine norm_ (a' := ?_) ?_ ?_
    rotate_left
    ·show Act.put _ (some 60) _ = _
     simp only [Act.put, List.setIfInBounds_toArray, List.set_cons_zero, List.set_cons_succ, i64_w, i32_w]
     rfl
    refine purS_ (i := 10) (N := some 61) (fl_ 28 11) HT_.out ?_
    refine purS_ (i := 11) (N := some 62) (fl_ 28 12) HT_.out ?_
    refine purS_ (i := 12) (N := some 63) (fl_ 28 13) HT_.out ?_
    refine purS_ (i := 14) (N := some 65) (fr_ [13, 1, 1, 13]) HT_.out ?_
    refine purS_ (i := 15) (N := some 66) (fr_ [13, 1, 2, 12]) HT_.out ?_
    refine purS_ (i := 17) (N := some 68) (fr_ [13, 1, 2, 1, 1, 10]) HT_.out ?_
    refine take_ (i := 13) (N := some 64) (v := ?_) (a' := ?_) (fr_ [16, 1, 1, 10]) rfl rfl (take_ofW HT_.out HW_.out (by kernel_rfl)) (fun _ _ _ h => h) (Or.inl ⟨by rfl, ?_⟩) hHeld ?_ ?_
    rotate_left
    ·rintro w' ⟨s0, s1, s2, s3, s4, s5, s6, s7, s8, s9, s10⟩
     go_simp
     with_reducible rfl
    rotate_left
    ·simp only [Act.put, List.setIfInBounds_toArray, List.set_cons_zero, List.set_cons_succ, i64_w, i32_w]
     rfl
    refine take_ (i := 16) (N := some 67) (v := ?_) (a' := ?_) (fr_ [18, 10]) rfl rfl (take_ofW HT_.out HW_.out (by kernel_rfl)) (fun _ _ _ h => h) (Or.inl ⟨by rfl, ?_⟩) hHeld ?_ ?_
    rotate_left
    ·rintro w' ⟨s0, s1, s2, s3, s4, s5, s6, s7, s8, s9, s10⟩
     go_simp
     with_reducible rfl
    rotate_left
    ·simp only [Act.put, List.setIfInBounds_toArray, List.set_cons_zero, List.set_cons_succ, i64_w, i32_w]
     rfl
    refine one_ (i := 18) (N := some 69) (fr_ [19, 9]) rfl rfl (one_of HT_.out (by kernel_rfl)) (by decide) (fun K hK => ?_)
    refine goes_ Try.func45 (by kernel_rfl) rfl #[.agg #[.int .i64 a2_0, .int .i64 a2_1, .int .i64 a2_2, .slice A2_3 l2_3.length c2_3], .int .i64 (rd (rd_L1 l4 x47_2) 1), .int .i64 a3] (by rfl) rfl rfl am_ ?_
    with_reducible refine (spec_buRide.calls k2 a2_0 a2_1 a2_2 _ _ l2_3 (rd (rd_L1 l4 x47_2) 1) a3 true _ ?side1 ?side2 A44.out).mono ?_
    (case side1 => exact cb_ HR2_3 HB)
    (case side2 => exact HC2_3.out)
    rintro e w54 ⟨rfl, hb⟩
    refine ⟨_, rfl, ?_⟩
    have n0_ := Aside0.mk (blk_below (blk_to BK139) hb)
    have n1_ := Aside0.mk (blk_below (blk_to BK140) hb)
    have n2_ := Aside0.mk (below_step (below_to2 HB GE139.out GE140.out) hb)
    clear BK139
    clear BK140
    clear HB
    have BK139 := n0_
    have BK140 := n1_
    have HB := n2_
    clear n0_ n1_ n2_
    (try clear hb)
    (try clear hb2)
    (try clear hk)
    (try clear hi)
    refine hK.out _ _ ⟨(blk_cell BK139.out 0).trans rfl, (blk_cell BK139.out 1).trans rfl, (blk_cell BK139.out 2).trans rfl, (blk_cell BK139.out 3).trans rfl, (blk_cell BK140.out 0).trans rfl, (blk_cell BK140.out 1).trans rfl, (blk_cell BK140.out 2).trans rfl, (blk_cell BK140.out 3).trans rfl, ((HB.out.cell (World.block_lt_of_cell? w _ hw146_0)).trans hw146_0), ((HB.out.cell (World.block_lt_of_cell? w _ hw148_0)).trans hw148_0), ((HB.out.cell (World.block_lt_of_cell? w _ hw150_0)).trans hw150_0)⟩ (fun hHeld => ?_)
    clear hK K
    refine norm_ (a' := ?_) ?_ ?_
    rotate_left
    ·show Act.put _ (some 69) _ = _
     simp only [Act.put, List.setIfInBounds_toArray, List.set_cons_zero, List.set_cons_succ, i64_w, i32_w]
     rfl
    refine purS_ (i := 19) (N := some 70) (fl_ 28 20) HT_.out ?_
    refine purS_ (i := 20) (N := some 71) (fl_ 28 21) HT_.out ?_
    refine purS_ (i := 21) (N := some 72) (fl_ 28 22) HT_.out ?_
    refine purS_ (i := 22) (N := some 73) (fl_ 28 23) HT_.out ?_
    refine purS_ (i := 23) (N := some 74) (fl_ 28 24) HT_.out ?_
    refine take_ (i := 24) (N := some 75) (v := ?_) (a' := ?_) (fr_ [25, 3]) rfl rfl (take_ofW HT_.out HW_.out (by kernel_rfl)) (fun _ _ _ h => h) (Or.inl ⟨by rfl, ?_⟩) hHeld ?_ ?_
    rotate_left
    ·rintro w' ⟨s0, s1, s2, s3, s4, s5, s6, s7, s8, s9, s10⟩
     go_simp
     with_reducible rfl
    rotate_left
    ·simp only [Act.put, List.setIfInBounds_toArray, List.set_cons_zero, List.set_cons_succ, i64_w, i32_w]
     rfl
    refine one_ (i := 25) (N := some 76) (fr_ [26, 2]) rfl rfl (one_of HT_.out (by kernel_rfl)) (by decide) (fun K hK => ?_)
    refine goes_ Try.func43 (by kernel_rfl) rfl #[.int .i64 (rd (rd_L1 l4 x47_2) 2), .int .i64 0, .int .i64 100] (by rfl) rfl rfl am_ ?_
    with_reducible refine (spec_l1In.calls (rd (rd_L1 l4 x47_2) 2) 0 100 false _ A47.out).mono ?_
    rintro e w' ⟨rfl, ⟨nd, rfl⟩⟩
    refine ⟨_, rfl, ?_⟩
    refine hK.out _ _ ⟨(blk_cell BK139.out 0).trans rfl, (blk_cell BK139.out 1).trans rfl, (blk_cell BK139.out 2).trans rfl, (blk_cell BK139.out 3).trans rfl, (blk_cell BK140.out 0).trans rfl, (blk_cell BK140.out 1).trans rfl, (blk_cell BK140.out 2).trans rfl, (blk_cell BK140.out 3).trans rfl, ((HB.out.cell (World.block_lt_of_cell? w _ hw146_0)).trans hw146_0), ((HB.out.cell (World.block_lt_of_cell? w _ hw148_0)).trans hw148_0), ((HB.out.cell (World.block_lt_of_cell? w _ hw150_0)).trans hw150_0)⟩ (fun hHeld => ?_)
    clear hK K
    refine norm_ (a' := ?_) ?_ ?_
    rotate_left
    ·show Act.put _ (some 76) _ = _
     simp only [Act.put, List.setIfInBounds_toArray, List.set_cons_zero, List.set_cons_succ, i64_w, i32_w]
     rfl
    refine purS_ (i := 26) (N := some 77) (fl_ 28 27) HT_.out ?_
    refine purS_ (i := 27) (N := some 78) (fl_ 28 28) HT_.out ?_
    refine done_ (done_of HT_.out (by kernel_rfl)) ?_
    try go_wp2
    go_ret3
    exact ⟨_, rtE_, by first | exact Kd.R_nil _ _ _ _ _ | exact Kd.N_nil _ _ _ _ _ | exact Kd.V_nil _ _ _ _ _ | exact Kd.Q_nil _ _ _ _ _ | exact Kd.S_nil _ _ _ _ _, below_to2 HB GE139.out GE140.out⟩
   subst c48
   rw [if_pos rfl] at H
   have H' := Aside0.mk H
   clear H
   have p145 : 0 ≤ (x47_2 : Int) := odt_
   have q145 : x47_2 < (l4.length : Int) := odt_
   obtain ⟨ad145, A145_0, c145_0, e145, hx145_0, hl145_0, hi145_0⟩ := at_L1 HR4.out x47_2 p145 q145
   cases e145
   replace hx145_0 := bx_ HB hx145_0
   have HR145_0 := Aside0.mk hi145_0
   have HC145_0 := Aside0.mk hl145_0
   clear hi145_0 hl145_0
   replace p145 := eq_true p145
   replace q145 := eq_true q145
   try go_wp2
   have n0_ := Aside0.mk (blk_drew BK139.out)
   have n1_ := Aside0.mk (blk_drew BK140.out)
   have n2_ := Aside0.mk (below_drew1 HB.out)
   clear BK139
   clear BK140
   clear HB
   have BK139 := n0_
   have BK140 := n1_
   have HB := n2_
   clear n0_ n1_ n2_
   have p146 : 0 ≤ (0 : Int) := (by omega)
   have q146 : 0 < ((rd_L1 l4 x47_2).length : Int) := odt_
   obtain ⟨ad146, e146, hx146_0⟩ := Kd.at_int HR145_0.out 0 p146 q146
   have hw146_0 := hx146_0
   (try rw [show ((0 : Int)).toNat = 0 from rfl] at hw146_0)
   (try rw [show 0 * 1 = 0 from rfl] at hw146_0)
   (try rw [Addr.add_zero'] at hw146_0)
   cases e146
   have qi146 : (0 < (rd_L1 l4 x47_2).length) = True := eq_true (by omega)
   (try rw [show ((0 : Int)).toNat = 0 from rfl] at hx146_0)
   (try rw [Addr.add_zero'] at hx146_0)
   replace hx146_0 := bx_ HB hx146_0
   replace p146 := eq_true p146
   replace q146 := eq_true q146
   have p148 : 0 ≤ (1 : Int) := (by omega)
   have q148 : 1 < ((rd_L1 l4 x47_2).length : Int) := odt_
   obtain ⟨ad148, e148, hx148_0⟩ := Kd.at_int HR145_0.out 1 p148 q148
   have hw148_0 := hx148_0
   (try rw [show ((1 : Int)).toNat = 1 from rfl] at hw148_0)
   (try rw [show 1 * 1 = 1 from rfl] at hw148_0)
   (try simp only [Nat.reduceMul, Nat.reduceEqDiff, Go.Addr.add, ↓reduceIte] at hw148_0)
   obtain rfl : ad146 = ad148 := (by injection e148)
   (try simp only [show (1 : Int).toNat = 1 from rfl, Nat.reduceMul, Nat.reduceEqDiff, Go.Addr.add, ↓reduceIte] at hx148_0)
   have qi148 : (1 < (rd_L1 l4 x47_2).length) = True := eq_true (by omega)
   (try rw [show ((1 : Int)).toNat = 1 from rfl] at hx148_0)
   replace hx148_0 := bx_ HB hx148_0
   replace p148 := eq_true p148
   replace q148 := eq_true q148
   have p150 : 0 ≤ (2 : Int) := (by omega)
   have q150 : 2 < ((rd_L1 l4 x47_2).length : Int) := odt_
   obtain ⟨ad150, e150, hx150_0⟩ := Kd.at_int HR145_0.out 2 p150 q150
   have hw150_0 := hx150_0
   (try rw [show ((2 : Int)).toNat = 2 from rfl] at hw150_0)
   (try rw [show 2 * 1 = 2 from rfl] at hw150_0)
   (try simp only [Nat.reduceMul, Nat.reduceEqDiff, Go.Addr.add, ↓reduceIte] at hw150_0)
   obtain rfl : ad146 = ad150 := (by injection e150)
   (try simp only [show (2 : Int).toNat = 2 from rfl, Nat.reduceMul, Nat.reduceEqDiff, Go.Addr.add, ↓reduceIte] at hx150_0)
   have qi150 : (2 < (rd_L1 l4 x47_2).length) = True := eq_true (by omega)
   (try rw [show ((2 : Int)).toNat = 2 from rfl] at hx150_0)
   replace hx150_0 := bx_ HB hx150_0
   replace p150 := eq_true p150
   replace q150 := eq_true q150
   refine start_ (n := 28) (S := fun w' => w'.cell? ⟨gb139, 0, none⟩ = some (.int .i64 a0_0) ∧ w'.cell? ⟨gb139, 1, none⟩ = some (.int .i64 a0_1) ∧ w'.cell? ⟨gb139, 2, none⟩ = some (.int .i64 a0_2) ∧ w'.cell? ⟨gb139, 3, none⟩ = some (.slice A0_3 l0_3.length c0_3) ∧ w'.cell? ⟨gb140, 0, none⟩ = some (.int .i64 a2_0) ∧ w'.cell? ⟨gb140, 1, none⟩ = some (.int .i64 a2_1) ∧ w'.cell? ⟨gb140, 2, none⟩ = some (.int .i64 a2_2) ∧ w'.cell? ⟨gb140, 3, none⟩ = some (.slice A2_3 l2_3.length c2_3) ∧ w'.cell? ad146 = some (.int .i64 (rd (rd_L1 l4 x47_2) 0)) ∧ w'.cell? ⟨ad146.block, ad146.off + 1, none⟩ = some (.int .i64 (rd (rd_L1 l4 x47_2) 1)) ∧ w'.cell? ⟨ad146.block, ad146.off + 2, none⟩ = some (.int .i64 (rd (rd_L1 l4 x47_2) 2))) (ds := []) (fr_ [0, 28]) (by kernel_rfl) rfl rfl ⟨(blk_cell BK139.out 0).trans rfl, (blk_cell BK139.out 1).trans rfl, (blk_cell BK139.out 2).trans rfl, (blk_cell BK139.out 3).trans rfl, (blk_cell BK140.out 0).trans rfl, (blk_cell BK140.out 1).trans rfl, (blk_cell BK140.out 2).trans rfl, (blk_cell BK140.out 3).trans rfl, ((HB.out.cell (World.block_lt_of_cell? w _ hw146_0)).trans hw146_0), ((HB.out.cell (World.block_lt_of_cell? w _ hw148_0)).trans hw148_0), ((HB.out.cell (World.block_lt_of_cell? w _ hw150_0)).trans hw150_0)⟩ (fun hHeld => ?_); refine with_tabW spec_BestChange.tab6 spec_BestChange.bits6 (fun HT_ HW_ => ?_)
   generalize wr.drew = w49 at BK139 BK140 HB hx146_0 hx148_0 hx150_0 hHeld ⊢
   refine purS_ (i := 0) (N := some 51) (fl_ 28 1) HT_.out ?_
   refine purS_ (i := 1) (N := some 52) (fl_ 28 2) HT_.out ?_
   refine purS_ (i := 2) (N := some 53) (fl_ 28 3) HT_.out ?_
   refine purS_ (i := 3) (N := some 54) (fl_ 28 4) HT_.out ?_
   refine purS_ (i := 5) (N := some 56) (fr_ [4, 1, 1, 22]) HT_.out ?_
   refine purS_ (i := 6) (N := some 57) (fr_ [4, 1, 2, 21]) HT_.out ?_
   refine purS_ (i := 7) (N := some 58) (fr_ [4, 1, 3, 20]) HT_.out ?_
   refine take_ (i := 4) (N := some 55) (v := ?_) (a' := ?_) (fr_ [8, 20]) rfl rfl (take_ofW HT_.out HW_.out (by kernel_rfl)) (fun _ _ _ h => h) (Or.inl ⟨by rfl, ?_⟩) hHeld ?_ ?_
   rotate_left
   ·rintro w' ⟨s0, s1, s2, s3, s4, s5, s6, s7, s8, s9, s10⟩
    go_simp
    with_reducible rfl
   rotate_left
   ·simp only [Act.put, List.setIfInBounds_toArray, List.set_cons_zero, List.set_cons_succ, i64_w, i32_w]
    rfl
   refine take_ (i := 8) (N := some 59) (v := ?_) (a' := ?_) (fr_ [9, 19]) rfl rfl (take_ofW HT_.out HW_.out (by kernel_rfl)) (fun _ _ _ h => h) (Or.inl ⟨by rfl, ?_⟩) hHeld ?_ ?_
   rotate_left
   ·rintro w' ⟨s0, s1, s2, s3, s4, s5, s6, s7, s8, s9, s10⟩
    go_simp
    with_reducible rfl
   rotate_left
   ·simp only [Act.put, List.setIfInBounds_toArray, List.set_cons_zero, List.set_cons_succ, i64_w, i32_w]
    rfl
   refine one_ (i := 9) (N := some 60) (fr_ [10, 18]) rfl rfl (one_of HT_.out (by kernel_rfl)) (by decide) (fun K hK => ?_)
   refine goes_ Try.func45 (by kernel_rfl) rfl #[.agg #[.int .i64 a0_0, .int .i64 a0_1, .int .i64 a0_2, .slice A0_3 l0_3.length c0_3], .int .i64 a1, .int .i64 (rd (rd_L1 l4 x47_2) 0)] (by rfl) rfl rfl am_ ?_
   with_reducible refine (spec_buRide.calls k2 a0_0 a0_1 a0_2 _ _ l0_3 a1 (rd (rd_L1 l4 x47_2) 0) true _ ?side1 ?side2 A41.out).mono ?_
   (case side1 => exact cb_ HR0_3 HB)
   (case side2 => exact HC0_3.out)
   rintro e w50 ⟨rfl, hb⟩
   refine ⟨_, rfl, ?_⟩
   have n0_ := Aside0.mk (blk_below (blk_to BK139) hb)
   have n1_ := Aside0.mk (blk_below (blk_to BK140) hb)
   have n2_ := Aside0.mk (below_step (below_to2 HB GE139.out GE140.out) hb)
   clear BK139
   clear BK140
   clear HB
   have BK139 := n0_
   have BK140 := n1_
   have HB := n2_
   clear n0_ n1_ n2_
   (try clear hb)
   (try clear hb2)
   (try clear hk)
   (try clear hi)
   refine hK.out _ _ ⟨(blk_cell BK139.out 0).trans rfl, (blk_cell BK139.out 1).trans rfl, (blk_cell BK139.out 2).trans rfl, (blk_cell BK139.out 3).trans rfl, (blk_cell BK140.out 0).trans rfl, (blk_cell BK140.out 1).trans rfl, (blk_cell BK140.out 2).trans rfl, (blk_cell BK140.out 3).trans rfl, ((HB.out.cell (World.block_lt_of_cell? w _ hw146_0)).trans hw146_0), ((HB.out.cell (World.block_lt_of_cell? w _ hw148_0)).trans hw148_0), ((HB.out.cell (World.block_lt_of_cell? w _ hw150_0)).trans hw150_0)⟩ (fun hHeld => ?_)
   clear hK K
   refine norm_ (a' := ?_) ?_ ?_
   rotate_left
   ·show Act.put _ (some 60) _ = _
    simp only [Act.put, List.setIfInBounds_toArray, List.set_cons_zero, List.set_cons_succ, i64_w, i32_w]
    rfl
   refine purS_ (i := 10) (N := some 61) (fl_ 28 11) HT_.out ?_
   refine purS_ (i := 11) (N := some 62) (fl_ 28 12) HT_.out ?_
   refine purS_ (i := 12) (N := some 63) (fl_ 28 13) HT_.out ?_
   refine purS_ (i := 14) (N := some 65) (fr_ [13, 1, 1, 13]) HT_.out ?_
   refine purS_ (i := 15) (N := some 66) (fr_ [13, 1, 2, 12]) HT_.out ?_
   refine purS_ (i := 17) (N := some 68) (fr_ [13, 1, 2, 1, 1, 10]) HT_.out ?_
   refine take_ (i := 13) (N := some 64) (v := ?_) (a' := ?_) (fr_ [16, 1, 1, 10]) rfl rfl (take_ofW HT_.out HW_.out (by kernel_rfl)) (fun _ _ _ h => h) (Or.inl ⟨by rfl, ?_⟩) hHeld ?_ ?_
   rotate_left
   ·rintro w' ⟨s0, s1, s2, s3, s4, s5, s6, s7, s8, s9, s10⟩
    go_simp
    with_reducible rfl
   rotate_left
   ·simp only [Act.put, List.setIfInBounds_toArray, List.set_cons_zero, List.set_cons_succ, i64_w, i32_w]
    rfl
   refine take_ (i := 16) (N := some 67) (v := ?_) (a' := ?_) (fr_ [18, 10]) rfl rfl (take_ofW HT_.out HW_.out (by kernel_rfl)) (fun _ _ _ h => h) (Or.inl ⟨by rfl, ?_⟩) hHeld ?_ ?_
   rotate_left
   ·rintro w' ⟨s0, s1, s2, s3, s4, s5, s6, s7, s8, s9, s10⟩
    go_simp
    with_reducible rfl
   rotate_left
   ·simp only [Act.put, List.setIfInBounds_toArray, List.set_cons_zero, List.set_cons_succ, i64_w, i32_w]
    rfl
   refine one_ (i := 18) (N := some 69) (fr_ [19, 9]) rfl rfl (one_of HT_.out (by kernel_rfl)) (by decide) (fun K hK => ?_)
   refine goes_ Try.func45 (by kernel_rfl) rfl #[.agg #[.int .i64 a2_0, .int .i64 a2_1, .int .i64 a2_2, .slice A2_3 l2_3.length c2_3], .int .i64 (rd (rd_L1 l4 x47_2) 1), .int .i64 a3] (by rfl) rfl rfl am_ ?_
   with_reducible refine (spec_buRide.calls k2 a2_0 a2_1 a2_2 _ _ l2_3 (rd (rd_L1 l4 x47_2) 1) a3 true _ ?side1 ?side2 A44.out).mono ?_
   (case side1 => exact cb_ HR2_3 HB)
   (case side2 => exact HC2_3.out)
   rintro e w51 ⟨rfl, hb⟩
   refine ⟨_, rfl, ?_⟩
   have n0_ := Aside0.mk (blk_below (blk_to BK139) hb)
   have n1_ := Aside0.mk (blk_below (blk_to BK140) hb)
   have n2_ := Aside0.mk (below_step (below_to2 HB GE139.out GE140.out) hb)
   clear BK139
   clear BK140
   clear HB
   have BK139 := n0_
   have BK140 := n1_
   have HB := n2_
   clear n0_ n1_ n2_
   (try clear hb)
   (try clear hb2)
   (try clear hk)
   (try clear hi)
   refine hK.out _ _ ⟨(blk_cell BK139.out 0).trans rfl, (blk_cell BK139.out 1).trans rfl, (blk_cell BK139.out 2).trans rfl, (blk_cell BK139.out 3).trans rfl, (blk_cell BK140.out 0).trans rfl, (blk_cell BK140.out 1).trans rfl, (blk_cell BK140.out 2).trans rfl, (blk_cell BK140.out 3).trans rfl, ((HB.out.cell (World.block_lt_of_cell? w _ hw146_0)).trans hw146_0), ((HB.out.cell (World.block_lt_of_cell? w _ hw148_0)).trans hw148_0), ((HB.out.cell (World.block_lt_of_cell? w _ hw150_0)).trans hw150_0)⟩ (fun hHeld => ?_)
   clear hK K
   refine norm_ (a' := ?_) ?_ ?_
   rotate_left
   ·show Act.put _ (some 69) _ = _
    simp only [Act.put, List.setIfInBounds_toArray, List.set_cons_zero, List.set_cons_succ, i64_w, i32_w]
    rfl
   refine purS_ (i := 19) (N := some 70) (fl_ 28 20) HT_.out ?_
   refine purS_ (i := 20) (N := some 71) (fl_ 28 21) HT_.out ?_
   refine purS_ (i := 21) (N := some 72) (fl_ 28 22) HT_.out ?_
   refine purS_ (i := 22) (N := some 73) (fl_ 28 23) HT_.out ?_
   refine purS_ (i := 23) (N := some 74) (fl_ 28 24) HT_.out ?_
   refine take_ (i := 24) (N := some 75) (v := ?_) (a' := ?_) (fr_ [25, 3]) rfl rfl (take_ofW HT_.out HW_.out (by kernel_rfl)) (fun _ _ _ h => h) (Or.inl ⟨by rfl, ?_⟩) hHeld ?_ ?_
   rotate_left
   ·rintro w' ⟨s0, s1, s2, s3, s4, s5, s6, s7, s8, s9, s10⟩
    go_simp
    with_reducible rfl
   rotate_left
   ·simp only [Act.put, List.setIfInBounds_toArray, List.set_cons_zero, List.set_cons_succ, i64_w, i32_w]
    rfl
   refine one_ (i := 25) (N := some 76) (fr_ [26, 2]) rfl rfl (one_of HT_.out (by kernel_rfl)) (by decide) (fun K hK => ?_)
   refine goes_ Try.func43 (by kernel_rfl) rfl #[.int .i64 (rd (rd_L1 l4 x47_2) 2), .int .i64 0, .int .i64 100] (by rfl) rfl rfl am_ ?_
   with_reducible refine (spec_l1In.calls (rd (rd_L1 l4 x47_2) 2) 0 100 true _ A47.out).mono ?_
   rintro e w' ⟨rfl, ⟨nd, rfl⟩⟩
   refine ⟨_, rfl, ?_⟩
   refine hK.out _ _ ⟨(blk_cell BK139.out 0).trans rfl, (blk_cell BK139.out 1).trans rfl, (blk_cell BK139.out 2).trans rfl, (blk_cell BK139.out 3).trans rfl, (blk_cell BK140.out 0).trans rfl, (blk_cell BK140.out 1).trans rfl, (blk_cell BK140.out 2).trans rfl, (blk_cell BK140.out 3).trans rfl, ((HB.out.cell (World.block_lt_of_cell? w _ hw146_0)).trans hw146_0), ((HB.out.cell (World.block_lt_of_cell? w _ hw148_0)).trans hw148_0), ((HB.out.cell (World.block_lt_of_cell? w _ hw150_0)).trans hw150_0)⟩ (fun hHeld => ?_)
   clear hK K
   refine norm_ (a' := ?_) ?_ ?_
   rotate_left
   ·show Act.put _ (some 76) _ = _
    simp only [Act.put, List.setIfInBounds_toArray, List.set_cons_zero, List.set_cons_succ, i64_w, i32_w]
    rfl
   refine purS_ (i := 26) (N := some 77) (fl_ 28 27) HT_.out ?_
   refine purS_ (i := 27) (N := some 78) (fl_ 28 28) HT_.out ?_
   refine done_ (done_of HT_.out (by kernel_rfl)) ?_
   try go_wp2
   go_roundg k2
   case measure => have := HJ6.out; have := HK2.out; omega
   case rel => exact ⟨(wrap64 (x47_2 + 1)), rt_, H', ⟨by have := HJ6.out; have := HK2.out; omega⟩, ⟨blk_to BK139⟩, ⟨blk_to BK140⟩, ⟨below_to2 HB GE139.out GE140.out⟩⟩
end Go.Proofs.Ythdnodmidbcgpaa.QC
