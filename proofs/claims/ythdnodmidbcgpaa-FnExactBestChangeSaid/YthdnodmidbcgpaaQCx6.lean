import Derived.Test.YthdnodmidbcgpaaQCx0
import Derived.Test.YthdnodmidbcgpaaQCx4
import Derived.Test.YthdnodmidbcgpaaQCx5
namespace Go.Proofs.Ythdnodmidbcgpaa.QC
open Go.Proofs.Ythdnodmidbcgpaa.X Go.RowKit Go.Proofs.YthdnodmidbcgpaaW.PrintWords Go.Proofs.YthdnodmidbcgpaaW.PrintLast Go.Proofs.YthdnodmidbcgpaaW.PrintMore
attribute [local go_sem] max2_int min2_int max_two min_two max_three min_three max_four min_four
set_option linter.unusedVariables false
set_option linter.unusedSimpArgs false
mutual
def impl_BestChange.j0 : Nat → Int → Int → List (List Int) → Int → Bool → Int → Int → Int → List Int → Int → Int → Int → List Int → Option (List Int × Int × Bool)
 | 0, _, _, _, _, _, _, _, _, _, _, _, _, _ => none
 | k + 1, x1, x3, x4, x5, x46, x224000, x224001, x224002, x224003, x225000, x225001, x225002, x225003 => if x46 = true then (some (([] : List Int), 0, false)) else (impl_BestChange.l0 k x1 x3 x4 x5 x4 (x4.length : Int) 0 x224000 x224001 x224002 x224003 x225000 x225001 x225002 x225003)
def impl_BestChange.l0 : Nat → Int → Int → List (List Int) → Int → List (List Int) → Int → Int → Int → Int → Int → List Int → Int → Int → Int → List Int → Option (List Int × Int × Bool)
 | 0, _, _, _, _, _, _, _, _, _, _, _, _, _, _, _ => none
 | k + 1, x1, x3, x4, x5, x47, x48, x49, x224000, x224001, x224002, x224003, x225000, x225001, x225002, x225003 => if x49 < x48 then (if 0 ≤ x49 then (if x49 < (x47.length : Int) then (if ((rd_L1 x47 x49).length : Int) = 3 then (if 0 < ((rd_L1 x47 x49).length : Int) then ((impl_hasStops.f k x224000 x224001 x224002 x224003 (([rd (rd_L1 x47 x49) 0] : List Int))).bind fun t240 => (if t240 = true then (if 1 < ((rd_L1 x47 x49).length : Int) then ((impl_hasStops.f k x225000 x225001 x225002 x225003 (([rd (rd_L1 x47 x49) 1] : List Int))).bind fun t245 => (if t245 = true then (if x1 ≥ (rd (rd_L1 x47 x49) 0) then (some (([] : List Int), 0, false)) else (if (rd (rd_L1 x47 x49) 1) ≥ x3 then (some (([] : List Int), 0, false)) else (if 2 < ((rd_L1 x47 x49).length : Int) then ((impl_isWalk.f (rd (rd_L1 x47 x49) 2)).bind fun t249 => (if t249 = true then (impl_BestChange.l0 k x1 x3 x4 x5 x47 x48 (wrap64 (x49 + 1)) x224000 x224001 x224002 x224003 x225000 x225001 x225002 x225003) else (some (([] : List Int), 0, false)))) else (none)))) else (some (([] : List Int), 0, false)))) else (none)) else (some (([] : List Int), 0, false)))) else (none)) else (some (([] : List Int), 0, false))) else (none)) else (none)) else (impl_BestChange.l1 k x1 x3 x5 ([] : List Int) 0 x4 (x4.length : Int) 0 x224000 x224001 x224002 x224003 x225000 x225001 x225002 x225003)
def impl_BestChange.l1 : Nat → Int → Int → Int → List Int → Int → List (List Int) → Int → Int → Int → Int → Int → List Int → Int → Int → Int → List Int → Option (List Int × Int × Bool)
 | 0, _, _, _, _, _, _, _, _, _, _, _, _, _, _, _, _ => none
 | k + 1, x1, x3, x5, x17, x18, x96, x97, x98, x224000, x224001, x224002, x224003, x225000, x225001, x225002, x225003 => if x98 < x97 then (if 0 ≤ x98 then (if x98 < (x96.length : Int) then (if 0 < ((rd_L1 x96 x98).length : Int) then (if 1 < ((rd_L1 x96 x98).length : Int) then (if 2 < ((rd_L1 x96 x98).length : Int) then ((impl_changeAt.f x224000 x224001 x224002 x224003 x1 (rd (rd_L1 x96 x98) 0) x225000 x225001 x225002 x225003 (rd (rd_L1 x96 x98) 1) x3 (rd (rd_L1 x96 x98) 2) x5).bind fun bt254 => (if bt254.2.2 = true then (if (x17.length : Int) = 0 then (impl_BestChange.l1 k x1 x3 x5 (rd_L1 x96 x98) bt254.2.1 x96 x97 (wrap64 (x98 + 1)) x224000 x224001 x224002 x224003 x225000 x225001 x225002 x225003) else (if bt254.2.1 < x18 then (impl_BestChange.l1 k x1 x3 x5 (rd_L1 x96 x98) bt254.2.1 x96 x97 (wrap64 (x98 + 1)) x224000 x224001 x224002 x224003 x225000 x225001 x225002 x225003) else (impl_BestChange.l1 k x1 x3 x5 x17 x18 x96 x97 (wrap64 (x98 + 1)) x224000 x224001 x224002 x224003 x225000 x225001 x225002 x225003))) else (impl_BestChange.l1 k x1 x3 x5 x17 x18 x96 x97 (wrap64 (x98 + 1)) x224000 x224001 x224002 x224003 x225000 x225001 x225002 x225003))) else (none)) else (none)) else (none)) else (none)) else (none)) else ((slices_Clone_int_int.f x17).bind fun t257 => (some (t257, x18, !decide ((x17.length : Int) = 0))))
end
def impl_BestChange.f (k : Nat) (a0_0 : Int) (a0_1 : Int) (a0_2 : Int) (l0_3 : List Int) (a1 : Int) (a2_0 : Int) (a2_1 : Int) (a2_2 : Int) (l2_3 : List Int) (a3 : Int) (l4 : List (List Int)) (a5 : Int) : Option (List Int × Int × Bool) := (impl_hasStops.f k a0_0 a0_1 a0_2 l0_3 (([a1] : List Int))).bind fun t228 => (if t228 = true then ((impl_hasStops.f k a2_0 a2_1 a2_2 l2_3 (([a3] : List Int))).bind fun t232 => (if t232 = true then ((impl_within.f (l4.length : Int) 1 20).bind fun t233 => (if t233 = true then ((impl_isMinute.f a5).bind fun t234 => (impl_BestChange.j0 k a1 a3 l4 a5 (!t234) a0_0 a0_1 a0_2 l0_3 a2_0 a2_1 a2_2 l2_3)) else (impl_BestChange.j0 k a1 a3 l4 a5 true a0_0 a0_1 a0_2 l0_3 a2_0 a2_1 a2_2 l2_3))) else (impl_BestChange.j0 k a1 a3 l4 a5 true a0_0 a0_1 a0_2 l0_3 a2_0 a2_1 a2_2 l2_3))) else (impl_BestChange.j0 k a1 a3 l4 a5 true a0_0 a0_1 a0_2 l0_3 a2_0 a2_1 a2_2 l2_3))
def impl_BestChange.T6 : Bool × List (List Nat × List Nat) := (true, [([], []), ([0], [0]), ([1], [1]), ([2], [2]), ([3], [3]), ([3], [3]), ([5, 3], [3, 5]), ([6, 3], [3, 6]), ([7, 3], [3, 7]), ([4, 8, 3, 3], [3, 4, 8]), ([9, 3], [3, 9]), ([3, 10], [3, 10]), ([11, 9], [11]), ([12], [12]), ([12], [12]), ([14, 12], [12, 14]), ([15, 12], [12, 15]), ([16, 12], [12, 16]), ([13, 17, 12, 12], [12, 13, 17]), ([18, 12], [12, 18]), ([12, 19], [12, 19]), ([20, 18], [20]), ([21], [21]), ([21], [21]), ([23, 21], [21, 23]), ([24, 21], [21, 24]), ([22, 25, 21], [21, 22, 25]), ([21, 26], [21, 26]), ([27, 21], [27]), ([28], [28]), ([29, 28], [28, 29]), ([30, 28], [28, 30]), ([28], [28]), ([31, 32, 28], [28, 31, 32]), ([28, 33], [28, 33]), ([34, 28], [34]), ([35], [35]), ([36, 35], [35, 36]), ([37, 35], [35, 37]), ([38, 35, 35], [35, 38]), ([39, 35], [35, 39]), ([35, 40], [35, 40])])
def impl_BestChange.B6 : List Nat := [0, 1, 3, 7, 15, 15, 47, 111, 239, 511, 1023, 2047, 4095, 8191, 8191, 24575, 57343, 122879, 262143, 524287, 1048575, 2097151, 4194303, 4194303, 12582911, 29360127, 67108863, 134217727, 268435455, 536870911, 1073741823, 2147483647, 536870911, 8589934591, 17179869183, 34359738367, 68719476735, 137438953471, 274877906943, 549755813887, 1099511627775, 2199023255551]
theorem impl_BestChange.tab6 : rtab .any (opsOf Try.f10 6) = impl_BestChange.T6 := by kernel_rfl
theorem impl_BestChange.bits6 : waitsOk impl_BestChange.T6.2 impl_BestChange.B6 = true := by kernel_rfl
def impl_BestChange.T14 : Bool × List (List Nat × List Nat) := (true, [([], []), ([], []), ([], []), ([2], [2]), ([3], [3]), ([], []), ([], []), ([6], [6]), ([7], [7]), ([], []), ([], []), ([10], [10]), ([11], [11]), ([], []), ([0, 1, 4, 5, 8, 9, 12, 13], [0, 1, 4, 5, 8, 9, 12, 13]), ([14], [14]), ([15], [15]), ([15], [15]), ([15], [15]), ([16, 14, 0, 1, 2, 3, 4, 5, 6, 7, 8, 9, 10, 11, 12, 13, 14, 15, 16], [16]), ([17, 19, 0, 1, 2, 3, 4, 5, 6, 7, 8, 9, 10, 11, 12, 13, 14, 15, 16, 17, 19], [17]), ([18, 20, 0, 1, 2, 3, 4, 5, 6, 7, 8, 9, 10, 11, 12, 13, 14, 15, 16, 17, 18, 19, 20], [18])])
def impl_BestChange.B14 : List Nat := [0, 0, 0, 4, 12, 0, 0, 64, 192, 0, 0, 1024, 3072, 0, 16383, 32767, 65535, 65535, 65535, 131071, 786431, 2097151]
theorem impl_BestChange.tab14 : rtab .any (opsOf Try.f10 14) = impl_BestChange.T14 := by kernel_rfl
theorem impl_BestChange.bits14 : waitsOk impl_BestChange.T14.2 impl_BestChange.B14 = true := by kernel_rfl
def impl_BestChange.nz (v : Value) (l : List Int) : Prop := ∀ A m c, v = .slice A m c → A.isNone = ((l.length : Int) == 0)
theorem impl_BestChange.nz_nil : impl_BestChange.nz (.slice none 0 0) [] := by
 intro A m c h
 injection h with h _ _
 subst h
 rfl
theorem impl_BestChange.nz_row {w : World} {A : Option Addr} {m c : Nat} {l : List Int} (h : Kd.C (Kd.int .i64) w A l.length l) (h0 : 0 < (l.length : Int)) : impl_BestChange.nz (.slice A m c) l := by
 intro A' m' c' e
 injection e with e _ _
 subst e
 obtain ⟨_, _, h3⟩ := h
 obtain ⟨_, h4, _⟩ := h3 (by omega)
 subst h4
 exact (beq_eq_false_iff_ne.mpr (by omega)).symm
set_option maxHeartbeats 8000000 in
set_option maxRecDepth 100000 in
theorem impl_BestChange.calls (k : Nat) (a0_0 : Int) (a0_1 : Int) (a0_2 : Int) (A0_3 : Option Addr) (c0_3 : Nat) (l0_3 : List Int) (a1 : Int) (a2_0 : Int) (a2_1 : Int) (a2_2 : Int) (A2_3 : Option Addr) (c2_3 : Nat) (l2_3 : List Int) (a3 : Int) (P4_ : Nat → Prop) (A4 : Option Addr) (c4 : Nat) (l4 : List (List Int)) (a5 : Int) (r1 : List Int) (r2 : Int) (r3 : Bool) (w : World) (hr0_3 : Kd.C (Kd.int .i64) w A0_3 l0_3.length l0_3) (hc0_3 : l0_3.length ≤ c0_3) (hr2_3 : Kd.C (Kd.int .i64) w A2_3 l2_3.length l2_3) (hc2_3 : l2_3.length ≤ c2_3) (hs4 : Kd.V (Kd.slice 3 (Kd.int .i64)) 22 w w.heap.size (fun k_ => P4_ k_) (.slice A4 l4.length c4) l4) (h : impl_BestChange.f k a0_0 a0_1 a0_2 l0_3 a1 a2_0 a2_1 a2_2 l2_3 a3 l4 a5 = some (r1, r2, r3)) :
  Calls Try.prog 10 #[.agg #[.int .i64 a0_0, .int .i64 a0_1, .int .i64 a0_2, .slice A0_3 l0_3.length c0_3], .int .i64 a1, .agg #[.int .i64 a2_0, .int .i64 a2_1, .int .i64 a2_2, .slice A2_3 l2_3.length c2_3], .int .i64 a3, .slice A4 l4.length c4, .int .i64 a5] w fun e w' => ∃ Aa : Value, e = .returned (.tuple #[Aa, .int .i64 r2, .bool r3]) ∧ Kd.R (Kd.int .i64) 3 w' w.heap.size (fun k_ => (w.heap.size ≤ k_)) Aa r1 ∧ Below w.heap.size w w' := by
 have qe_ : ∀ (w : World) (a : Option Addr) (n c n' c' : Nat), (binOp .eql 22 (.slice a n c) (.slice none n' c')).run Try.prog w = .ok (.bool a.isNone) w := fun w a n c n' c' => Lib.run_eql_slice_nil w _ _ a n c n' c' Try.underlying22
 have qn_ : ∀ (w : World) (a : Option Addr) (n c n' c' : Nat), (binOp .neq 22 (.slice a n c) (.slice none n' c')).run Try.prog w = .ok (.bool (!a.isNone)) w := fun w a n c n' c' => by simp only [binOp]; simp [Op.equal, Op.maxDepth, Lib.run_equalIn_slice_nil w 9999 _ _ a n c n' c' Try.underlying22]
 have hu30 := Try.underlying30
 have HR0_3 := Aside0.mk hr0_3
 have HC0_3 := Aside0.mk hc0_3
 clear hr0_3 hc0_3
 have HR2_3 := Aside0.mk hr2_3
 have HC2_3 := Aside0.mk hc2_3
 clear hr2_3 hc2_3
 have HO4 := Aside0.mk (show Kd.V (Kd.slice 3 (Kd.int .i64)) 22 w w.heap.size (fun k_ => (P4_ k_ ∨ w.heap.size ≤ k_)) (.slice A4 l4.length c4) l4 from Kd.V_mono hs4 (fun k_ hk => .inl hk))
 have HB := Aside0.mk (Below.refl w.heap.size w)
 have H := h
 unfold impl_BestChange.f at H
 clear h
 have HC7 := Aside0.mk H
 clear H
 go_enter Try.func10, Try.ntmps10
 go_upto_region 1 with (first | ((with_reducible refine gate_dst (N := 6) rfl ?_); (try (refine gate_guard (by rfl) ?_; dsimp only)); refine box_event ?hg (N := 6) ?hd (cs := #[.int .i64 a0_0, .int .i64 a0_1, .int .i64 a0_2, .slice A0_3 l0_3.length c0_3]) (t := 30) ?hr ?_; (case hd => rfl); (case hg => rfl); (case hr => first | (go_simp; done) | (go_simp; rfl)); intro gb223 hg w8 hbox hb; have n0_ := Aside0.mk (Kd.V_below (Kd.V_elderB (vd_to HO4) gb223 (Nat.le_of_eq hg.symm)) hb); have n1_ := Aside0.mk (below_step (below_to HB) hb); have n2_ := Aside0.mk (hbox); have n3_ := Aside0.mk ((by rw [hg]; exact (below_size (below_to HB)) : w.heap.size ≤ gb223)); have n4_ := Aside0.mk ((by rw [hg]; exact (below_size (below_to HB)) : w.heap.size ≤ gb223)); clear HO4; clear HB; have HO4 := n0_; have HB := n1_; have BK223 := n2_; have GW223 := n3_; have GE223 := n4_; clear n0_ n1_ n2_ n3_ n4_; clear hb hbox hg) | ((with_reducible refine gate_dst (N := 8) rfl ?_); (try (refine gate_guard (by rfl) ?_; dsimp only)); refine box_event ?hg (N := 8) ?hd (cs := #[.int .i64 a2_0, .int .i64 a2_1, .int .i64 a2_2, .slice A2_3 l2_3.length c2_3]) (t := 30) ?hr ?_; (case hd => rfl); (case hg => rfl); (case hr => first | (go_simp; done) | (go_simp; rfl)); intro gb224 hg w9 hbox hb; have n0_ := Aside0.mk (Kd.V_below (Kd.V_elderB (vd_to HO4) gb224 (Nat.le_of_eq hg.symm)) hb); have n1_ := Aside0.mk (blk_below (blk_to BK223) hb); have n2_ := Aside0.mk (below_step (below_to1 HB GE223.out) hb); have n3_ := Aside0.mk (hbox); have n4_ := Aside0.mk ((by rw [hg]; exact (below_size (below_to1 HB GE223.out)) : w.heap.size ≤ gb224)); have n5_ := Aside0.mk ((by rw [hg]; exact (below_size (below_to1 HB GE223.out)) : w.heap.size ≤ gb224)); have n6_ := Aside0.mk ((by rw [hg]; exact Nat.ne_of_lt (blk_lt (blk_to BK223)) : gb223 ≠ gb224)); have n7_ := Aside0.mk ((by rw [hg]; exact Nat.ne_of_gt (blk_lt (blk_to BK223)) : gb224 ≠ gb223)); clear HO4; clear BK223; clear HB; have HO4 := n0_; have BK223 := n1_; have HB := n2_; have BK224 := n3_; have GW224 := n4_; have GE224 := n5_; have NB223_224 := n6_; have NB224_223 := n7_; clear n0_ n1_ n2_ n3_ n4_ n5_ n6_ n7_; clear hb hbox hg))
 (try simp only [Act.put, List.setIfInBounds_toArray, List.set_cons_zero, List.set_cons_succ])
 go_cut [46] (fun v46 wc => ∃ (kq : Nat) (x46_6 : Bool), v46 = .bool x46_6 ∧ Aside0 (impl_BestChange.j0 kq a1 a3 l4 a5 x46_6 a0_0 a0_1 a0_2 l0_3 a2_0 a2_1 a2_2 l2_3 = some (r1, r2, r3)) ∧ Aside0 (kq ≤ k) ∧ Aside0 (Kd.V (Kd.slice 3 (Kd.int .i64)) 22 wc w.heap.size (fun k_ => (P4_ k_ ∨ w.heap.size ≤ k_) ∧ k_ ≠ gb223 ∧ k_ ≠ gb224) (.slice A4 l4.length c4) l4) ∧ Aside0 (wc.heap[gb223]? = some (.cells #[.int .i64 a0_0, .int .i64 a0_1, .int .i64 a0_2, (.slice A0_3 l0_3.length c0_3)] 30 (0, 0))) ∧ Aside0 (wc.heap[gb224]? = some (.cells #[.int .i64 a2_0, .int .i64 a2_1, .int .i64 a2_2, (.slice A2_3 l2_3.length c2_3)] 30 (0, 0))) ∧ Aside0 (Below w.heap.size w wc))
 case first =>
  have H := HC7.out
  clear HC7
  obtain ⟨y225, hy225⟩ : ∃ y_ : List Int, y_ = (([a1] : List Int)) := ⟨_, rfl⟩
  replace H : ((impl_hasStops.f k a0_0 a0_1 a0_2 l0_3 y225).bind fun t228 => (if t228 = true then ((impl_hasStops.f k a2_0 a2_1 a2_2 l2_3 (([a3] : List Int))).bind fun t232 => (if t232 = true then ((impl_within.f (l4.length : Int) 1 20).bind fun t233 => (if t233 = true then ((impl_isMinute.f a5).bind fun t234 => (impl_BestChange.j0 k a1 a3 l4 a5 (!t234) a0_0 a0_1 a0_2 l0_3 a2_0 a2_1 a2_2 l2_3)) else (impl_BestChange.j0 k a1 a3 l4 a5 true a0_0 a0_1 a0_2 l0_3 a2_0 a2_1 a2_2 l2_3))) else (impl_BestChange.j0 k a1 a3 l4 a5 true a0_0 a0_1 a0_2 l0_3 a2_0 a2_1 a2_2 l2_3))) else (impl_BestChange.j0 k a1 a3 l4 a5 true a0_0 a0_1 a0_2 l0_3 a2_0 a2_1 a2_2 l2_3))) = some (r1, r2, r3) := by first | (rw [hy225]; with_reducible exact H) | (have H2_ := (Option.bind_some _ _).symm.trans H; rw [hy225]; with_reducible exact H2_) | (have H2_ := (Option.bind_some _ _).symm.trans H; with_reducible exact H2_) | with_reducible exact H | (rw [hy225]; exact H) | exact H
  have Ny225 := Aside0.mk hy225
  clear hy225
  replace H := Option.bind_eq_some_iff.mp H
  obtain ⟨t228, A100, H⟩ := H
  (try dsimp only at H)
  have A10 := Aside0.mk A100
  clear A100
  by_cases c11 : t228 = true
  rotate_left
  ·replace c11 := Bool.eq_false_iff.mpr c11
   subst c11
   rw [if_neg ft_] at H
   have H' := Aside0.mk H
   clear H
   have hnb50 := NB223_224.out
   have hnc50 := NB224_223.out
   have hcz51_0 : w9.cell? ⟨gb223, 0, none⟩ = some (.int .i64 a0_0) := (blk_cell BK223.out 0).trans rfl
   have hcz51_1 : w9.cell? ⟨gb223, 1, none⟩ = some (.int .i64 a0_1) := (blk_cell BK223.out 1).trans rfl
   have hcz51_2 : w9.cell? ⟨gb223, 2, none⟩ = some (.int .i64 a0_2) := (blk_cell BK223.out 2).trans rfl
   have hcz51_3 : w9.cell? ⟨gb223, 3, none⟩ = some (.slice A0_3 l0_3.length c0_3) := (blk_cell BK223.out 3).trans rfl
   have hfz51_0 := blk_frozen BK223.out 0
   have hfz51_1 := blk_frozen BK223.out 1
   have hfz51_2 := blk_frozen BK223.out 2
   have hfz51_3 := blk_frozen BK223.out 3
   go_wp2_with (first | ((with_reducible refine gate_dst (N := 26) rfl ?_); (try (refine gate_guard (by rfl) ?_; dsimp only)); refine Kd.R_lit (Kd.int .i64) _ 3 ?hg (N := 26) ?hd (xs := ([a1] : List Int)) (inner := [.int .i64 a1]) (ok := fun _ => True) (okp := fun _ => True) ?hr ?hp (fun _ hk => hk) trivial (Below.refl _ _) (Nat.le_refl _) (by simp) ?_; (case hd => rfl); (case hg => rfl); (case hr => first | (go_simp; done) | (go_simp; rfl)); (case hp => exact (Reps.one (show Kd.M (Kd.int .i64) _ _ _ a1 [.int .i64 a1] from rfl) (Reps.none _ _))); intro v226 w52 ho53 hb hg_ hnew_; clear hg_ hnew_; (first | rw [← Ny225.out] at ho53 | (simp only [Int.reduceToNat] at ho53; rw [← Ny225.out] at ho53)); replace HO4 := Aside0.mk (Kd.V_elder' (vd_to HO4) (Kd.R_base ho53) hb); have HO227 := Aside0.mk (Kd.R_lower (Kd.R_newM (M := fun k_ => (w.heap.size ≤ k_)) ho53 (below_size (below_to2 HB GE223.out GE224.out)) (fun k_ h_ => h_)) (below_size (below_to2 HB GE223.out GE224.out))); replace BK223 := Aside0.mk (blk_below (blk_to BK223) hb); replace BK224 := Aside0.mk (blk_below (blk_to BK224) hb); replace HB := Aside0.mk (below_step (below_to2 HB GE223.out GE224.out) hb); clear hb ho53; obtain ⟨Ao54, co54, eo54⟩ := Kd.R_slice HO227.out; subst eo54) | ((with_reducible refine gate_callee (f := 49) rfl ?_); refine goesL_ (some 27) rfl rfl Try.func49 (by kernel_rfl) rfl #[.agg #[.int .i64 a0_0, .int .i64 a0_1, .int .i64 a0_2, .slice A0_3 l0_3.length c0_3], .slice Ao54 y225.length co54] rfl am_ ?_; (with_reducible refine (impl_hasStops.calls k a0_0 a0_1 a0_2 _ _ l0_3 _ _ y225 false _ ?side1 ?side2 ?side3 ?side4 A10.out).mono ?_); (case side1 => exact cb_ HR0_3 HB); (case side2 => exact HC0_3.out); (case side3 => exact cR_ HO227); (case side4 => exact (Kd.R_reads' HO227.out).2.1); rintro e w55 ⟨rfl, hb⟩; refine ⟨_, rfl, ?_⟩; replace HO4 := Aside0.mk (Kd.V_below (vd_to HO4) hb); replace HO227 := Aside0.mk (Kd.R_below (kd_to HO227) hb); replace BK223 := Aside0.mk (blk_below (blk_to BK223) hb); replace BK224 := Aside0.mk (blk_below (blk_to BK224) hb); replace HB := Aside0.mk (below_step (below_to2 HB GE223.out GE224.out) hb); clear hb))
   go_meet
   case rel => exact ⟨_, (true), rt_, H', ⟨by first | omega | exact Nat.le_refl _⟩, ⟨by (with_reducible repeat (first | apply Kd.V_alloc | apply Kd.V_drewN | apply Kd.V_drew)); exact Kd.V_mono HO4.out (fun _ hk => ⟨hk.1.1.1, ⟨hk.1.1.2, hk.1.2⟩⟩)⟩, ⟨blk_to BK223⟩, ⟨blk_to BK224⟩, ⟨below_to2 HB GE223.out GE224.out⟩⟩
  subst c11
  rw [if_pos rfl] at H
  obtain ⟨y229, hy229⟩ : ∃ y_ : List Int, y_ = (([a3] : List Int)) := ⟨_, rfl⟩
  replace H : ((impl_hasStops.f k a2_0 a2_1 a2_2 l2_3 y229).bind fun t232 => (if t232 = true then ((impl_within.f (l4.length : Int) 1 20).bind fun t233 => (if t233 = true then ((impl_isMinute.f a5).bind fun t234 => (impl_BestChange.j0 k a1 a3 l4 a5 (!t234) a0_0 a0_1 a0_2 l0_3 a2_0 a2_1 a2_2 l2_3)) else (impl_BestChange.j0 k a1 a3 l4 a5 true a0_0 a0_1 a0_2 l0_3 a2_0 a2_1 a2_2 l2_3))) else (impl_BestChange.j0 k a1 a3 l4 a5 true a0_0 a0_1 a0_2 l0_3 a2_0 a2_1 a2_2 l2_3))) = some (r1, r2, r3) := by first | (rw [hy229]; with_reducible exact H) | (have H2_ := (Option.bind_some _ _).symm.trans H; rw [hy229]; with_reducible exact H2_) | (have H2_ := (Option.bind_some _ _).symm.trans H; with_reducible exact H2_) | with_reducible exact H | (rw [hy229]; exact H) | exact H
  have Ny229 := Aside0.mk hy229
  clear hy229
  replace H := Option.bind_eq_some_iff.mp H
  obtain ⟨t232, A120, H⟩ := H
  (try dsimp only at H)
  have A12 := Aside0.mk A120
  clear A120
  by_cases c13 : t232 = true
  rotate_left
  ·replace c13 := Bool.eq_false_iff.mpr c13
   subst c13
   rw [if_neg ft_] at H
   have H' := Aside0.mk H
   clear H
   have hnb39 := NB223_224.out
   have hnc39 := NB224_223.out
   have hcz40_0 : w9.cell? ⟨gb223, 0, none⟩ = some (.int .i64 a0_0) := (blk_cell BK223.out 0).trans rfl
   have hcz40_1 : w9.cell? ⟨gb223, 1, none⟩ = some (.int .i64 a0_1) := (blk_cell BK223.out 1).trans rfl
   have hcz40_2 : w9.cell? ⟨gb223, 2, none⟩ = some (.int .i64 a0_2) := (blk_cell BK223.out 2).trans rfl
   have hcz40_3 : w9.cell? ⟨gb223, 3, none⟩ = some (.slice A0_3 l0_3.length c0_3) := (blk_cell BK223.out 3).trans rfl
   have hfz40_0 := blk_frozen BK223.out 0
   have hfz40_1 := blk_frozen BK223.out 1
   have hfz40_2 := blk_frozen BK223.out 2
   have hfz40_3 := blk_frozen BK223.out 3
   go_wp2_with (first | ((with_reducible refine gate_dst (N := 26) rfl ?_); (try (refine gate_guard (by rfl) ?_; dsimp only)); refine Kd.R_lit (Kd.int .i64) _ 3 ?hg (N := 26) ?hd (xs := ([a1] : List Int)) (inner := [.int .i64 a1]) (ok := fun _ => True) (okp := fun _ => True) ?hr ?hp (fun _ hk => hk) trivial (Below.refl _ _) (Nat.le_refl _) (by simp) ?_; (case hd => rfl); (case hg => rfl); (case hr => first | (go_simp; done) | (go_simp; rfl)); (case hp => exact (Reps.one (show Kd.M (Kd.int .i64) _ _ _ a1 [.int .i64 a1] from rfl) (Reps.none _ _))); intro v226 w41 ho42 hb hg_ hnew_; clear hg_ hnew_; (first | rw [← Ny225.out] at ho42 | (simp only [Int.reduceToNat] at ho42; rw [← Ny225.out] at ho42)); replace HO4 := Aside0.mk (Kd.V_elder' (vd_to HO4) (Kd.R_base ho42) hb); have HO227 := Aside0.mk (Kd.R_lower (Kd.R_newM (M := fun k_ => (w.heap.size ≤ k_)) ho42 (below_size (below_to2 HB GE223.out GE224.out)) (fun k_ h_ => h_)) (below_size (below_to2 HB GE223.out GE224.out))); replace BK223 := Aside0.mk (blk_below (blk_to BK223) hb); replace BK224 := Aside0.mk (blk_below (blk_to BK224) hb); replace HB := Aside0.mk (below_step (below_to2 HB GE223.out GE224.out) hb); clear hb ho42; obtain ⟨Ao43, co43, eo43⟩ := Kd.R_slice HO227.out; subst eo43) | ((with_reducible refine gate_callee (f := 49) rfl ?_); refine goesL_ (some 27) rfl rfl Try.func49 (by kernel_rfl) rfl #[.agg #[.int .i64 a0_0, .int .i64 a0_1, .int .i64 a0_2, .slice A0_3 l0_3.length c0_3], .slice Ao43 y225.length co43] rfl am_ ?_; (with_reducible refine (impl_hasStops.calls k a0_0 a0_1 a0_2 _ _ l0_3 _ _ y225 true _ ?side1 ?side2 ?side3 ?side4 A10.out).mono ?_); (case side1 => exact cb_ HR0_3 HB); (case side2 => exact HC0_3.out); (case side3 => exact cR_ HO227); (case side4 => exact (Kd.R_reads' HO227.out).2.1); rintro e w44 ⟨rfl, hb⟩; refine ⟨_, rfl, ?_⟩; replace HO4 := Aside0.mk (Kd.V_below (vd_to HO4) hb); replace HO227 := Aside0.mk (Kd.R_below (kd_to HO227) hb); replace BK223 := Aside0.mk (blk_below (blk_to BK223) hb); replace BK224 := Aside0.mk (blk_below (blk_to BK224) hb); replace HB := Aside0.mk (below_step (below_to2 HB GE223.out GE224.out) hb); clear hb; have hcz45_0 : w44.cell? ⟨gb224, 0, none⟩ = some (.int .i64 a2_0) := (blk_cell BK224.out 0).trans rfl; have hcz45_1 : w44.cell? ⟨gb224, 1, none⟩ = some (.int .i64 a2_1) := (blk_cell BK224.out 1).trans rfl; have hcz45_2 : w44.cell? ⟨gb224, 2, none⟩ = some (.int .i64 a2_2) := (blk_cell BK224.out 2).trans rfl; have hcz45_3 : w44.cell? ⟨gb224, 3, none⟩ = some (.slice A2_3 l2_3.length c2_3) := (blk_cell BK224.out 3).trans rfl; have hfz45_0 := blk_frozen BK224.out 0; have hfz45_1 := blk_frozen BK224.out 1; have hfz45_2 := blk_frozen BK224.out 2; have hfz45_3 := blk_frozen BK224.out 3) | ((with_reducible refine gate_dst (N := 32) rfl ?_); (try (refine gate_guard (by rfl) ?_; dsimp only)); refine Kd.R_lit (Kd.int .i64) _ 3 ?hg (N := 32) ?hd (xs := ([a3] : List Int)) (inner := [.int .i64 a3]) (ok := fun _ => True) (okp := fun _ => True) ?hr ?hp (fun _ hk => hk) trivial (Below.refl _ _) (Nat.le_refl _) (by simp) ?_; (case hd => rfl); (case hg => rfl); (case hr => first | (go_simp; done) | (go_simp; rfl)); (case hp => exact (Reps.one (show Kd.M (Kd.int .i64) _ _ _ a3 [.int .i64 a3] from rfl) (Reps.none _ _))); intro v230 w46 ho47 hb hg_ hnew_; clear hg_ hnew_; (first | rw [← Ny229.out] at ho47 | (simp only [Int.reduceToNat] at ho47; rw [← Ny229.out] at ho47)); have n0_ := Aside0.mk (Kd.V_elder' (vd_to HO4) (Kd.R_base ho47) hb); have n1_ := Aside0.mk (Kd.R_elder' (kd_to HO227) (Kd.R_base ho47) hb); have n2_ := Aside0.mk (Kd.R_lower (Kd.R_new' (Kd.R_newM (M := fun k_ => (w.heap.size ≤ k_)) ho47 (below_size (below_to2 HB GE223.out GE224.out)) (fun k_ h_ => h_)) (Kd.R_lt (kd_to HO227))) (below_size (below_to2 HB GE223.out GE224.out))); have n3_ := Aside0.mk (blk_below (blk_to BK223) hb); have n4_ := Aside0.mk (blk_below (blk_to BK224) hb); have n5_ := Aside0.mk (below_step (below_to2 HB GE223.out GE224.out) hb); clear HO4; clear HO227; clear BK223; clear BK224; clear HB; have HO4 := n0_; have HO227 := n1_; have HO231 := n2_; have BK223 := n3_; have BK224 := n4_; have HB := n5_; clear n0_ n1_ n2_ n3_ n4_ n5_; clear hb ho47; obtain ⟨Ao48, co48, eo48⟩ := Kd.R_slice HO231.out; subst eo48) | (go_at_call 49; (with_reducible refine (impl_hasStops.calls k a2_0 a2_1 a2_2 _ _ l2_3 _ _ y229 false _ ?side1 ?side2 ?side3 ?side4 A12.out).mono ?_); (case side1 => exact cb_ HR2_3 HB); (case side2 => exact HC2_3.out); (case side3 => exact cR_ HO231); (case side4 => exact (Kd.R_reads' HO231.out).2.1); rintro e w49 ⟨rfl, hb⟩; replace HO4 := Aside0.mk (Kd.V_below (vd_to HO4) hb); replace HO227 := Aside0.mk (Kd.R_below (kd_to HO227) hb); replace HO231 := Aside0.mk (Kd.R_below (kd_to HO231) hb); replace BK223 := Aside0.mk (blk_below (blk_to BK223) hb); replace BK224 := Aside0.mk (blk_below (blk_to BK224) hb); replace HB := Aside0.mk (below_step (below_to2 HB GE223.out GE224.out) hb); clear hb))
   go_meet
   case rel => exact ⟨_, (true), rt_, H', ⟨by first | omega | exact Nat.le_refl _⟩, ⟨by (with_reducible repeat (first | apply Kd.V_alloc | apply Kd.V_drewN | apply Kd.V_drew)); exact Kd.V_mono HO4.out (fun _ hk => ⟨hk.1.1.1.1, ⟨hk.1.1.1.2, hk.1.1.2⟩⟩)⟩, ⟨blk_to BK223⟩, ⟨blk_to BK224⟩, ⟨below_to2 HB GE223.out GE224.out⟩⟩
  subst c13
  rw [if_pos rfl] at H
  replace H := Option.bind_eq_some_iff.mp H
  obtain ⟨t233, A140, H⟩ := H
  (try dsimp only at H)
  have A14 := Aside0.mk A140
  clear A140
  by_cases c15 : t233 = true
  rotate_left
  ·replace c15 := Bool.eq_false_iff.mpr c15
   subst c15
   rw [if_neg ft_] at H
   have H' := Aside0.mk H
   clear H
   have hnb28 := NB223_224.out
   have hnc28 := NB224_223.out
   have hcz29_0 : w9.cell? ⟨gb223, 0, none⟩ = some (.int .i64 a0_0) := (blk_cell BK223.out 0).trans rfl
   have hcz29_1 : w9.cell? ⟨gb223, 1, none⟩ = some (.int .i64 a0_1) := (blk_cell BK223.out 1).trans rfl
   have hcz29_2 : w9.cell? ⟨gb223, 2, none⟩ = some (.int .i64 a0_2) := (blk_cell BK223.out 2).trans rfl
   have hcz29_3 : w9.cell? ⟨gb223, 3, none⟩ = some (.slice A0_3 l0_3.length c0_3) := (blk_cell BK223.out 3).trans rfl
   have hfz29_0 := blk_frozen BK223.out 0
   have hfz29_1 := blk_frozen BK223.out 1
   have hfz29_2 := blk_frozen BK223.out 2
   have hfz29_3 := blk_frozen BK223.out 3
   go_wp2_with (first | ((with_reducible refine gate_dst (N := 26) rfl ?_); (try (refine gate_guard (by rfl) ?_; dsimp only)); refine Kd.R_lit (Kd.int .i64) _ 3 ?hg (N := 26) ?hd (xs := ([a1] : List Int)) (inner := [.int .i64 a1]) (ok := fun _ => True) (okp := fun _ => True) ?hr ?hp (fun _ hk => hk) trivial (Below.refl _ _) (Nat.le_refl _) (by simp) ?_; (case hd => rfl); (case hg => rfl); (case hr => first | (go_simp; done) | (go_simp; rfl)); (case hp => exact (Reps.one (show Kd.M (Kd.int .i64) _ _ _ a1 [.int .i64 a1] from rfl) (Reps.none _ _))); intro v226 w30 ho31 hb hg_ hnew_; clear hg_ hnew_; (first | rw [← Ny225.out] at ho31 | (simp only [Int.reduceToNat] at ho31; rw [← Ny225.out] at ho31)); replace HO4 := Aside0.mk (Kd.V_elder' (vd_to HO4) (Kd.R_base ho31) hb); have HO227 := Aside0.mk (Kd.R_lower (Kd.R_newM (M := fun k_ => (w.heap.size ≤ k_)) ho31 (below_size (below_to2 HB GE223.out GE224.out)) (fun k_ h_ => h_)) (below_size (below_to2 HB GE223.out GE224.out))); replace BK223 := Aside0.mk (blk_below (blk_to BK223) hb); replace BK224 := Aside0.mk (blk_below (blk_to BK224) hb); replace HB := Aside0.mk (below_step (below_to2 HB GE223.out GE224.out) hb); clear hb ho31; obtain ⟨Ao32, co32, eo32⟩ := Kd.R_slice HO227.out; subst eo32) | ((with_reducible refine gate_callee (f := 49) rfl ?_); refine goesL_ (some 27) rfl rfl Try.func49 (by kernel_rfl) rfl #[.agg #[.int .i64 a0_0, .int .i64 a0_1, .int .i64 a0_2, .slice A0_3 l0_3.length c0_3], .slice Ao32 y225.length co32] rfl am_ ?_; (with_reducible refine (impl_hasStops.calls k a0_0 a0_1 a0_2 _ _ l0_3 _ _ y225 true _ ?side1 ?side2 ?side3 ?side4 A10.out).mono ?_); (case side1 => exact cb_ HR0_3 HB); (case side2 => exact HC0_3.out); (case side3 => exact cR_ HO227); (case side4 => exact (Kd.R_reads' HO227.out).2.1); rintro e w33 ⟨rfl, hb⟩; refine ⟨_, rfl, ?_⟩; replace HO4 := Aside0.mk (Kd.V_below (vd_to HO4) hb); replace HO227 := Aside0.mk (Kd.R_below (kd_to HO227) hb); replace BK223 := Aside0.mk (blk_below (blk_to BK223) hb); replace BK224 := Aside0.mk (blk_below (blk_to BK224) hb); replace HB := Aside0.mk (below_step (below_to2 HB GE223.out GE224.out) hb); clear hb; have hcz34_0 : w33.cell? ⟨gb224, 0, none⟩ = some (.int .i64 a2_0) := (blk_cell BK224.out 0).trans rfl; have hcz34_1 : w33.cell? ⟨gb224, 1, none⟩ = some (.int .i64 a2_1) := (blk_cell BK224.out 1).trans rfl; have hcz34_2 : w33.cell? ⟨gb224, 2, none⟩ = some (.int .i64 a2_2) := (blk_cell BK224.out 2).trans rfl; have hcz34_3 : w33.cell? ⟨gb224, 3, none⟩ = some (.slice A2_3 l2_3.length c2_3) := (blk_cell BK224.out 3).trans rfl; have hfz34_0 := blk_frozen BK224.out 0; have hfz34_1 := blk_frozen BK224.out 1; have hfz34_2 := blk_frozen BK224.out 2; have hfz34_3 := blk_frozen BK224.out 3) | ((with_reducible refine gate_dst (N := 32) rfl ?_); (try (refine gate_guard (by rfl) ?_; dsimp only)); refine Kd.R_lit (Kd.int .i64) _ 3 ?hg (N := 32) ?hd (xs := ([a3] : List Int)) (inner := [.int .i64 a3]) (ok := fun _ => True) (okp := fun _ => True) ?hr ?hp (fun _ hk => hk) trivial (Below.refl _ _) (Nat.le_refl _) (by simp) ?_; (case hd => rfl); (case hg => rfl); (case hr => first | (go_simp; done) | (go_simp; rfl)); (case hp => exact (Reps.one (show Kd.M (Kd.int .i64) _ _ _ a3 [.int .i64 a3] from rfl) (Reps.none _ _))); intro v230 w35 ho36 hb hg_ hnew_; clear hg_ hnew_; (first | rw [← Ny229.out] at ho36 | (simp only [Int.reduceToNat] at ho36; rw [← Ny229.out] at ho36)); have n0_ := Aside0.mk (Kd.V_elder' (vd_to HO4) (Kd.R_base ho36) hb); have n1_ := Aside0.mk (Kd.R_elder' (kd_to HO227) (Kd.R_base ho36) hb); have n2_ := Aside0.mk (Kd.R_lower (Kd.R_new' (Kd.R_newM (M := fun k_ => (w.heap.size ≤ k_)) ho36 (below_size (below_to2 HB GE223.out GE224.out)) (fun k_ h_ => h_)) (Kd.R_lt (kd_to HO227))) (below_size (below_to2 HB GE223.out GE224.out))); have n3_ := Aside0.mk (blk_below (blk_to BK223) hb); have n4_ := Aside0.mk (blk_below (blk_to BK224) hb); have n5_ := Aside0.mk (below_step (below_to2 HB GE223.out GE224.out) hb); clear HO4; clear HO227; clear BK223; clear BK224; clear HB; have HO4 := n0_; have HO227 := n1_; have HO231 := n2_; have BK223 := n3_; have BK224 := n4_; have HB := n5_; clear n0_ n1_ n2_ n3_ n4_ n5_; clear hb ho36; obtain ⟨Ao37, co37, eo37⟩ := Kd.R_slice HO231.out; subst eo37) | (go_at_call 49; (with_reducible refine (impl_hasStops.calls k a2_0 a2_1 a2_2 _ _ l2_3 _ _ y229 true _ ?side1 ?side2 ?side3 ?side4 A12.out).mono ?_); (case side1 => exact cb_ HR2_3 HB); (case side2 => exact HC2_3.out); (case side3 => exact cR_ HO231); (case side4 => exact (Kd.R_reads' HO231.out).2.1); rintro e w38 ⟨rfl, hb⟩; replace HO4 := Aside0.mk (Kd.V_below (vd_to HO4) hb); replace HO227 := Aside0.mk (Kd.R_below (kd_to HO227) hb); replace HO231 := Aside0.mk (Kd.R_below (kd_to HO231) hb); replace BK223 := Aside0.mk (blk_below (blk_to BK223) hb); replace BK224 := Aside0.mk (blk_below (blk_to BK224) hb); replace HB := Aside0.mk (below_step (below_to2 HB GE223.out GE224.out) hb); clear hb) | (go_at_call 50; (with_reducible refine (impl_within.calls (l4.length : Int) 1 20 false _ A14.out).mono ?_); rintro e w' ⟨rfl, ⟨nd, rfl⟩⟩))
   go_meet
   case rel => exact ⟨_, (true), rt_, H', ⟨by first | omega | exact Nat.le_refl _⟩, ⟨by (with_reducible repeat (first | apply Kd.V_alloc | apply Kd.V_drewN | apply Kd.V_drew)); exact Kd.V_mono HO4.out (fun _ hk => ⟨hk.1.1.1.1, ⟨hk.1.1.1.2, hk.1.1.2⟩⟩)⟩, ⟨blk_to BK223⟩, ⟨blk_to BK224⟩, ⟨below_to2 HB GE223.out GE224.out⟩⟩
  subst c15
  rw [if_pos rfl] at H
  replace H := Option.bind_eq_some_iff.mp H
  obtain ⟨t234, A160, H⟩ := H
  (try dsimp only at H)
  have A16 := Aside0.mk A160
  clear A160
  have H' := Aside0.mk H
  clear H
  have hnb17 := NB223_224.out
  have hnc17 := NB224_223.out
  have hcz18_0 : w9.cell? ⟨gb223, 0, none⟩ = some (.int .i64 a0_0) := (blk_cell BK223.out 0).trans rfl
  have hcz18_1 : w9.cell? ⟨gb223, 1, none⟩ = some (.int .i64 a0_1) := (blk_cell BK223.out 1).trans rfl
  have hcz18_2 : w9.cell? ⟨gb223, 2, none⟩ = some (.int .i64 a0_2) := (blk_cell BK223.out 2).trans rfl
  have hcz18_3 : w9.cell? ⟨gb223, 3, none⟩ = some (.slice A0_3 l0_3.length c0_3) := (blk_cell BK223.out 3).trans rfl
  have hfz18_0 := blk_frozen BK223.out 0
  have hfz18_1 := blk_frozen BK223.out 1
  have hfz18_2 := blk_frozen BK223.out 2
  have hfz18_3 := blk_frozen BK223.out 3
  go_wp2_with (first | ((with_reducible refine gate_dst (N := 26) rfl ?_); (try (refine gate_guard (by rfl) ?_; dsimp only)); refine Kd.R_lit (Kd.int .i64) _ 3 ?hg (N := 26) ?hd (xs := ([a1] : List Int)) (inner := [.int .i64 a1]) (ok := fun _ => True) (okp := fun _ => True) ?hr ?hp (fun _ hk => hk) trivial (Below.refl _ _) (Nat.le_refl _) (by simp) ?_; (case hd => rfl); (case hg => rfl); (case hr => first | (go_simp; done) | (go_simp; rfl)); (case hp => exact (Reps.one (show Kd.M (Kd.int .i64) _ _ _ a1 [.int .i64 a1] from rfl) (Reps.none _ _))); intro v226 w19 ho20 hb hg_ hnew_; clear hg_ hnew_; (first | rw [← Ny225.out] at ho20 | (simp only [Int.reduceToNat] at ho20; rw [← Ny225.out] at ho20)); replace HO4 := Aside0.mk (Kd.V_elder' (vd_to HO4) (Kd.R_base ho20) hb); have HO227 := Aside0.mk (Kd.R_lower (Kd.R_newM (M := fun k_ => (w.heap.size ≤ k_)) ho20 (below_size (below_to2 HB GE223.out GE224.out)) (fun k_ h_ => h_)) (below_size (below_to2 HB GE223.out GE224.out))); replace BK223 := Aside0.mk (blk_below (blk_to BK223) hb); replace BK224 := Aside0.mk (blk_below (blk_to BK224) hb); replace HB := Aside0.mk (below_step (below_to2 HB GE223.out GE224.out) hb); clear hb ho20; obtain ⟨Ao21, co21, eo21⟩ := Kd.R_slice HO227.out; subst eo21) | ((with_reducible refine gate_callee (f := 49) rfl ?_); refine goesL_ (some 27) rfl rfl Try.func49 (by kernel_rfl) rfl #[.agg #[.int .i64 a0_0, .int .i64 a0_1, .int .i64 a0_2, .slice A0_3 l0_3.length c0_3], .slice Ao21 y225.length co21] rfl am_ ?_; (with_reducible refine (impl_hasStops.calls k a0_0 a0_1 a0_2 _ _ l0_3 _ _ y225 true _ ?side1 ?side2 ?side3 ?side4 A10.out).mono ?_); (case side1 => exact cb_ HR0_3 HB); (case side2 => exact HC0_3.out); (case side3 => exact cR_ HO227); (case side4 => exact (Kd.R_reads' HO227.out).2.1); rintro e w22 ⟨rfl, hb⟩; refine ⟨_, rfl, ?_⟩; replace HO4 := Aside0.mk (Kd.V_below (vd_to HO4) hb); replace HO227 := Aside0.mk (Kd.R_below (kd_to HO227) hb); replace BK223 := Aside0.mk (blk_below (blk_to BK223) hb); replace BK224 := Aside0.mk (blk_below (blk_to BK224) hb); replace HB := Aside0.mk (below_step (below_to2 HB GE223.out GE224.out) hb); clear hb; have hcz23_0 : w22.cell? ⟨gb224, 0, none⟩ = some (.int .i64 a2_0) := (blk_cell BK224.out 0).trans rfl; have hcz23_1 : w22.cell? ⟨gb224, 1, none⟩ = some (.int .i64 a2_1) := (blk_cell BK224.out 1).trans rfl; have hcz23_2 : w22.cell? ⟨gb224, 2, none⟩ = some (.int .i64 a2_2) := (blk_cell BK224.out 2).trans rfl; have hcz23_3 : w22.cell? ⟨gb224, 3, none⟩ = some (.slice A2_3 l2_3.length c2_3) := (blk_cell BK224.out 3).trans rfl; have hfz23_0 := blk_frozen BK224.out 0; have hfz23_1 := blk_frozen BK224.out 1; have hfz23_2 := blk_frozen BK224.out 2; have hfz23_3 := blk_frozen BK224.out 3) | ((with_reducible refine gate_dst (N := 32) rfl ?_); (try (refine gate_guard (by rfl) ?_; dsimp only)); refine Kd.R_lit (Kd.int .i64) _ 3 ?hg (N := 32) ?hd (xs := ([a3] : List Int)) (inner := [.int .i64 a3]) (ok := fun _ => True) (okp := fun _ => True) ?hr ?hp (fun _ hk => hk) trivial (Below.refl _ _) (Nat.le_refl _) (by simp) ?_; (case hd => rfl); (case hg => rfl); (case hr => first | (go_simp; done) | (go_simp; rfl)); (case hp => exact (Reps.one (show Kd.M (Kd.int .i64) _ _ _ a3 [.int .i64 a3] from rfl) (Reps.none _ _))); intro v230 w24 ho25 hb hg_ hnew_; clear hg_ hnew_; (first | rw [← Ny229.out] at ho25 | (simp only [Int.reduceToNat] at ho25; rw [← Ny229.out] at ho25)); have n0_ := Aside0.mk (Kd.V_elder' (vd_to HO4) (Kd.R_base ho25) hb); have n1_ := Aside0.mk (Kd.R_elder' (kd_to HO227) (Kd.R_base ho25) hb); have n2_ := Aside0.mk (Kd.R_lower (Kd.R_new' (Kd.R_newM (M := fun k_ => (w.heap.size ≤ k_)) ho25 (below_size (below_to2 HB GE223.out GE224.out)) (fun k_ h_ => h_)) (Kd.R_lt (kd_to HO227))) (below_size (below_to2 HB GE223.out GE224.out))); have n3_ := Aside0.mk (blk_below (blk_to BK223) hb); have n4_ := Aside0.mk (blk_below (blk_to BK224) hb); have n5_ := Aside0.mk (below_step (below_to2 HB GE223.out GE224.out) hb); clear HO4; clear HO227; clear BK223; clear BK224; clear HB; have HO4 := n0_; have HO227 := n1_; have HO231 := n2_; have BK223 := n3_; have BK224 := n4_; have HB := n5_; clear n0_ n1_ n2_ n3_ n4_ n5_; clear hb ho25; obtain ⟨Ao26, co26, eo26⟩ := Kd.R_slice HO231.out; subst eo26) | (go_at_call 49; (with_reducible refine (impl_hasStops.calls k a2_0 a2_1 a2_2 _ _ l2_3 _ _ y229 true _ ?side1 ?side2 ?side3 ?side4 A12.out).mono ?_); (case side1 => exact cb_ HR2_3 HB); (case side2 => exact HC2_3.out); (case side3 => exact cR_ HO231); (case side4 => exact (Kd.R_reads' HO231.out).2.1); rintro e w27 ⟨rfl, hb⟩; replace HO4 := Aside0.mk (Kd.V_below (vd_to HO4) hb); replace HO227 := Aside0.mk (Kd.R_below (kd_to HO227) hb); replace HO231 := Aside0.mk (Kd.R_below (kd_to HO231) hb); replace BK223 := Aside0.mk (blk_below (blk_to BK223) hb); replace BK224 := Aside0.mk (blk_below (blk_to BK224) hb); replace HB := Aside0.mk (below_step (below_to2 HB GE223.out GE224.out) hb); clear hb) | (go_at_call 50; (with_reducible refine (impl_within.calls (l4.length : Int) 1 20 true _ A14.out).mono ?_); rintro e w' ⟨rfl, ⟨nd, rfl⟩⟩) | (go_at_call 51; (with_reducible refine (impl_isMinute.calls a5 t234 _ A16.out).mono ?_); rintro e w' ⟨rfl, ⟨nd, rfl⟩⟩))
  go_meet
  case rel => exact ⟨_, (!t234), rt_, H', ⟨by first | omega | exact Nat.le_refl _⟩, ⟨by (with_reducible repeat (first | apply Kd.V_alloc | apply Kd.V_drewN | apply Kd.V_drew)); exact Kd.V_mono HO4.out (fun _ hk => ⟨hk.1.1.1.1, ⟨hk.1.1.1.2, hk.1.1.2⟩⟩)⟩, ⟨blk_to BK223⟩, ⟨blk_to BK224⟩, ⟨below_to2 HB GE223.out GE224.out⟩⟩
 clear HC7
 try clear c1
 try clear c2
 try clear p2
 try clear c3
 try clear c4
 try clear c5
 try clear c10
 try clear c11
 try clear c13
 try clear c15
 try clear c17
 try clear c28
 try clear c39
 try clear c49
 try clear c50
 try clear hcz18_0
 try clear hcz18_1
 try clear hcz18_2
 try clear hcz18_3
 try clear hcz23_0
 try clear hcz23_1
 try clear hcz23_2
 try clear hcz23_3
 try clear hcz29_0
 try clear hcz29_1
 try clear hcz29_2
 try clear hcz29_3
 try clear hcz34_0
 try clear hcz34_1
 try clear hcz34_2
 try clear hcz34_3
 try clear hcz40_0
 try clear hcz40_1
 try clear hcz40_2
 try clear hcz40_3
 try clear hcz45_0
 try clear hcz45_1
 try clear hcz45_2
 try clear hcz45_3
 try clear hcz51_0
 try clear hcz51_1
 try clear hcz51_2
 try clear hcz51_3
 try clear hfz18_0
 try clear hfz18_1
 try clear hfz18_2
 try clear hfz18_3
 try clear hfz23_0
 try clear hfz23_1
 try clear hfz23_2
 try clear hfz23_3
 try clear hfz29_0
 try clear hfz29_1
 try clear hfz29_2
 try clear hfz29_3
 try clear hfz34_0
 try clear hfz34_1
 try clear hfz34_2
 try clear hfz34_3
 try clear hfz40_0
 try clear hfz40_1
 try clear hfz40_2
 try clear hfz40_3
 try clear hfz45_0
 try clear hfz45_1
 try clear hfz45_2
 try clear hfz45_3
 try clear hfz51_0
 try clear hfz51_1
 try clear hfz51_2
 try clear hfz51_3
 obtain ⟨kq, x46_6, rfl, HA, HJ6, HO_4, BK223, BK224, HB⟩ := hcut
 cases kq with
 | zero => exact absurd HA.out (by simp [impl_BestChange.j0])
 | succ kj6 =>
  have H := HA.out
  clear HA
  simp only [impl_BestChange.j0] at H
  by_cases c56 : x46_6 = true
  ·subst c56
   rw [if_pos rfl] at H
   simp only [Option.some.injEq, Prod.mk.injEq] at H
   obtain ⟨rfl, rfl, rfl⟩ := H
   go_wp2
   go_ret3
   exact ⟨_, rtE_, by first | exact Kd.R_nil _ _ _ _ _ | exact Kd.N_nil _ _ _ _ _ | exact Kd.V_nil _ _ _ _ _ | exact Kd.Q_nil _ _ _ _ _ | exact Kd.S_nil _ _ _ _ _, below_to2 HB GE223.out GE224.out⟩
  replace c56 := Bool.eq_false_iff.mpr c56
  subst c56
  rw [if_neg ft_] at H
  have H' := Aside0.mk H
  clear H
  go_wp2
  go_loopg [49] kj6 (fun kq v49 w' => ∃ (x49_2 : Int), v49 = .int .i64 x49_2 ∧ Aside0 (impl_BestChange.l0 kq a1 a3 l4 a5 l4 (l4.length : Int) x49_2 a0_0 a0_1 a0_2 l0_3 a2_0 a2_1 a2_2 l2_3 = some (r1, r2, r3)) ∧ Aside0 (kq ≤ kj6) ∧ Aside0 (Kd.V (Kd.slice 3 (Kd.int .i64)) 22 w' w.heap.size (fun k_ => (P4_ k_ ∨ w.heap.size ≤ k_) ∧ k_ ≠ gb223 ∧ k_ ≠ gb224) (.slice A4 l4.length c4) l4) ∧ Aside0 (Kd.V (Kd.slice 3 (Kd.int .i64)) 22 w' w.heap.size (fun k_ => (P4_ k_ ∨ w.heap.size ≤ k_) ∧ k_ ≠ gb223 ∧ k_ ≠ gb224) (.slice A4 l4.length c4) l4) ∧ Aside0 (w'.heap[gb223]? = some (.cells #[.int .i64 a0_0, .int .i64 a0_1, .int .i64 a0_2, (.slice A0_3 l0_3.length c0_3)] 30 (0, 0))) ∧ Aside0 (w'.heap[gb224]? = some (.cells #[.int .i64 a2_0, .int .i64 a2_1, .int .i64 a2_2, (.slice A2_3 l2_3.length c2_3)] 30 (0, 0))) ∧ Aside0 (Below w.heap.size w w'))
  case atStart => exact ⟨(0), rt_, H', ⟨Nat.le_refl _⟩, ⟨vd_to HO_4⟩, ⟨vd_to HO_4⟩, ⟨blk_to BK223⟩, ⟨blk_to BK224⟩, ⟨below_to2 HB GE223.out GE224.out⟩⟩
  clear H'
  try clear c1
  try clear c2
  try clear p2
  try clear c3
  try clear c4
  try clear c5
  try clear c10
  try clear c11
  try clear c13
  try clear c15
  try clear c17
  try clear c28
  try clear c39
  try clear c49
  try clear c50
  try clear c56
  try clear hcz18_0
  try clear hcz18_1
  try clear hcz18_2
  try clear hcz18_3
  try clear hcz23_0
  try clear hcz23_1
  try clear hcz23_2
  try clear hcz23_3
  try clear hcz29_0
  try clear hcz29_1
  try clear hcz29_2
  try clear hcz29_3
  try clear hcz34_0
  try clear hcz34_1
  try clear hcz34_2
  try clear hcz34_3
  try clear hcz40_0
  try clear hcz40_1
  try clear hcz40_2
  try clear hcz40_3
  try clear hcz45_0
  try clear hcz45_1
  try clear hcz45_2
  try clear hcz45_3
  try clear hcz51_0
  try clear hcz51_1
  try clear hcz51_2
  try clear hcz51_3
  try clear hfz18_0
  try clear hfz18_1
  try clear hfz18_2
  try clear hfz18_3
  try clear hfz23_0
  try clear hfz23_1
  try clear hfz23_2
  try clear hfz23_3
  try clear hfz29_0
  try clear hfz29_1
  try clear hfz29_2
  try clear hfz29_3
  try clear hfz34_0
  try clear hfz34_1
  try clear hfz34_2
  try clear hfz34_3
  try clear hfz40_0
  try clear hfz40_1
  try clear hfz40_2
  try clear hfz40_3
  try clear hfz45_0
  try clear hfz45_1
  try clear hfz45_2
  try clear hfz45_3
  try clear hfz51_0
  try clear hfz51_1
  try clear hfz51_2
  try clear hfz51_3
  try clear p2
  obtain ⟨x49_2, rfl, HA, HK2, HO_4, HO_47, BK223, BK224, HB⟩ := hrel
  cases gk with
  | zero => exact absurd HA.out (by simp [impl_BestChange.l0])
  | succ k2 =>
   have H := HA.out
   clear HA
   simp only [impl_BestChange.l0] at H
   by_cases c57 : x49_2 < (l4.length : Int)
   rotate_left
   ·rw [if_neg c57] at H
    have c57b0 := decide_eq_false c57
    clear c57
    have H' := Aside0.mk H
    clear H
    go_wp2
    go_loopg [17, 18, 98] k2 (fun kq v17 v18 v98 w' => ∃ (x17_3 : List Int) (x18_3 : Int) (x98_3 : Int), v18 = .int .i64 x18_3 ∧ v98 = .int .i64 x98_3 ∧ Aside0 (impl_BestChange.l1 kq a1 a3 a5 x17_3 x18_3 l4 (l4.length : Int) x98_3 a0_0 a0_1 a0_2 l0_3 a2_0 a2_1 a2_2 l2_3 = some (r1, r2, r3)) ∧ Aside0 (kq ≤ k2) ∧ Aside0 (Kd.V (Kd.int .i64) 3 w' w.heap.size (fun k_ => (P4_ k_ ∨ w.heap.size ≤ k_) ∧ k_ ≠ gb223 ∧ k_ ≠ gb224) v17 x17_3) ∧ Aside0 (Kd.V (Kd.slice 3 (Kd.int .i64)) 22 w' w.heap.size (fun k_ => (P4_ k_ ∨ w.heap.size ≤ k_) ∧ k_ ≠ gb223 ∧ k_ ≠ gb224) (.slice A4 l4.length c4) l4) ∧ Aside0 (w'.heap[gb223]? = some (.cells #[.int .i64 a0_0, .int .i64 a0_1, .int .i64 a0_2, (.slice A0_3 l0_3.length c0_3)] 30 (0, 0))) ∧ Aside0 (w'.heap[gb224]? = some (.cells #[.int .i64 a2_0, .int .i64 a2_1, .int .i64 a2_2, (.slice A2_3 l2_3.length c2_3)] 30 (0, 0))) ∧ Aside0 (Below w.heap.size w w') ∧ Aside0 (impl_BestChange.nz v17 x17_3))
    case atStart => exact ⟨(([] : List Int)), (0), (0), rt_, rt_, H', ⟨Nat.le_refl _⟩, ⟨Kd.V_nil _ _ _ _ _⟩, ⟨vd_to HO_4⟩, ⟨blk_to BK223⟩, ⟨blk_to BK224⟩, ⟨below_to2 HB GE223.out GE224.out⟩, ⟨impl_BestChange.nz_nil⟩⟩
    clear H'
    try clear c2
    try clear p2
    try clear q2
    try clear hx2
    try clear c4
    try clear c5
    try clear c6
    try clear c23
    try clear p23
    try clear q23
    try clear hx23
    try clear c49
    try clear c57
    try clear c57b0
    try clear c58
    try clear c59
    try clear c60
    try clear c60b0
    try clear c60b1
    try clear c61
    try clear hx235_0
    try clear p235
    try clear q235
    obtain ⟨x17_3, x18_3, x98_3, rfl, rfl, HA, HK3, HO_17, HO_96, BK223, BK224, HB, HNZ⟩ := hrel
    cases gk with
    | zero => exact absurd HA.out (by simp [impl_BestChange.l1])
    | succ k3 =>
     have H := HA.out
     clear HA
     simp only [impl_BestChange.l1] at H
     by_cases c123 : x98_3 < (l4.length : Int)
     rotate_left
     ·rw [if_neg c123] at H
      have c123b0 := decide_eq_false c123
      clear c123
      replace H := Option.bind_eq_some_iff.mp H
      obtain ⟨t257, A1410, H⟩ := H
      (try dsimp only at H)
      have A141 := Aside0.mk A1410
      clear A1410
      simp only [Option.some.injEq, Prod.mk.injEq] at H
      obtain ⟨rfl, rfl, rfl⟩ := H
      obtain ⟨Ao142, co142, eo142⟩ := Kd.V_slice HO_17.out
      subst eo142
      have nz3_ : Ao142.isNone = decide ((x17_3.length : Int) = 0) := (HNZ.out _ _ _ rfl).trans (by rw [Bool.eq_iff_iff]; simp)
      go_wp2_with (first | ((with_reducible refine gate_callee (f := 54) rfl ?_); refine goesL_ (some 135) rfl rfl Try.func54 (by kernel_rfl) rfl #[.slice Ao142 x17_3.length co142] rfl am_ ?_; (with_reducible refine (slices_Clone_int_int.calls _ _ x17_3 t257 _ ?side1 ?side2 A141.out).mono ?_); (case side1 => repeat (first | exact (Kd.V_reads' HO_17.out).2.2 | (with_reducible refine Kd.C_alloc ?_ _) | (with_reducible refine Kd.C_drewN ?_ _) | (with_reducible refine Kd.C_drew ?_))); (case side2 => exact (Kd.V_reads' HO_17.out).2.1); rintro e w143 ⟨v258, rfl, ho0, hb⟩; refine ⟨_, rfl, ?_⟩; replace HO_17 := Aside0.mk (Kd.V_elder' (vd_to HO_17) (Kd.R_base ho0) hb); replace HO_96 := Aside0.mk (Kd.V_elder' (vd_to HO_96) (Kd.R_base ho0) hb); have HO259 := Aside0.mk (Kd.R_lower (Kd.R_newM (M := fun k_ => (w.heap.size ≤ k_)) ho0 (below_size (below_to2 HB GE223.out GE224.out)) (fun k_ h_ => h_)) (below_size (below_to2 HB GE223.out GE224.out))); replace BK223 := Aside0.mk (blk_below (blk_to BK223) hb); replace BK224 := Aside0.mk (blk_below (blk_to BK224) hb); replace HB := Aside0.mk (below_step (below_to2 HB GE223.out GE224.out) hb); clear hb; (try clear ho0)))
      go_ret3
      exact ⟨_, rtE_, by (with_reducible repeat (first | apply Kd.R_alloc | apply Kd.R_drewN | apply Kd.R_drew)); exact Kd.R_mono HO259.out (fun _ hk => hk.1), below_to2 HB GE223.out GE224.out⟩
     rw [if_pos c123] at H
     have c123b0 := decide_eq_true c123
     clear c123
     by_cases c124 : 0 ≤ x98_3
     rotate_left
     ·rw [if_neg c124] at H
      cases H
     rw [if_pos c124] at H
     have c124b0 := decide_eq_true c124
     clear c124
     by_cases c125 : x98_3 < (l4.length : Int)
     rotate_left
     ·rw [if_neg c125] at H
      cases H
     rw [if_pos c125] at H
     have c125b0 := decide_eq_true c125
     clear c125
     by_cases c126 : 0 < ((rd_L1 l4 x98_3).length : Int)
     rotate_left
     ·rw [if_neg c126] at H
      cases H
     rw [if_pos c126] at H
     have c126b0 := decide_eq_true c126
     have c126b1 : decide (0 < (rd_L1 l4 x98_3).length) = true := decide_eq_true (by omega)
     clear c126
     by_cases c127 : 1 < ((rd_L1 l4 x98_3).length : Int)
     rotate_left
     ·rw [if_neg c127] at H
      cases H
     rw [if_pos c127] at H
     have c127b0 := decide_eq_true c127
     have c127b1 : decide (1 < (rd_L1 l4 x98_3).length) = true := decide_eq_true (by omega)
     clear c127
     by_cases c128 : 2 < ((rd_L1 l4 x98_3).length : Int)
     rotate_left
     ·rw [if_neg c128] at H
      cases H
     rw [if_pos c128] at H
     have c128b0 := decide_eq_true c128
     have c128b1 : decide (2 < (rd_L1 l4 x98_3).length) = true := decide_eq_true (by omega)
     clear c128
     replace H := Option.bind_eq_some_iff.mp H
     obtain ⟨⟨t254, t255, t256⟩, A1290, H⟩ := H
     (try dsimp only at H)
     have A129 := Aside0.mk A1290
     clear A1290
     by_cases c130 : t256 = true
     rotate_left
     ·replace c130 := Bool.eq_false_iff.mpr c130
      subst c130
      rw [if_neg ft_] at H
      have H' := Aside0.mk H
      clear H
      have p250 : 0 ≤ (x98_3 : Int) := odt_
      have q250 : x98_3 < (l4.length : Int) := odt_
      obtain ⟨ad250, A250_0, c250_0, e250, hx250_0, hl250_0, hi250_0⟩ := at_L1 (Kd.V_reads' HO_96.out).2.2 x98_3 p250 q250
      cases e250
      obtain ⟨ce250, hce250, hMe250, hcc250⟩ := Kd.V_get HO_96.out [] x98_3 p250 (by first | exact q250 | exact of_decide_eq_true (by first | (with_reducible assumption) | assumption) | (have e_ := (Kd.V_reads' HO_96.out).1; omega))
      obtain ⟨ua250_0, uc250_0, rfl, ul250_0, ge250_0⟩ := Kd.FK_slice_open hMe250
      have hv250_0 := hcc250 0 _ rfl
      rw [Nat.add_zero, show ((Kd.slice 3 (Kd.int .i64))).sz = 1 from rfl, Nat.mul_one] at hv250_0
      replace hv250_0 := Option.some.inj (hv250_0.symm.trans hx250_0)
      injection hv250_0 with hva_ hvn_ hvc_
      rw [hva_] at ge250_0
      rw [hvc_] at ul250_0
      have HL250_0 := Aside0.mk (show Kd.V (Kd.int .i64) 3 _ w.heap.size _ _ (rd_L1 l4 x98_3) from Kd.V_mk ul250_0 ge250_0)
      clear hva_ hvn_ hvc_ ge250_0 ul250_0
      clear hcc250 hce250
      have HR250_0 := Aside0.mk hi250_0
      have HC250_0 := Aside0.mk hl250_0
      clear hi250_0 hl250_0
      replace p250 := eq_true p250
      replace q250 := eq_true q250
      try go_wp2
      have n0_ := Aside0.mk (Kd.V_drew HO_17.out)
      have n1_ := Aside0.mk (Kd.V_drew HO_96.out)
      have n2_ := Aside0.mk (Kd.V_drew HL250_0.out)
      have n3_ := Aside0.mk (blk_drew BK223.out)
      have n4_ := Aside0.mk (blk_drew BK224.out)
      have n5_ := Aside0.mk (Kd.C_drew HR250_0.out)
      have n6_ := Aside0.mk (below_drew1 HB.out)
      clear HO_17
      clear HO_96
      clear HL250_0
      clear BK223
      clear BK224
      clear HR250_0
      clear HB
      have HO_17 := n0_
      have HO_96 := n1_
      have HL250_0 := n2_
      have BK223 := n3_
      have BK224 := n4_
      have HR250_0 := n5_
      have HB := n6_
      clear n0_ n1_ n2_ n3_ n4_ n5_ n6_
      have p251 : 0 ≤ (0 : Int) := (by omega)
      have q251 : 0 < ((rd_L1 l4 x98_3).length : Int) := odt_
      obtain ⟨ad251, e251, hx251_0⟩ := Kd.at_int (by repeat (first | (with_reducible exact HR250_0.out) | (with_reducible refine Kd.C_alloc ?_ _) | (with_reducible refine Kd.C_drewN ?_ _) | (with_reducible refine Kd.C_drew ?_) | exact HR250_0.out)) 0 p251 q251
      cases e251
      have qi251 : (0 < (rd_L1 l4 x98_3).length) = True := eq_true (by omega)
      (try rw [show ((0 : Int)).toNat = 0 from rfl] at hx251_0)
      (try rw [Addr.add_zero'] at hx251_0)
      replace p251 := eq_true p251
      replace q251 := eq_true q251
      have p252 : 0 ≤ (1 : Int) := (by omega)
      have q252 : 1 < ((rd_L1 l4 x98_3).length : Int) := odt_
      obtain ⟨ad252, e252, hx252_0⟩ := Kd.at_int (by repeat (first | (with_reducible exact HR250_0.out) | (with_reducible refine Kd.C_alloc ?_ _) | (with_reducible refine Kd.C_drewN ?_ _) | (with_reducible refine Kd.C_drew ?_) | exact HR250_0.out)) 1 p252 q252
      obtain rfl : ad251 = ad252 := (by injection e252)
      (try simp only [show (1 : Int).toNat = 1 from rfl, Nat.reduceMul, Nat.reduceEqDiff, Go.Addr.add, ↓reduceIte] at hx252_0)
      have qi252 : (1 < (rd_L1 l4 x98_3).length) = True := eq_true (by omega)
      (try rw [show ((1 : Int)).toNat = 1 from rfl] at hx252_0)
      replace p252 := eq_true p252
      replace q252 := eq_true q252
      have p253 : 0 ≤ (2 : Int) := (by omega)
      have q253 : 2 < ((rd_L1 l4 x98_3).length : Int) := odt_
      obtain ⟨ad253, e253, hx253_0⟩ := Kd.at_int (by repeat (first | (with_reducible exact HR250_0.out) | (with_reducible refine Kd.C_alloc ?_ _) | (with_reducible refine Kd.C_drewN ?_ _) | (with_reducible refine Kd.C_drew ?_) | exact HR250_0.out)) 2 p253 q253
      obtain rfl : ad251 = ad253 := (by injection e253)
      (try simp only [show (2 : Int).toNat = 2 from rfl, Nat.reduceMul, Nat.reduceEqDiff, Go.Addr.add, ↓reduceIte] at hx253_0)
      have qi253 : (2 < (rd_L1 l4 x98_3).length) = True := eq_true (by omega)
      (try rw [show ((2 : Int)).toNat = 2 from rfl] at hx253_0)
      replace p253 := eq_true p253
      replace q253 := eq_true q253
      refine start_ (n := 22) (S := fun w' => w'.cell? ⟨gb223, 0, none⟩ = some (.int .i64 a0_0) ∧ w'.cell? ⟨gb223, 1, none⟩ = some (.int .i64 a0_1) ∧ w'.cell? ⟨gb223, 2, none⟩ = some (.int .i64 a0_2) ∧ w'.cell? ⟨gb223, 3, none⟩ = some (.slice A0_3 l0_3.length c0_3) ∧ w'.cell? ⟨gb224, 0, none⟩ = some (.int .i64 a2_0) ∧ w'.cell? ⟨gb224, 1, none⟩ = some (.int .i64 a2_1) ∧ w'.cell? ⟨gb224, 2, none⟩ = some (.int .i64 a2_2) ∧ w'.cell? ⟨gb224, 3, none⟩ = some (.slice A2_3 l2_3.length c2_3) ∧ w'.cell? ad251 = some (.int .i64 (rd (rd_L1 l4 x98_3) 0)) ∧ w'.cell? ⟨ad251.block, ad251.off + 1, none⟩ = some (.int .i64 (rd (rd_L1 l4 x98_3) 1)) ∧ w'.cell? ⟨ad251.block, ad251.off + 2, none⟩ = some (.int .i64 (rd (rd_L1 l4 x98_3) 2))) (ds := []) (fr_ [0, 22]) (by kernel_rfl) rfl rfl ⟨(blk_cell BK223.out 0).trans rfl, (blk_cell BK223.out 1).trans rfl, (blk_cell BK223.out 2).trans rfl, (blk_cell BK223.out 3).trans rfl, (blk_cell BK224.out 0).trans rfl, (blk_cell BK224.out 1).trans rfl, (blk_cell BK224.out 2).trans rfl, (blk_cell BK224.out 3).trans rfl, hx251_0, hx252_0, hx253_0⟩ (fun hHeld => ?_); refine with_tabW impl_BestChange.tab14 impl_BestChange.bits14 (fun HT_ HW_ => ?_)
      generalize wr.drew = w139 at HO_17 HO_96 HL250_0 BK223 BK224 HR250_0 HB hx251_0 hx252_0 hx253_0 hHeld ⊢
      refine purS_ (i := 1) (N := some 104) (fr_ [0, 1, 1, 20]) HT_.out ?_
      refine purS_ (i := 2) (N := some 105) (fr_ [0, 1, 2, 19]) HT_.out ?_
      refine purS_ (i := 3) (N := some 106) (fr_ [0, 1, 3, 18]) HT_.out ?_
      refine purS_ (i := 6) (N := some 109) (fr_ [0, 1, 3, 2, 1, 15]) HT_.out ?_
      refine purS_ (i := 7) (N := some 110) (fr_ [0, 1, 3, 2, 2, 14]) HT_.out ?_
      refine purS_ (i := 9) (N := some 112) (fr_ [0, 1, 3, 2, 2, 1, 1, 12]) HT_.out ?_
      refine purS_ (i := 10) (N := some 113) (fr_ [0, 1, 3, 2, 2, 1, 2, 11]) HT_.out ?_
      refine purS_ (i := 11) (N := some 114) (fr_ [0, 1, 3, 2, 2, 1, 3, 10]) HT_.out ?_
      refine purS_ (i := 13) (N := some 116) (fr_ [0, 1, 3, 2, 2, 1, 3, 1, 1, 8]) HT_.out ?_
      refine take_ (i := 0) (N := some 103) (v := ?_) (a' := ?_) (fr_ [4, 2, 2, 1, 3, 1, 1, 8]) rfl rfl (take_ofW HT_.out HW_.out (by kernel_rfl)) (fun _ _ _ h => h) (Or.inl ⟨by rfl, ?_⟩) hHeld ?_ ?_
      rotate_left
      ·rintro w' ⟨s0, s1, s2, s3, s4, s5, s6, s7, s8, s9, s10⟩
       go_simp
       with_reducible rfl
      rotate_left
      ·simp only [Act.put, List.setIfInBounds_toArray, List.set_cons_zero, List.set_cons_succ, i64_w, i32_w]
       rfl
      refine take_ (i := 4) (N := some 107) (v := ?_) (a' := ?_) (fr_ [5, 1, 2, 1, 3, 1, 1, 8]) rfl rfl (take_ofW HT_.out HW_.out (by kernel_rfl)) (fun _ _ _ h => h) (Or.inl ⟨by rfl, ?_⟩) hHeld ?_ ?_
      rotate_left
      ·rintro w' ⟨s0, s1, s2, s3, s4, s5, s6, s7, s8, s9, s10⟩
       go_simp
       with_reducible rfl
      rotate_left
      ·simp only [Act.put, List.setIfInBounds_toArray, List.set_cons_zero, List.set_cons_succ, i64_w, i32_w]
       rfl
      refine take_ (i := 5) (N := some 108) (v := ?_) (a' := ?_) (fr_ [8, 1, 3, 1, 1, 8]) rfl rfl (take_ofW HT_.out HW_.out (by kernel_rfl)) (fun _ _ _ h => h) (Or.inl ⟨by rfl, ?_⟩) hHeld ?_ ?_
      rotate_left
      ·rintro w' ⟨s0, s1, s2, s3, s4, s5, s6, s7, s8, s9, s10⟩
       go_simp
       with_reducible rfl
      rotate_left
      ·simp only [Act.put, List.setIfInBounds_toArray, List.set_cons_zero, List.set_cons_succ, i64_w, i32_w]
       rfl
      refine take_ (i := 8) (N := some 111) (v := ?_) (a' := ?_) (fr_ [12, 1, 1, 8]) rfl rfl (take_ofW HT_.out HW_.out (by kernel_rfl)) (fun _ _ _ h => h) (Or.inl ⟨by rfl, ?_⟩) hHeld ?_ ?_
      rotate_left
      ·rintro w' ⟨s0, s1, s2, s3, s4, s5, s6, s7, s8, s9, s10⟩
       go_simp
       with_reducible rfl
      rotate_left
      ·simp only [Act.put, List.setIfInBounds_toArray, List.set_cons_zero, List.set_cons_succ, i64_w, i32_w]
       rfl
      refine take_ (i := 12) (N := some 115) (v := ?_) (a' := ?_) (fr_ [14, 8]) rfl rfl (take_ofW HT_.out HW_.out (by kernel_rfl)) (fun _ _ _ h => h) (Or.inl ⟨by rfl, ?_⟩) hHeld ?_ ?_
      rotate_left
      ·rintro w' ⟨s0, s1, s2, s3, s4, s5, s6, s7, s8, s9, s10⟩
       go_simp
       with_reducible rfl
      rotate_left
      ·simp only [Act.put, List.setIfInBounds_toArray, List.set_cons_zero, List.set_cons_succ, i64_w, i32_w]
       rfl
      refine one_ (i := 14) (N := some 117) (fr_ [15, 7]) rfl rfl (one_of HT_.out (by kernel_rfl)) (by decide) (fun K hK => ?_)
      refine goes_ Try.func53 (by kernel_rfl) rfl #[.agg #[.int .i64 a0_0, .int .i64 a0_1, .int .i64 a0_2, .slice A0_3 l0_3.length c0_3], .int .i64 a1, .int .i64 (rd (rd_L1 l4 x98_3) 0), .agg #[.int .i64 a2_0, .int .i64 a2_1, .int .i64 a2_2, .slice A2_3 l2_3.length c2_3], .int .i64 (rd (rd_L1 l4 x98_3) 1), .int .i64 a3, .int .i64 (rd (rd_L1 l4 x98_3) 2), .int .i64 a5] (by rfl) rfl rfl am_ ?_
      with_reducible refine (impl_changeAt.calls a0_0 a0_1 a0_2 _ _ l0_3 a1 (rd (rd_L1 l4 x98_3) 0) a2_0 a2_1 a2_2 _ _ l2_3 (rd (rd_L1 l4 x98_3) 1) a3 (rd (rd_L1 l4 x98_3) 2) a5 t254 t255 false _ ?side1 ?side2 ?side3 ?side4 A129.out).mono ?_
      (case side1 => exact cb_ HR0_3 HB)
      (case side2 => exact HC0_3.out)
      (case side3 => exact cb_ HR2_3 HB)
      (case side4 => exact HC2_3.out)
      rintro e w140 ⟨rfl, hb⟩
      have HS8_ := (hb.cell (World.block_lt_of_cell? _ _ (hHeld.2.2.2.2.2.2.2.2.1))).trans (hHeld.2.2.2.2.2.2.2.2.1)
      have HS9_ := (hb.cell (World.block_lt_of_cell? _ _ (hHeld.2.2.2.2.2.2.2.2.2.1))).trans (hHeld.2.2.2.2.2.2.2.2.2.1)
      have HS10_ := (hb.cell (World.block_lt_of_cell? _ _ (hHeld.2.2.2.2.2.2.2.2.2.2))).trans (hHeld.2.2.2.2.2.2.2.2.2.2)
      refine ⟨_, rfl, ?_⟩
      have n0_ := Aside0.mk (Kd.V_below (vd_to HO_17) hb)
      have n1_ := Aside0.mk (Kd.V_below (vd_to HO_96) hb)
      have n2_ := Aside0.mk (Kd.V_below (vd_to HL250_0) hb)
      have n3_ := Aside0.mk (blk_below (blk_to BK223) hb)
      have n4_ := Aside0.mk (blk_below (blk_to BK224) hb)
      have n5_ := Aside0.mk (Kd.C_below (by repeat (first | (with_reducible exact HR250_0.out) | (with_reducible refine Kd.C_alloc ?_ _) | (with_reducible refine Kd.C_drewN ?_ _) | (with_reducible refine Kd.C_drew ?_) | exact HR250_0.out)) hb)
      have n6_ := Aside0.mk (below_step (below_to2 HB GE223.out GE224.out) hb)
      clear HO_17
      clear HO_96
      clear HL250_0
      clear BK223
      clear BK224
      clear HR250_0
      clear HB
      have HO_17 := n0_
      have HO_96 := n1_
      have HL250_0 := n2_
      have BK223 := n3_
      have BK224 := n4_
      have HR250_0 := n5_
      have HB := n6_
      clear n0_ n1_ n2_ n3_ n4_ n5_ n6_
      (try clear hb)
      (try clear hb2)
      (try clear hk)
      (try clear hi)
      refine hK.out _ _ ⟨(blk_cell BK223.out 0).trans rfl, (blk_cell BK223.out 1).trans rfl, (blk_cell BK223.out 2).trans rfl, (blk_cell BK223.out 3).trans rfl, (blk_cell BK224.out 0).trans rfl, (blk_cell BK224.out 1).trans rfl, (blk_cell BK224.out 2).trans rfl, (blk_cell BK224.out 3).trans rfl, HS8_, HS9_, HS10_⟩ (fun hHeld => ?_)
      clear hK K
      refine norm_ (a' := ?_) ?_ ?_
      rotate_left
      ·show Act.put _ (some 117) _ = _
       simp only [Act.put, List.setIfInBounds_toArray, List.set_cons_zero, List.set_cons_succ, i64_w, i32_w]
       rfl
      refine purS_ (i := 15) (N := some 102) (fl_ 22 16) HT_.out ?_
      refine purS_ (i := 16) (N := some 118) (fl_ 22 17) HT_.out ?_
      refine purS_ (i := 17) (N := some 119) (fl_ 22 18) HT_.out ?_
      refine purS_ (i := 18) (N := some 120) (fl_ 22 19) HT_.out ?_
      refine purS_ (i := 19) (N := some 21) (fl_ 22 20) HT_.out ?_
      refine purS_ (i := 20) (N := some 22) (fl_ 22 21) HT_.out ?_
      refine purS_ (i := 21) (N := some 23) (fl_ 22 22) HT_.out ?_
      refine done_ (done_of HT_.out (by kernel_rfl)) ?_
      obtain ⟨An_, cn_, en_⟩ := Kd.V_slice HO_17.out
      subst en_
      (try have nz_ := (HNZ.out _ _ _ rfl).trans c131b0)
      try go_wp2
      go_roundg k3
      case measure => have := HJ6.out; have := HK2.out; have := HK3.out; omega
      case rel => exact ⟨(x17_3), (x18_3), (wrap64 (x98_3 + 1)), rt_, rt_, H', ⟨by have := HJ6.out; have := HK2.out; have := HK3.out; omega⟩, ⟨vd_to HO_17⟩, ⟨vd_to HO_96⟩, ⟨blk_to BK223⟩, ⟨blk_to BK224⟩, ⟨below_to2 HB GE223.out GE224.out⟩, HNZ⟩
     subst c130
     rw [if_pos rfl] at H
     by_cases c131 : (x17_3.length : Int) = 0
     ·rw [if_pos c131] at H
      have c131b0 := beq_iff_eq.mpr c131
      have c131b1 := bne_eq_false_iff_eq.mpr c131
      clear c131
      have H' := Aside0.mk H
      clear H
      have p250 : 0 ≤ (x98_3 : Int) := odt_
      have q250 : x98_3 < (l4.length : Int) := odt_
      obtain ⟨ad250, A250_0, c250_0, e250, hx250_0, hl250_0, hi250_0⟩ := at_L1 (Kd.V_reads' HO_96.out).2.2 x98_3 p250 q250
      cases e250
      obtain ⟨ce250, hce250, hMe250, hcc250⟩ := Kd.V_get HO_96.out [] x98_3 p250 (by first | exact q250 | exact of_decide_eq_true (by first | (with_reducible assumption) | assumption) | (have e_ := (Kd.V_reads' HO_96.out).1; omega))
      obtain ⟨ua250_0, uc250_0, rfl, ul250_0, ge250_0⟩ := Kd.FK_slice_open hMe250
      have hv250_0 := hcc250 0 _ rfl
      rw [Nat.add_zero, show ((Kd.slice 3 (Kd.int .i64))).sz = 1 from rfl, Nat.mul_one] at hv250_0
      replace hv250_0 := Option.some.inj (hv250_0.symm.trans hx250_0)
      injection hv250_0 with hva_ hvn_ hvc_
      rw [hva_] at ge250_0
      rw [hvc_] at ul250_0
      have HL250_0 := Aside0.mk (show Kd.V (Kd.int .i64) 3 _ w.heap.size _ _ (rd_L1 l4 x98_3) from Kd.V_mk ul250_0 ge250_0)
      clear hva_ hvn_ hvc_ ge250_0 ul250_0
      clear hcc250 hce250
      have HR250_0 := Aside0.mk hi250_0
      have HC250_0 := Aside0.mk hl250_0
      clear hi250_0 hl250_0
      replace p250 := eq_true p250
      replace q250 := eq_true q250
      try go_wp2
      have n0_ := Aside0.mk (Kd.V_drew HO_17.out)
      have n1_ := Aside0.mk (Kd.V_drew HO_96.out)
      have n2_ := Aside0.mk (Kd.V_drew HL250_0.out)
      have n3_ := Aside0.mk (blk_drew BK223.out)
      have n4_ := Aside0.mk (blk_drew BK224.out)
      have n5_ := Aside0.mk (Kd.C_drew HR250_0.out)
      have n6_ := Aside0.mk (below_drew1 HB.out)
      clear HO_17
      clear HO_96
      clear HL250_0
      clear BK223
      clear BK224
      clear HR250_0
      clear HB
      have HO_17 := n0_
      have HO_96 := n1_
      have HL250_0 := n2_
      have BK223 := n3_
      have BK224 := n4_
      have HR250_0 := n5_
      have HB := n6_
      clear n0_ n1_ n2_ n3_ n4_ n5_ n6_
      have p251 : 0 ≤ (0 : Int) := (by omega)
      have q251 : 0 < ((rd_L1 l4 x98_3).length : Int) := odt_
      obtain ⟨ad251, e251, hx251_0⟩ := Kd.at_int (by repeat (first | (with_reducible exact HR250_0.out) | (with_reducible refine Kd.C_alloc ?_ _) | (with_reducible refine Kd.C_drewN ?_ _) | (with_reducible refine Kd.C_drew ?_) | exact HR250_0.out)) 0 p251 q251
      cases e251
      have qi251 : (0 < (rd_L1 l4 x98_3).length) = True := eq_true (by omega)
      (try rw [show ((0 : Int)).toNat = 0 from rfl] at hx251_0)
      (try rw [Addr.add_zero'] at hx251_0)
      replace p251 := eq_true p251
      replace q251 := eq_true q251
      have p252 : 0 ≤ (1 : Int) := (by omega)
      have q252 : 1 < ((rd_L1 l4 x98_3).length : Int) := odt_
      obtain ⟨ad252, e252, hx252_0⟩ := Kd.at_int (by repeat (first | (with_reducible exact HR250_0.out) | (with_reducible refine Kd.C_alloc ?_ _) | (with_reducible refine Kd.C_drewN ?_ _) | (with_reducible refine Kd.C_drew ?_) | exact HR250_0.out)) 1 p252 q252
      obtain rfl : ad251 = ad252 := (by injection e252)
      (try simp only [show (1 : Int).toNat = 1 from rfl, Nat.reduceMul, Nat.reduceEqDiff, Go.Addr.add, ↓reduceIte] at hx252_0)
      have qi252 : (1 < (rd_L1 l4 x98_3).length) = True := eq_true (by omega)
      (try rw [show ((1 : Int)).toNat = 1 from rfl] at hx252_0)
      replace p252 := eq_true p252
      replace q252 := eq_true q252
      have p253 : 0 ≤ (2 : Int) := (by omega)
      have q253 : 2 < ((rd_L1 l4 x98_3).length : Int) := odt_
      obtain ⟨ad253, e253, hx253_0⟩ := Kd.at_int (by repeat (first | (with_reducible exact HR250_0.out) | (with_reducible refine Kd.C_alloc ?_ _) | (with_reducible refine Kd.C_drewN ?_ _) | (with_reducible refine Kd.C_drew ?_) | exact HR250_0.out)) 2 p253 q253
      obtain rfl : ad251 = ad253 := (by injection e253)
      (try simp only [show (2 : Int).toNat = 2 from rfl, Nat.reduceMul, Nat.reduceEqDiff, Go.Addr.add, ↓reduceIte] at hx253_0)
      have qi253 : (2 < (rd_L1 l4 x98_3).length) = True := eq_true (by omega)
      (try rw [show ((2 : Int)).toNat = 2 from rfl] at hx253_0)
      replace p253 := eq_true p253
      replace q253 := eq_true q253
      refine start_ (n := 22) (S := fun w' => w'.cell? ⟨gb223, 0, none⟩ = some (.int .i64 a0_0) ∧ w'.cell? ⟨gb223, 1, none⟩ = some (.int .i64 a0_1) ∧ w'.cell? ⟨gb223, 2, none⟩ = some (.int .i64 a0_2) ∧ w'.cell? ⟨gb223, 3, none⟩ = some (.slice A0_3 l0_3.length c0_3) ∧ w'.cell? ⟨gb224, 0, none⟩ = some (.int .i64 a2_0) ∧ w'.cell? ⟨gb224, 1, none⟩ = some (.int .i64 a2_1) ∧ w'.cell? ⟨gb224, 2, none⟩ = some (.int .i64 a2_2) ∧ w'.cell? ⟨gb224, 3, none⟩ = some (.slice A2_3 l2_3.length c2_3) ∧ w'.cell? ad251 = some (.int .i64 (rd (rd_L1 l4 x98_3) 0)) ∧ w'.cell? ⟨ad251.block, ad251.off + 1, none⟩ = some (.int .i64 (rd (rd_L1 l4 x98_3) 1)) ∧ w'.cell? ⟨ad251.block, ad251.off + 2, none⟩ = some (.int .i64 (rd (rd_L1 l4 x98_3) 2))) (ds := []) (fr_ [0, 22]) (by kernel_rfl) rfl rfl ⟨(blk_cell BK223.out 0).trans rfl, (blk_cell BK223.out 1).trans rfl, (blk_cell BK223.out 2).trans rfl, (blk_cell BK223.out 3).trans rfl, (blk_cell BK224.out 0).trans rfl, (blk_cell BK224.out 1).trans rfl, (blk_cell BK224.out 2).trans rfl, (blk_cell BK224.out 3).trans rfl, hx251_0, hx252_0, hx253_0⟩ (fun hHeld => ?_); refine with_tabW impl_BestChange.tab14 impl_BestChange.bits14 (fun HT_ HW_ => ?_)
      generalize wr.drew = w132 at HO_17 HO_96 HL250_0 BK223 BK224 HR250_0 HB hx251_0 hx252_0 hx253_0 hHeld ⊢
      refine purS_ (i := 1) (N := some 104) (fr_ [0, 1, 1, 20]) HT_.out ?_
      refine purS_ (i := 2) (N := some 105) (fr_ [0, 1, 2, 19]) HT_.out ?_
      refine purS_ (i := 3) (N := some 106) (fr_ [0, 1, 3, 18]) HT_.out ?_
      refine purS_ (i := 6) (N := some 109) (fr_ [0, 1, 3, 2, 1, 15]) HT_.out ?_
      refine purS_ (i := 7) (N := some 110) (fr_ [0, 1, 3, 2, 2, 14]) HT_.out ?_
      refine purS_ (i := 9) (N := some 112) (fr_ [0, 1, 3, 2, 2, 1, 1, 12]) HT_.out ?_
      refine purS_ (i := 10) (N := some 113) (fr_ [0, 1, 3, 2, 2, 1, 2, 11]) HT_.out ?_
      refine purS_ (i := 11) (N := some 114) (fr_ [0, 1, 3, 2, 2, 1, 3, 10]) HT_.out ?_
      refine purS_ (i := 13) (N := some 116) (fr_ [0, 1, 3, 2, 2, 1, 3, 1, 1, 8]) HT_.out ?_
      refine take_ (i := 0) (N := some 103) (v := ?_) (a' := ?_) (fr_ [4, 2, 2, 1, 3, 1, 1, 8]) rfl rfl (take_ofW HT_.out HW_.out (by kernel_rfl)) (fun _ _ _ h => h) (Or.inl ⟨by rfl, ?_⟩) hHeld ?_ ?_
      rotate_left
      ·rintro w' ⟨s0, s1, s2, s3, s4, s5, s6, s7, s8, s9, s10⟩
       go_simp
       with_reducible rfl
      rotate_left
      ·simp only [Act.put, List.setIfInBounds_toArray, List.set_cons_zero, List.set_cons_succ, i64_w, i32_w]
       rfl
      refine take_ (i := 4) (N := some 107) (v := ?_) (a' := ?_) (fr_ [5, 1, 2, 1, 3, 1, 1, 8]) rfl rfl (take_ofW HT_.out HW_.out (by kernel_rfl)) (fun _ _ _ h => h) (Or.inl ⟨by rfl, ?_⟩) hHeld ?_ ?_
      rotate_left
      ·rintro w' ⟨s0, s1, s2, s3, s4, s5, s6, s7, s8, s9, s10⟩
       go_simp
       with_reducible rfl
      rotate_left
      ·simp only [Act.put, List.setIfInBounds_toArray, List.set_cons_zero, List.set_cons_succ, i64_w, i32_w]
       rfl
      refine take_ (i := 5) (N := some 108) (v := ?_) (a' := ?_) (fr_ [8, 1, 3, 1, 1, 8]) rfl rfl (take_ofW HT_.out HW_.out (by kernel_rfl)) (fun _ _ _ h => h) (Or.inl ⟨by rfl, ?_⟩) hHeld ?_ ?_
      rotate_left
      ·rintro w' ⟨s0, s1, s2, s3, s4, s5, s6, s7, s8, s9, s10⟩
       go_simp
       with_reducible rfl
      rotate_left
      ·simp only [Act.put, List.setIfInBounds_toArray, List.set_cons_zero, List.set_cons_succ, i64_w, i32_w]
       rfl
      refine take_ (i := 8) (N := some 111) (v := ?_) (a' := ?_) (fr_ [12, 1, 1, 8]) rfl rfl (take_ofW HT_.out HW_.out (by kernel_rfl)) (fun _ _ _ h => h) (Or.inl ⟨by rfl, ?_⟩) hHeld ?_ ?_
      rotate_left
      ·rintro w' ⟨s0, s1, s2, s3, s4, s5, s6, s7, s8, s9, s10⟩
       go_simp
       with_reducible rfl
      rotate_left
      ·simp only [Act.put, List.setIfInBounds_toArray, List.set_cons_zero, List.set_cons_succ, i64_w, i32_w]
       rfl
      refine take_ (i := 12) (N := some 115) (v := ?_) (a' := ?_) (fr_ [14, 8]) rfl rfl (take_ofW HT_.out HW_.out (by kernel_rfl)) (fun _ _ _ h => h) (Or.inl ⟨by rfl, ?_⟩) hHeld ?_ ?_
      rotate_left
      ·rintro w' ⟨s0, s1, s2, s3, s4, s5, s6, s7, s8, s9, s10⟩
       go_simp
       with_reducible rfl
      rotate_left
      ·simp only [Act.put, List.setIfInBounds_toArray, List.set_cons_zero, List.set_cons_succ, i64_w, i32_w]
       rfl
      refine one_ (i := 14) (N := some 117) (fr_ [15, 7]) rfl rfl (one_of HT_.out (by kernel_rfl)) (by decide) (fun K hK => ?_)
      refine goes_ Try.func53 (by kernel_rfl) rfl #[.agg #[.int .i64 a0_0, .int .i64 a0_1, .int .i64 a0_2, .slice A0_3 l0_3.length c0_3], .int .i64 a1, .int .i64 (rd (rd_L1 l4 x98_3) 0), .agg #[.int .i64 a2_0, .int .i64 a2_1, .int .i64 a2_2, .slice A2_3 l2_3.length c2_3], .int .i64 (rd (rd_L1 l4 x98_3) 1), .int .i64 a3, .int .i64 (rd (rd_L1 l4 x98_3) 2), .int .i64 a5] (by rfl) rfl rfl am_ ?_
      with_reducible refine (impl_changeAt.calls a0_0 a0_1 a0_2 _ _ l0_3 a1 (rd (rd_L1 l4 x98_3) 0) a2_0 a2_1 a2_2 _ _ l2_3 (rd (rd_L1 l4 x98_3) 1) a3 (rd (rd_L1 l4 x98_3) 2) a5 t254 t255 true _ ?side1 ?side2 ?side3 ?side4 A129.out).mono ?_
      (case side1 => exact cb_ HR0_3 HB)
      (case side2 => exact HC0_3.out)
      (case side3 => exact cb_ HR2_3 HB)
      (case side4 => exact HC2_3.out)
      rintro e w133 ⟨rfl, hb⟩
      have HS8_ := (hb.cell (World.block_lt_of_cell? _ _ (hHeld.2.2.2.2.2.2.2.2.1))).trans (hHeld.2.2.2.2.2.2.2.2.1)
      have HS9_ := (hb.cell (World.block_lt_of_cell? _ _ (hHeld.2.2.2.2.2.2.2.2.2.1))).trans (hHeld.2.2.2.2.2.2.2.2.2.1)
      have HS10_ := (hb.cell (World.block_lt_of_cell? _ _ (hHeld.2.2.2.2.2.2.2.2.2.2))).trans (hHeld.2.2.2.2.2.2.2.2.2.2)
      refine ⟨_, rfl, ?_⟩
      have n0_ := Aside0.mk (Kd.V_below (vd_to HO_17) hb)
      have n1_ := Aside0.mk (Kd.V_below (vd_to HO_96) hb)
      have n2_ := Aside0.mk (Kd.V_below (vd_to HL250_0) hb)
      have n3_ := Aside0.mk (blk_below (blk_to BK223) hb)
      have n4_ := Aside0.mk (blk_below (blk_to BK224) hb)
      have n5_ := Aside0.mk (Kd.C_below (by repeat (first | (with_reducible exact HR250_0.out) | (with_reducible refine Kd.C_alloc ?_ _) | (with_reducible refine Kd.C_drewN ?_ _) | (with_reducible refine Kd.C_drew ?_) | exact HR250_0.out)) hb)
      have n6_ := Aside0.mk (below_step (below_to2 HB GE223.out GE224.out) hb)
      clear HO_17
      clear HO_96
      clear HL250_0
      clear BK223
      clear BK224
      clear HR250_0
      clear HB
      have HO_17 := n0_
      have HO_96 := n1_
      have HL250_0 := n2_
      have BK223 := n3_
      have BK224 := n4_
      have HR250_0 := n5_
      have HB := n6_
      clear n0_ n1_ n2_ n3_ n4_ n5_ n6_
      (try clear hb)
      (try clear hb2)
      (try clear hk)
      (try clear hi)
      refine hK.out _ _ ⟨(blk_cell BK223.out 0).trans rfl, (blk_cell BK223.out 1).trans rfl, (blk_cell BK223.out 2).trans rfl, (blk_cell BK223.out 3).trans rfl, (blk_cell BK224.out 0).trans rfl, (blk_cell BK224.out 1).trans rfl, (blk_cell BK224.out 2).trans rfl, (blk_cell BK224.out 3).trans rfl, HS8_, HS9_, HS10_⟩ (fun hHeld => ?_)
      clear hK K
      refine norm_ (a' := ?_) ?_ ?_
      rotate_left
      ·show Act.put _ (some 117) _ = _
       simp only [Act.put, List.setIfInBounds_toArray, List.set_cons_zero, List.set_cons_succ, i64_w, i32_w]
       rfl
      refine purS_ (i := 15) (N := some 102) (fl_ 22 16) HT_.out ?_
      refine purS_ (i := 16) (N := some 118) (fl_ 22 17) HT_.out ?_
      refine purS_ (i := 17) (N := some 119) (fl_ 22 18) HT_.out ?_
      refine purS_ (i := 18) (N := some 120) (fl_ 22 19) HT_.out ?_
      refine purS_ (i := 19) (N := some 21) (fl_ 22 20) HT_.out ?_
      refine purS_ (i := 20) (N := some 22) (fl_ 22 21) HT_.out ?_
      refine purS_ (i := 21) (N := some 23) (fl_ 22 22) HT_.out ?_
      refine done_ (done_of HT_.out (by kernel_rfl)) ?_
      obtain ⟨An_, cn_, en_⟩ := Kd.V_slice HO_17.out
      subst en_
      (try have nz_ := (HNZ.out _ _ _ rfl).trans c131b0)
      try go_wp2
      go_roundg k3
      case measure => have := HJ6.out; have := HK2.out; have := HK3.out; omega
      case rel => exact ⟨(rd_L1 l4 x98_3), (t255), (wrap64 (x98_3 + 1)), rt_, rt_, H', ⟨by have := HJ6.out; have := HK2.out; have := HK3.out; omega⟩, ⟨vd_to HL250_0⟩, ⟨vd_to HO_96⟩, ⟨blk_to BK223⟩, ⟨blk_to BK224⟩, ⟨below_to2 HB GE223.out GE224.out⟩, ⟨impl_BestChange.nz_row HR250_0.out (of_decide_eq_true (by assumption))⟩⟩
     rw [if_neg c131] at H
     have c131b0 := beq_eq_false_iff_ne.mpr c131
     have c131b1 := bne_iff_ne.mpr c131
     have c131b2 : ¬ (x17_3 = []) := fun h_ => c131 (by rw [h_]; rfl)
     by_cases c134 : t255 < x18_3
     rotate_left
     ·rw [if_neg c134] at H
      have c134b0 := decide_eq_false c134
      clear c134
      have H' := Aside0.mk H
      clear H
      have p250 : 0 ≤ (x98_3 : Int) := odt_
      have q250 : x98_3 < (l4.length : Int) := odt_
      obtain ⟨ad250, A250_0, c250_0, e250, hx250_0, hl250_0, hi250_0⟩ := at_L1 (Kd.V_reads' HO_96.out).2.2 x98_3 p250 q250
      cases e250
      obtain ⟨ce250, hce250, hMe250, hcc250⟩ := Kd.V_get HO_96.out [] x98_3 p250 (by first | exact q250 | exact of_decide_eq_true (by first | (with_reducible assumption) | assumption) | (have e_ := (Kd.V_reads' HO_96.out).1; omega))
      obtain ⟨ua250_0, uc250_0, rfl, ul250_0, ge250_0⟩ := Kd.FK_slice_open hMe250
      have hv250_0 := hcc250 0 _ rfl
      rw [Nat.add_zero, show ((Kd.slice 3 (Kd.int .i64))).sz = 1 from rfl, Nat.mul_one] at hv250_0
      replace hv250_0 := Option.some.inj (hv250_0.symm.trans hx250_0)
      injection hv250_0 with hva_ hvn_ hvc_
      rw [hva_] at ge250_0
      rw [hvc_] at ul250_0
      have HL250_0 := Aside0.mk (show Kd.V (Kd.int .i64) 3 _ w.heap.size _ _ (rd_L1 l4 x98_3) from Kd.V_mk ul250_0 ge250_0)
      clear hva_ hvn_ hvc_ ge250_0 ul250_0
      clear hcc250 hce250
      have HR250_0 := Aside0.mk hi250_0
      have HC250_0 := Aside0.mk hl250_0
      clear hi250_0 hl250_0
      replace p250 := eq_true p250
      replace q250 := eq_true q250
      try go_wp2
      have n0_ := Aside0.mk (Kd.V_drew HO_17.out)
      have n1_ := Aside0.mk (Kd.V_drew HO_96.out)
      have n2_ := Aside0.mk (Kd.V_drew HL250_0.out)
      have n3_ := Aside0.mk (blk_drew BK223.out)
      have n4_ := Aside0.mk (blk_drew BK224.out)
      have n5_ := Aside0.mk (Kd.C_drew HR250_0.out)
      have n6_ := Aside0.mk (below_drew1 HB.out)
      clear HO_17
      clear HO_96
      clear HL250_0
      clear BK223
      clear BK224
      clear HR250_0
      clear HB
      have HO_17 := n0_
      have HO_96 := n1_
      have HL250_0 := n2_
      have BK223 := n3_
      have BK224 := n4_
      have HR250_0 := n5_
      have HB := n6_
      clear n0_ n1_ n2_ n3_ n4_ n5_ n6_
      have p251 : 0 ≤ (0 : Int) := (by omega)
      have q251 : 0 < ((rd_L1 l4 x98_3).length : Int) := odt_
      obtain ⟨ad251, e251, hx251_0⟩ := Kd.at_int (by repeat (first | (with_reducible exact HR250_0.out) | (with_reducible refine Kd.C_alloc ?_ _) | (with_reducible refine Kd.C_drewN ?_ _) | (with_reducible refine Kd.C_drew ?_) | exact HR250_0.out)) 0 p251 q251
      cases e251
      have qi251 : (0 < (rd_L1 l4 x98_3).length) = True := eq_true (by omega)
      (try rw [show ((0 : Int)).toNat = 0 from rfl] at hx251_0)
      (try rw [Addr.add_zero'] at hx251_0)
      replace p251 := eq_true p251
      replace q251 := eq_true q251
      have p252 : 0 ≤ (1 : Int) := (by omega)
      have q252 : 1 < ((rd_L1 l4 x98_3).length : Int) := odt_
      obtain ⟨ad252, e252, hx252_0⟩ := Kd.at_int (by repeat (first | (with_reducible exact HR250_0.out) | (with_reducible refine Kd.C_alloc ?_ _) | (with_reducible refine Kd.C_drewN ?_ _) | (with_reducible refine Kd.C_drew ?_) | exact HR250_0.out)) 1 p252 q252
      obtain rfl : ad251 = ad252 := (by injection e252)
      (try simp only [show (1 : Int).toNat = 1 from rfl, Nat.reduceMul, Nat.reduceEqDiff, Go.Addr.add, ↓reduceIte] at hx252_0)
      have qi252 : (1 < (rd_L1 l4 x98_3).length) = True := eq_true (by omega)
      (try rw [show ((1 : Int)).toNat = 1 from rfl] at hx252_0)
      replace p252 := eq_true p252
      replace q252 := eq_true q252
      have p253 : 0 ≤ (2 : Int) := (by omega)
      have q253 : 2 < ((rd_L1 l4 x98_3).length : Int) := odt_
      obtain ⟨ad253, e253, hx253_0⟩ := Kd.at_int (by repeat (first | (with_reducible exact HR250_0.out) | (with_reducible refine Kd.C_alloc ?_ _) | (with_reducible refine Kd.C_drewN ?_ _) | (with_reducible refine Kd.C_drew ?_) | exact HR250_0.out)) 2 p253 q253
      obtain rfl : ad251 = ad253 := (by injection e253)
      (try simp only [show (2 : Int).toNat = 2 from rfl, Nat.reduceMul, Nat.reduceEqDiff, Go.Addr.add, ↓reduceIte] at hx253_0)
      have qi253 : (2 < (rd_L1 l4 x98_3).length) = True := eq_true (by omega)
      (try rw [show ((2 : Int)).toNat = 2 from rfl] at hx253_0)
      replace p253 := eq_true p253
      replace q253 := eq_true q253
      refine start_ (n := 22) (S := fun w' => w'.cell? ⟨gb223, 0, none⟩ = some (.int .i64 a0_0) ∧ w'.cell? ⟨gb223, 1, none⟩ = some (.int .i64 a0_1) ∧ w'.cell? ⟨gb223, 2, none⟩ = some (.int .i64 a0_2) ∧ w'.cell? ⟨gb223, 3, none⟩ = some (.slice A0_3 l0_3.length c0_3) ∧ w'.cell? ⟨gb224, 0, none⟩ = some (.int .i64 a2_0) ∧ w'.cell? ⟨gb224, 1, none⟩ = some (.int .i64 a2_1) ∧ w'.cell? ⟨gb224, 2, none⟩ = some (.int .i64 a2_2) ∧ w'.cell? ⟨gb224, 3, none⟩ = some (.slice A2_3 l2_3.length c2_3) ∧ w'.cell? ad251 = some (.int .i64 (rd (rd_L1 l4 x98_3) 0)) ∧ w'.cell? ⟨ad251.block, ad251.off + 1, none⟩ = some (.int .i64 (rd (rd_L1 l4 x98_3) 1)) ∧ w'.cell? ⟨ad251.block, ad251.off + 2, none⟩ = some (.int .i64 (rd (rd_L1 l4 x98_3) 2))) (ds := []) (fr_ [0, 22]) (by kernel_rfl) rfl rfl ⟨(blk_cell BK223.out 0).trans rfl, (blk_cell BK223.out 1).trans rfl, (blk_cell BK223.out 2).trans rfl, (blk_cell BK223.out 3).trans rfl, (blk_cell BK224.out 0).trans rfl, (blk_cell BK224.out 1).trans rfl, (blk_cell BK224.out 2).trans rfl, (blk_cell BK224.out 3).trans rfl, hx251_0, hx252_0, hx253_0⟩ (fun hHeld => ?_); refine with_tabW impl_BestChange.tab14 impl_BestChange.bits14 (fun HT_ HW_ => ?_)
      generalize wr.drew = w137 at HO_17 HO_96 HL250_0 BK223 BK224 HR250_0 HB hx251_0 hx252_0 hx253_0 hHeld ⊢
      refine purS_ (i := 1) (N := some 104) (fr_ [0, 1, 1, 20]) HT_.out ?_
      refine purS_ (i := 2) (N := some 105) (fr_ [0, 1, 2, 19]) HT_.out ?_
      refine purS_ (i := 3) (N := some 106) (fr_ [0, 1, 3, 18]) HT_.out ?_
      refine purS_ (i := 6) (N := some 109) (fr_ [0, 1, 3, 2, 1, 15]) HT_.out ?_
      refine purS_ (i := 7) (N := some 110) (fr_ [0, 1, 3, 2, 2, 14]) HT_.out ?_
      refine purS_ (i := 9) (N := some 112) (fr_ [0, 1, 3, 2, 2, 1, 1, 12]) HT_.out ?_
      refine purS_ (i := 10) (N := some 113) (fr_ [0, 1, 3, 2, 2, 1, 2, 11]) HT_.out ?_
      refine purS_ (i := 11) (N := some 114) (fr_ [0, 1, 3, 2, 2, 1, 3, 10]) HT_.out ?_
      refine purS_ (i := 13) (N := some 116) (fr_ [0, 1, 3, 2, 2, 1, 3, 1, 1, 8]) HT_.out ?_
      refine take_ (i := 0) (N := some 103) (v := ?_) (a' := ?_) (fr_ [4, 2, 2, 1, 3, 1, 1, 8]) rfl rfl (take_ofW HT_.out HW_.out (by kernel_rfl)) (fun _ _ _ h => h) (Or.inl ⟨by rfl, ?_⟩) hHeld ?_ ?_
      rotate_left
      ·rintro w' ⟨s0, s1, s2, s3, s4, s5, s6, s7, s8, s9, s10⟩
       go_simp
       with_reducible rfl
      rotate_left
      ·simp only [Act.put, List.setIfInBounds_toArray, List.set_cons_zero, List.set_cons_succ, i64_w, i32_w]
       rfl
      refine take_ (i := 4) (N := some 107) (v := ?_) (a' := ?_) (fr_ [5, 1, 2, 1, 3, 1, 1, 8]) rfl rfl (take_ofW HT_.out HW_.out (by kernel_rfl)) (fun _ _ _ h => h) (Or.inl ⟨by rfl, ?_⟩) hHeld ?_ ?_
      rotate_left
      ·rintro w' ⟨s0, s1, s2, s3, s4, s5, s6, s7, s8, s9, s10⟩
       go_simp
       with_reducible rfl
      rotate_left
      ·simp only [Act.put, List.setIfInBounds_toArray, List.set_cons_zero, List.set_cons_succ, i64_w, i32_w]
       rfl
      refine take_ (i := 5) (N := some 108) (v := ?_) (a' := ?_) (fr_ [8, 1, 3, 1, 1, 8]) rfl rfl (take_ofW HT_.out HW_.out (by kernel_rfl)) (fun _ _ _ h => h) (Or.inl ⟨by rfl, ?_⟩) hHeld ?_ ?_
      rotate_left
      ·rintro w' ⟨s0, s1, s2, s3, s4, s5, s6, s7, s8, s9, s10⟩
       go_simp
       with_reducible rfl
      rotate_left
      ·simp only [Act.put, List.setIfInBounds_toArray, List.set_cons_zero, List.set_cons_succ, i64_w, i32_w]
       rfl
      refine take_ (i := 8) (N := some 111) (v := ?_) (a' := ?_) (fr_ [12, 1, 1, 8]) rfl rfl (take_ofW HT_.out HW_.out (by kernel_rfl)) (fun _ _ _ h => h) (Or.inl ⟨by rfl, ?_⟩) hHeld ?_ ?_
      rotate_left
      ·rintro w' ⟨s0, s1, s2, s3, s4, s5, s6, s7, s8, s9, s10⟩
       go_simp
       with_reducible rfl
      rotate_left
      ·simp only [Act.put, List.setIfInBounds_toArray, List.set_cons_zero, List.set_cons_succ, i64_w, i32_w]
       rfl
      refine take_ (i := 12) (N := some 115) (v := ?_) (a' := ?_) (fr_ [14, 8]) rfl rfl (take_ofW HT_.out HW_.out (by kernel_rfl)) (fun _ _ _ h => h) (Or.inl ⟨by rfl, ?_⟩) hHeld ?_ ?_
      rotate_left
      ·rintro w' ⟨s0, s1, s2, s3, s4, s5, s6, s7, s8, s9, s10⟩
       go_simp
       with_reducible rfl
      rotate_left
      ·simp only [Act.put, List.setIfInBounds_toArray, List.set_cons_zero, List.set_cons_succ, i64_w, i32_w]
       rfl
      refine one_ (i := 14) (N := some 117) (fr_ [15, 7]) rfl rfl (one_of HT_.out (by kernel_rfl)) (by decide) (fun K hK => ?_)
      refine goes_ Try.func53 (by kernel_rfl) rfl #[.agg #[.int .i64 a0_0, .int .i64 a0_1, .int .i64 a0_2, .slice A0_3 l0_3.length c0_3], .int .i64 a1, .int .i64 (rd (rd_L1 l4 x98_3) 0), .agg #[.int .i64 a2_0, .int .i64 a2_1, .int .i64 a2_2, .slice A2_3 l2_3.length c2_3], .int .i64 (rd (rd_L1 l4 x98_3) 1), .int .i64 a3, .int .i64 (rd (rd_L1 l4 x98_3) 2), .int .i64 a5] (by rfl) rfl rfl am_ ?_
      with_reducible refine (impl_changeAt.calls a0_0 a0_1 a0_2 _ _ l0_3 a1 (rd (rd_L1 l4 x98_3) 0) a2_0 a2_1 a2_2 _ _ l2_3 (rd (rd_L1 l4 x98_3) 1) a3 (rd (rd_L1 l4 x98_3) 2) a5 t254 t255 true _ ?side1 ?side2 ?side3 ?side4 A129.out).mono ?_
      (case side1 => exact cb_ HR0_3 HB)
      (case side2 => exact HC0_3.out)
      (case side3 => exact cb_ HR2_3 HB)
      (case side4 => exact HC2_3.out)
      rintro e w138 ⟨rfl, hb⟩
      have HS8_ := (hb.cell (World.block_lt_of_cell? _ _ (hHeld.2.2.2.2.2.2.2.2.1))).trans (hHeld.2.2.2.2.2.2.2.2.1)
      have HS9_ := (hb.cell (World.block_lt_of_cell? _ _ (hHeld.2.2.2.2.2.2.2.2.2.1))).trans (hHeld.2.2.2.2.2.2.2.2.2.1)
      have HS10_ := (hb.cell (World.block_lt_of_cell? _ _ (hHeld.2.2.2.2.2.2.2.2.2.2))).trans (hHeld.2.2.2.2.2.2.2.2.2.2)
      refine ⟨_, rfl, ?_⟩
      have n0_ := Aside0.mk (Kd.V_below (vd_to HO_17) hb)
      have n1_ := Aside0.mk (Kd.V_below (vd_to HO_96) hb)
      have n2_ := Aside0.mk (Kd.V_below (vd_to HL250_0) hb)
      have n3_ := Aside0.mk (blk_below (blk_to BK223) hb)
      have n4_ := Aside0.mk (blk_below (blk_to BK224) hb)
      have n5_ := Aside0.mk (Kd.C_below (by repeat (first | (with_reducible exact HR250_0.out) | (with_reducible refine Kd.C_alloc ?_ _) | (with_reducible refine Kd.C_drewN ?_ _) | (with_reducible refine Kd.C_drew ?_) | exact HR250_0.out)) hb)
      have n6_ := Aside0.mk (below_step (below_to2 HB GE223.out GE224.out) hb)
      clear HO_17
      clear HO_96
      clear HL250_0
      clear BK223
      clear BK224
      clear HR250_0
      clear HB
      have HO_17 := n0_
      have HO_96 := n1_
      have HL250_0 := n2_
      have BK223 := n3_
      have BK224 := n4_
      have HR250_0 := n5_
      have HB := n6_
      clear n0_ n1_ n2_ n3_ n4_ n5_ n6_
      (try clear hb)
      (try clear hb2)
      (try clear hk)
      (try clear hi)
      refine hK.out _ _ ⟨(blk_cell BK223.out 0).trans rfl, (blk_cell BK223.out 1).trans rfl, (blk_cell BK223.out 2).trans rfl, (blk_cell BK223.out 3).trans rfl, (blk_cell BK224.out 0).trans rfl, (blk_cell BK224.out 1).trans rfl, (blk_cell BK224.out 2).trans rfl, (blk_cell BK224.out 3).trans rfl, HS8_, HS9_, HS10_⟩ (fun hHeld => ?_)
      clear hK K
      refine norm_ (a' := ?_) ?_ ?_
      rotate_left
      ·show Act.put _ (some 117) _ = _
       simp only [Act.put, List.setIfInBounds_toArray, List.set_cons_zero, List.set_cons_succ, i64_w, i32_w]
       rfl
      refine purS_ (i := 15) (N := some 102) (fl_ 22 16) HT_.out ?_
      refine purS_ (i := 16) (N := some 118) (fl_ 22 17) HT_.out ?_
      refine purS_ (i := 17) (N := some 119) (fl_ 22 18) HT_.out ?_
      refine purS_ (i := 18) (N := some 120) (fl_ 22 19) HT_.out ?_
      refine purS_ (i := 19) (N := some 21) (fl_ 22 20) HT_.out ?_
      refine purS_ (i := 20) (N := some 22) (fl_ 22 21) HT_.out ?_
      refine purS_ (i := 21) (N := some 23) (fl_ 22 22) HT_.out ?_
      refine done_ (done_of HT_.out (by kernel_rfl)) ?_
      obtain ⟨An_, cn_, en_⟩ := Kd.V_slice HO_17.out
      subst en_
      (try have nz_ := (HNZ.out _ _ _ rfl).trans c131b0)
      try go_wp2
      go_roundg k3
      case measure => have := HJ6.out; have := HK2.out; have := HK3.out; omega
      case rel => exact ⟨(x17_3), (x18_3), (wrap64 (x98_3 + 1)), rt_, rt_, H', ⟨by have := HJ6.out; have := HK2.out; have := HK3.out; omega⟩, ⟨vd_to HO_17⟩, ⟨vd_to HO_96⟩, ⟨blk_to BK223⟩, ⟨blk_to BK224⟩, ⟨below_to2 HB GE223.out GE224.out⟩, HNZ⟩
     rw [if_pos c134] at H
     have c134b0 := decide_eq_true c134
     clear c134
     have H' := Aside0.mk H
     clear H
     have p250 : 0 ≤ (x98_3 : Int) := odt_
     have q250 : x98_3 < (l4.length : Int) := odt_
     obtain ⟨ad250, A250_0, c250_0, e250, hx250_0, hl250_0, hi250_0⟩ := at_L1 (Kd.V_reads' HO_96.out).2.2 x98_3 p250 q250
     cases e250
     obtain ⟨ce250, hce250, hMe250, hcc250⟩ := Kd.V_get HO_96.out [] x98_3 p250 (by first | exact q250 | exact of_decide_eq_true (by first | (with_reducible assumption) | assumption) | (have e_ := (Kd.V_reads' HO_96.out).1; omega))
     obtain ⟨ua250_0, uc250_0, rfl, ul250_0, ge250_0⟩ := Kd.FK_slice_open hMe250
     have hv250_0 := hcc250 0 _ rfl
     rw [Nat.add_zero, show ((Kd.slice 3 (Kd.int .i64))).sz = 1 from rfl, Nat.mul_one] at hv250_0
     replace hv250_0 := Option.some.inj (hv250_0.symm.trans hx250_0)
     injection hv250_0 with hva_ hvn_ hvc_
     rw [hva_] at ge250_0
     rw [hvc_] at ul250_0
     have HL250_0 := Aside0.mk (show Kd.V (Kd.int .i64) 3 _ w.heap.size _ _ (rd_L1 l4 x98_3) from Kd.V_mk ul250_0 ge250_0)
     clear hva_ hvn_ hvc_ ge250_0 ul250_0
     clear hcc250 hce250
     have HR250_0 := Aside0.mk hi250_0
     have HC250_0 := Aside0.mk hl250_0
     clear hi250_0 hl250_0
     replace p250 := eq_true p250
     replace q250 := eq_true q250
     try go_wp2
     have n0_ := Aside0.mk (Kd.V_drew HO_17.out)
     have n1_ := Aside0.mk (Kd.V_drew HO_96.out)
     have n2_ := Aside0.mk (Kd.V_drew HL250_0.out)
     have n3_ := Aside0.mk (blk_drew BK223.out)
     have n4_ := Aside0.mk (blk_drew BK224.out)
     have n5_ := Aside0.mk (Kd.C_drew HR250_0.out)
     have n6_ := Aside0.mk (below_drew1 HB.out)
     clear HO_17
     clear HO_96
     clear HL250_0
     clear BK223
     clear BK224
     clear HR250_0
     clear HB
     have HO_17 := n0_
     have HO_96 := n1_
     have HL250_0 := n2_
     have BK223 := n3_
     have BK224 := n4_
     have HR250_0 := n5_
     have HB := n6_
     clear n0_ n1_ n2_ n3_ n4_ n5_ n6_
     have p251 : 0 ≤ (0 : Int) := (by omega)
     have q251 : 0 < ((rd_L1 l4 x98_3).length : Int) := odt_
     obtain ⟨ad251, e251, hx251_0⟩ := Kd.at_int (by repeat (first | (with_reducible exact HR250_0.out) | (with_reducible refine Kd.C_alloc ?_ _) | (with_reducible refine Kd.C_drewN ?_ _) | (with_reducible refine Kd.C_drew ?_) | exact HR250_0.out)) 0 p251 q251
     cases e251
     have qi251 : (0 < (rd_L1 l4 x98_3).length) = True := eq_true (by omega)
     (try rw [show ((0 : Int)).toNat = 0 from rfl] at hx251_0)
     (try rw [Addr.add_zero'] at hx251_0)
     replace p251 := eq_true p251
     replace q251 := eq_true q251
     have p252 : 0 ≤ (1 : Int) := (by omega)
     have q252 : 1 < ((rd_L1 l4 x98_3).length : Int) := odt_
     obtain ⟨ad252, e252, hx252_0⟩ := Kd.at_int (by repeat (first | (with_reducible exact HR250_0.out) | (with_reducible refine Kd.C_alloc ?_ _) | (with_reducible refine Kd.C_drewN ?_ _) | (with_reducible refine Kd.C_drew ?_) | exact HR250_0.out)) 1 p252 q252
     obtain rfl : ad251 = ad252 := (by injection e252)
     (try simp only [show (1 : Int).toNat = 1 from rfl, Nat.reduceMul, Nat.reduceEqDiff, Go.Addr.add, ↓reduceIte] at hx252_0)
     have qi252 : (1 < (rd_L1 l4 x98_3).length) = True := eq_true (by omega)
     (try rw [show ((1 : Int)).toNat = 1 from rfl] at hx252_0)
     replace p252 := eq_true p252
     replace q252 := eq_true q252
     have p253 : 0 ≤ (2 : Int) := (by omega)
     have q253 : 2 < ((rd_L1 l4 x98_3).length : Int) := odt_
     obtain ⟨ad253, e253, hx253_0⟩ := Kd.at_int (by repeat (first | (with_reducible exact HR250_0.out) | (with_reducible refine Kd.C_alloc ?_ _) | (with_reducible refine Kd.C_drewN ?_ _) | (with_reducible refine Kd.C_drew ?_) | exact HR250_0.out)) 2 p253 q253
     obtain rfl : ad251 = ad253 := (by injection e253)
     (try simp only [show (2 : Int).toNat = 2 from rfl, Nat.reduceMul, Nat.reduceEqDiff, Go.Addr.add, ↓reduceIte] at hx253_0)
     have qi253 : (2 < (rd_L1 l4 x98_3).length) = True := eq_true (by omega)
     (try rw [show ((2 : Int)).toNat = 2 from rfl] at hx253_0)
     replace p253 := eq_true p253
     replace q253 := eq_true q253
     refine start_ (n := 22) (S := fun w' => w'.cell? ⟨gb223, 0, none⟩ = some (.int .i64 a0_0) ∧ w'.cell? ⟨gb223, 1, none⟩ = some (.int .i64 a0_1) ∧ w'.cell? ⟨gb223, 2, none⟩ = some (.int .i64 a0_2) ∧ w'.cell? ⟨gb223, 3, none⟩ = some (.slice A0_3 l0_3.length c0_3) ∧ w'.cell? ⟨gb224, 0, none⟩ = some (.int .i64 a2_0) ∧ w'.cell? ⟨gb224, 1, none⟩ = some (.int .i64 a2_1) ∧ w'.cell? ⟨gb224, 2, none⟩ = some (.int .i64 a2_2) ∧ w'.cell? ⟨gb224, 3, none⟩ = some (.slice A2_3 l2_3.length c2_3) ∧ w'.cell? ad251 = some (.int .i64 (rd (rd_L1 l4 x98_3) 0)) ∧ w'.cell? ⟨ad251.block, ad251.off + 1, none⟩ = some (.int .i64 (rd (rd_L1 l4 x98_3) 1)) ∧ w'.cell? ⟨ad251.block, ad251.off + 2, none⟩ = some (.int .i64 (rd (rd_L1 l4 x98_3) 2))) (ds := []) (fr_ [0, 22]) (by kernel_rfl) rfl rfl ⟨(blk_cell BK223.out 0).trans rfl, (blk_cell BK223.out 1).trans rfl, (blk_cell BK223.out 2).trans rfl, (blk_cell BK223.out 3).trans rfl, (blk_cell BK224.out 0).trans rfl, (blk_cell BK224.out 1).trans rfl, (blk_cell BK224.out 2).trans rfl, (blk_cell BK224.out 3).trans rfl, hx251_0, hx252_0, hx253_0⟩ (fun hHeld => ?_); refine with_tabW impl_BestChange.tab14 impl_BestChange.bits14 (fun HT_ HW_ => ?_)
     generalize wr.drew = w135 at HO_17 HO_96 HL250_0 BK223 BK224 HR250_0 HB hx251_0 hx252_0 hx253_0 hHeld ⊢
     refine purS_ (i := 1) (N := some 104) (fr_ [0, 1, 1, 20]) HT_.out ?_
     refine purS_ (i := 2) (N := some 105) (fr_ [0, 1, 2, 19]) HT_.out ?_
     refine purS_ (i := 3) (N := some 106) (fr_ [0, 1, 3, 18]) HT_.out ?_
     refine purS_ (i := 6) (N := some 109) (fr_ [0, 1, 3, 2, 1, 15]) HT_.out ?_
     refine purS_ (i := 7) (N := some 110) (fr_ [0, 1, 3, 2, 2, 14]) HT_.out ?_
     refine purS_ (i := 9) (N := some 112) (fr_ [0, 1, 3, 2, 2, 1, 1, 12]) HT_.out ?_
     refine purS_ (i := 10) (N := some 113) (fr_ [0, 1, 3, 2, 2, 1, 2, 11]) HT_.out ?_
     refine purS_ (i := 11) (N := some 114) (fr_ [0, 1, 3, 2, 2, 1, 3, 10]) HT_.out ?_
     refine purS_ (i := 13) (N := some 116) (fr_ [0, 1, 3, 2, 2, 1, 3, 1, 1, 8]) HT_.out ?_
     refine take_ (i := 0) (N := some 103) (v := ?_) (a' := ?_) (fr_ [4, 2, 2, 1, 3, 1, 1, 8]) rfl rfl (take_ofW HT_.out HW_.out (by kernel_rfl)) (fun _ _ _ h => h) (Or.inl ⟨by rfl, ?_⟩) hHeld ?_ ?_
     rotate_left
     ·rintro w' ⟨s0, s1, s2, s3, s4, s5, s6, s7, s8, s9, s10⟩
      go_simp
      with_reducible rfl
     rotate_left
     ·simp only [Act.put, List.setIfInBounds_toArray, List.set_cons_zero, List.set_cons_succ, i64_w, i32_w]
      rfl
     refine take_ (i := 4) (N := some 107) (v := ?_) (a' := ?_) (fr_ [5, 1, 2, 1, 3, 1, 1, 8]) rfl rfl (take_ofW HT_.out HW_.out (by kernel_rfl)) (fun _ _ _ h => h) (Or.inl ⟨by rfl, ?_⟩) hHeld ?_ ?_
     rotate_left
     ·rintro w' ⟨s0, s1, s2, s3, s4, s5, s6, s7, s8, s9, s10⟩
      go_simp
      with_reducible rfl
     rotate_left
     ·simp only [Act.put, List.setIfInBounds_toArray, List.set_cons_zero, List.set_cons_succ, i64_w, i32_w]
      rfl
     refine take_ (i := 5) (N := some 108) (v := ?_) (a' := ?_) (fr_ [8, 1, 3, 1, 1, 8]) rfl rfl (take_ofW HT_.out HW_.out (by kernel_rfl)) (fun _ _ _ h => h) (Or.inl ⟨by rfl, ?_⟩) hHeld ?_ ?_
     rotate_left
     ·rintro w' ⟨s0, s1, s2, s3, s4, s5, s6, s7, s8, s9, s10⟩
      go_simp
      with_reducible rfl
     rotate_left
     ·simp only [Act.put, List.setIfInBounds_toArray, List.set_cons_zero, List.set_cons_succ, i64_w, i32_w]
      rfl
     refine take_ (i := 8) (N := some 111) (v := ?_) (a' := ?_) (fr_ [12, 1, 1, 8]) rfl rfl (take_ofW HT_.out HW_.out (by kernel_rfl)) (fun _ _ _ h => h) (Or.inl ⟨by rfl, ?_⟩) hHeld ?_ ?_
     rotate_left
     ·rintro w' ⟨s0, s1, s2, s3, s4, s5, s6, s7, s8, s9, s10⟩
      go_simp
      with_reducible rfl
     rotate_left
     ·simp only [Act.put, List.setIfInBounds_toArray, List.set_cons_zero, List.set_cons_succ, i64_w, i32_w]
      rfl
     refine take_ (i := 12) (N := some 115) (v := ?_) (a' := ?_) (fr_ [14, 8]) rfl rfl (take_ofW HT_.out HW_.out (by kernel_rfl)) (fun _ _ _ h => h) (Or.inl ⟨by rfl, ?_⟩) hHeld ?_ ?_
     rotate_left
     ·rintro w' ⟨s0, s1, s2, s3, s4, s5, s6, s7, s8, s9, s10⟩
      go_simp
      with_reducible rfl
     rotate_left
     ·simp only [Act.put, List.setIfInBounds_toArray, List.set_cons_zero, List.set_cons_succ, i64_w, i32_w]
      rfl
     refine one_ (i := 14) (N := some 117) (fr_ [15, 7]) rfl rfl (one_of HT_.out (by kernel_rfl)) (by decide) (fun K hK => ?_)
     refine goes_ Try.func53 (by kernel_rfl) rfl #[.agg #[.int .i64 a0_0, .int .i64 a0_1, .int .i64 a0_2, .slice A0_3 l0_3.length c0_3], .int .i64 a1, .int .i64 (rd (rd_L1 l4 x98_3) 0), .agg #[.int .i64 a2_0, .int .i64 a2_1, .int .i64 a2_2, .slice A2_3 l2_3.length c2_3], .int .i64 (rd (rd_L1 l4 x98_3) 1), .int .i64 a3, .int .i64 (rd (rd_L1 l4 x98_3) 2), .int .i64 a5] (by rfl) rfl rfl am_ ?_
     with_reducible refine (impl_changeAt.calls a0_0 a0_1 a0_2 _ _ l0_3 a1 (rd (rd_L1 l4 x98_3) 0) a2_0 a2_1 a2_2 _ _ l2_3 (rd (rd_L1 l4 x98_3) 1) a3 (rd (rd_L1 l4 x98_3) 2) a5 t254 t255 true _ ?side1 ?side2 ?side3 ?side4 A129.out).mono ?_
     (case side1 => exact cb_ HR0_3 HB)
     (case side2 => exact HC0_3.out)
     (case side3 => exact cb_ HR2_3 HB)
     (case side4 => exact HC2_3.out)
     rintro e w136 ⟨rfl, hb⟩
     have HS8_ := (hb.cell (World.block_lt_of_cell? _ _ (hHeld.2.2.2.2.2.2.2.2.1))).trans (hHeld.2.2.2.2.2.2.2.2.1)
     have HS9_ := (hb.cell (World.block_lt_of_cell? _ _ (hHeld.2.2.2.2.2.2.2.2.2.1))).trans (hHeld.2.2.2.2.2.2.2.2.2.1)
     have HS10_ := (hb.cell (World.block_lt_of_cell? _ _ (hHeld.2.2.2.2.2.2.2.2.2.2))).trans (hHeld.2.2.2.2.2.2.2.2.2.2)
     refine ⟨_, rfl, ?_⟩
     have n0_ := Aside0.mk (Kd.V_below (vd_to HO_17) hb)
     have n1_ := Aside0.mk (Kd.V_below (vd_to HO_96) hb)
     have n2_ := Aside0.mk (Kd.V_below (vd_to HL250_0) hb)
     have n3_ := Aside0.mk (blk_below (blk_to BK223) hb)
     have n4_ := Aside0.mk (blk_below (blk_to BK224) hb)
     have n5_ := Aside0.mk (Kd.C_below (by repeat (first | (with_reducible exact HR250_0.out) | (with_reducible refine Kd.C_alloc ?_ _) | (with_reducible refine Kd.C_drewN ?_ _) | (with_reducible refine Kd.C_drew ?_) | exact HR250_0.out)) hb)
     have n6_ := Aside0.mk (below_step (below_to2 HB GE223.out GE224.out) hb)
     clear HO_17
     clear HO_96
     clear HL250_0
     clear BK223
     clear BK224
     clear HR250_0
     clear HB
     have HO_17 := n0_
     have HO_96 := n1_
     have HL250_0 := n2_
     have BK223 := n3_
     have BK224 := n4_
     have HR250_0 := n5_
     have HB := n6_
     clear n0_ n1_ n2_ n3_ n4_ n5_ n6_
     (try clear hb)
     (try clear hb2)
     (try clear hk)
     (try clear hi)
     refine hK.out _ _ ⟨(blk_cell BK223.out 0).trans rfl, (blk_cell BK223.out 1).trans rfl, (blk_cell BK223.out 2).trans rfl, (blk_cell BK223.out 3).trans rfl, (blk_cell BK224.out 0).trans rfl, (blk_cell BK224.out 1).trans rfl, (blk_cell BK224.out 2).trans rfl, (blk_cell BK224.out 3).trans rfl, HS8_, HS9_, HS10_⟩ (fun hHeld => ?_)
     clear hK K
     refine norm_ (a' := ?_) ?_ ?_
     rotate_left
     ·show Act.put _ (some 117) _ = _
      simp only [Act.put, List.setIfInBounds_toArray, List.set_cons_zero, List.set_cons_succ, i64_w, i32_w]
      rfl
     refine purS_ (i := 15) (N := some 102) (fl_ 22 16) HT_.out ?_
     refine purS_ (i := 16) (N := some 118) (fl_ 22 17) HT_.out ?_
     refine purS_ (i := 17) (N := some 119) (fl_ 22 18) HT_.out ?_
     refine purS_ (i := 18) (N := some 120) (fl_ 22 19) HT_.out ?_
     refine purS_ (i := 19) (N := some 21) (fl_ 22 20) HT_.out ?_
     refine purS_ (i := 20) (N := some 22) (fl_ 22 21) HT_.out ?_
     refine purS_ (i := 21) (N := some 23) (fl_ 22 22) HT_.out ?_
     refine done_ (done_of HT_.out (by kernel_rfl)) ?_
     obtain ⟨An_, cn_, en_⟩ := Kd.V_slice HO_17.out
     subst en_
     (try have nz_ := (HNZ.out _ _ _ rfl).trans c131b0)
     try go_wp2
     go_roundg k3
     case measure => have := HJ6.out; have := HK2.out; have := HK3.out; omega
     case rel => exact ⟨(rd_L1 l4 x98_3), (t255), (wrap64 (x98_3 + 1)), rt_, rt_, H', ⟨by have := HJ6.out; have := HK2.out; have := HK3.out; omega⟩, ⟨vd_to HL250_0⟩, ⟨vd_to HO_96⟩, ⟨blk_to BK223⟩, ⟨blk_to BK224⟩, ⟨below_to2 HB GE223.out GE224.out⟩, ⟨impl_BestChange.nz_row HR250_0.out (of_decide_eq_true (by assumption))⟩⟩
   rw [if_pos c57] at H
   have c57b0 := decide_eq_true c57
   clear c57
   by_cases c58 : 0 ≤ x49_2
   rotate_left
   ·rw [if_neg c58] at H
    cases H
   rw [if_pos c58] at H
   have c58b0 := decide_eq_true c58
   clear c58
   by_cases c59 : x49_2 < (l4.length : Int)
   rotate_left
   ·rw [if_neg c59] at H
    cases H
   rw [if_pos c59] at H
   have c59b0 := decide_eq_true c59
   clear c59
   by_cases c60 : ((rd_L1 l4 x49_2).length : Int) = 3
   rotate_left
   ·rw [if_neg c60] at H
    have c60b0 := beq_eq_false_iff_ne.mpr c60
    have c60b1 := bne_iff_ne.mpr c60
    simp only [Option.some.injEq, Prod.mk.injEq] at H
    obtain ⟨rfl, rfl, rfl⟩ := H
    have p235 : 0 ≤ (x49_2 : Int) := odt_
    have q235 : x49_2 < (l4.length : Int) := odt_
    obtain ⟨ad235, A235_0, c235_0, e235, hx235_0, hl235_0, hi235_0⟩ := at_L1 (Kd.V_reads' HO_47.out).2.2 x49_2 p235 q235
    cases e235
    obtain ⟨ce235, hce235, hMe235, hcc235⟩ := Kd.V_get HO_47.out [] x49_2 p235 (by first | exact q235 | exact of_decide_eq_true (by first | (with_reducible assumption) | assumption) | (have e_ := (Kd.V_reads' HO_47.out).1; omega))
    obtain ⟨ua235_0, uc235_0, rfl, ul235_0, ge235_0⟩ := Kd.FK_slice_open hMe235
    have hv235_0 := hcc235 0 _ rfl
    rw [Nat.add_zero, show ((Kd.slice 3 (Kd.int .i64))).sz = 1 from rfl, Nat.mul_one] at hv235_0
    replace hv235_0 := Option.some.inj (hv235_0.symm.trans hx235_0)
    injection hv235_0 with hva_ hvn_ hvc_
    rw [hva_] at ge235_0
    rw [hvc_] at ul235_0
    have HL235_0 := Aside0.mk (show Kd.V (Kd.int .i64) 3 _ w.heap.size _ _ (rd_L1 l4 x49_2) from Kd.V_mk ul235_0 ge235_0)
    clear hva_ hvn_ hvc_ ge235_0 ul235_0
    clear hcc235 hce235
    have HR235_0 := Aside0.mk hi235_0
    have HC235_0 := Aside0.mk hl235_0
    clear hi235_0 hl235_0
    replace p235 := eq_true p235
    replace q235 := eq_true q235
    try go_wp2
    have n0_ := Aside0.mk (Kd.V_drew HO_4.out)
    have n1_ := Aside0.mk (Kd.V_drew HO_47.out)
    have n2_ := Aside0.mk (Kd.V_drew HL235_0.out)
    have n3_ := Aside0.mk (blk_drew BK223.out)
    have n4_ := Aside0.mk (blk_drew BK224.out)
    have n5_ := Aside0.mk (Kd.C_drew HR235_0.out)
    have n6_ := Aside0.mk (below_drew1 HB.out)
    clear HO_4
    clear HO_47
    clear HL235_0
    clear BK223
    clear BK224
    clear HR235_0
    clear HB
    have HO_4 := n0_
    have HO_47 := n1_
    have HL235_0 := n2_
    have BK223 := n3_
    have BK224 := n4_
    have HR235_0 := n5_
    have HB := n6_
    clear n0_ n1_ n2_ n3_ n4_ n5_ n6_
    refine start_ (n := 42) (S := fun w' => True) (ds := []) (fr_ [0, 42]) (by kernel_rfl) rfl rfl trivial (fun hHeld => ?_); refine with_tabW impl_BestChange.tab6 impl_BestChange.bits6 (fun HT_ HW_ => ?_)
    generalize wr.drew = w122 at HO_4 HO_47 HL235_0 BK223 BK224 HR235_0 HB hHeld ⊢
    refine purS_ (i := 0) (N := some 53) (fl_ 42 1) HT_.out ?_
    refine purS_ (i := 1) (N := some 54) (fl_ 42 2) HT_.out ?_
    refine purS_ (i := 2) (N := some 55) (fl_ 42 3) HT_.out ?_
    refine purS_ (i := 3) (N := some 56) (fl_ 42 4) HT_.out ?_
    refine pure_ (i := 4) (N := some 57) (v := undef) (a' := ?_) (fl_ 42 5) rfl rfl (any_of HT_.out (by kernel_rfl)) (fun _ _ _ h => h) (Or.inr ⟨by rfl, rfl⟩) ?_ ?_
    rotate_left
    ·simp only [Act.put, List.setIfInBounds_toArray, List.set_cons_zero, List.set_cons_succ, i64_w, i32_w]
     rfl
    refine pure_ (i := 5) (N := some 58) (v := undef) (a' := ?_) (fl_ 42 6) rfl rfl (any_of HT_.out (by kernel_rfl)) (fun _ _ _ h => h) (Or.inr ⟨by rfl, rfl⟩) ?_ ?_
    rotate_left
    ·simp only [Act.put, List.setIfInBounds_toArray, List.set_cons_zero, List.set_cons_succ, i64_w, i32_w]
     rfl
    refine pure_ (i := 6) (N := some 59) (v := undef) (a' := ?_) (fl_ 42 7) rfl rfl (any_of HT_.out (by kernel_rfl)) (fun _ _ _ h => h) (Or.inr ⟨by rfl, rfl⟩) ?_ ?_
    rotate_left
    ·simp only [Act.put, List.setIfInBounds_toArray, List.set_cons_zero, List.set_cons_succ, i64_w, i32_w]
     rfl
    refine pure_ (i := 7) (N := some 60) (v := undef) (a' := ?_) (fl_ 42 8) rfl rfl (any_of HT_.out (by kernel_rfl)) (fun _ _ _ h => h) (Or.inr ⟨by rfl, rfl⟩) ?_ ?_
    rotate_left
    ·simp only [Act.put, List.setIfInBounds_toArray, List.set_cons_zero, List.set_cons_succ, i64_w, i32_w]
     rfl
    refine pure_ (i := 8) (N := some 61) (v := undef) (a' := ?_) (fl_ 42 9) rfl rfl (any_of HT_.out (by kernel_rfl)) (fun _ _ _ h => h) (Or.inr ⟨by rfl, rfl⟩) ?_ ?_
    rotate_left
    ·simp only [Act.put, List.setIfInBounds_toArray, List.set_cons_zero, List.set_cons_succ, i64_w, i32_w]
     rfl
    refine pure_ (i := 9) (N := some 62) (v := undef) (a' := ?_) (fl_ 42 10) rfl rfl (any_of HT_.out (by kernel_rfl)) (fun _ _ _ h => h) (Or.inr ⟨by rfl, rfl⟩) ?_ ?_
    rotate_left
    ·simp only [Act.put, List.setIfInBounds_toArray, List.set_cons_zero, List.set_cons_succ, i64_w, i32_w]
     rfl
    refine pure_ (i := 10) (N := some 63) (v := undef) (a' := ?_) (fl_ 42 11) rfl rfl (any_of HT_.out (by kernel_rfl)) (fun _ _ _ h => h) (Or.inr ⟨by rfl, rfl⟩) ?_ ?_
    rotate_left
    ·simp only [Act.put, List.setIfInBounds_toArray, List.set_cons_zero, List.set_cons_succ, i64_w, i32_w]
     rfl
    refine purS_ (i := 11) (N := some 64) (fl_ 42 12) HT_.out ?_
    refine purS_ (i := 12) (N := some 65) (fl_ 42 13) HT_.out ?_
    refine pure_ (i := 13) (N := some 66) (v := undef) (a' := ?_) (fl_ 42 14) rfl rfl (any_of HT_.out (by kernel_rfl)) (fun _ _ _ h => h) (Or.inr ⟨by rfl, rfl⟩) ?_ ?_
    rotate_left
    ·simp only [Act.put, List.setIfInBounds_toArray, List.set_cons_zero, List.set_cons_succ, i64_w, i32_w]
     rfl
    refine pure_ (i := 14) (N := some 67) (v := undef) (a' := ?_) (fl_ 42 15) rfl rfl (any_of HT_.out (by kernel_rfl)) (fun _ _ _ h => h) (Or.inr ⟨by rfl, rfl⟩) ?_ ?_
    rotate_left
    ·simp only [Act.put, List.setIfInBounds_toArray, List.set_cons_zero, List.set_cons_succ, i64_w, i32_w]
     rfl
    refine pure_ (i := 15) (N := some 68) (v := undef) (a' := ?_) (fl_ 42 16) rfl rfl (any_of HT_.out (by kernel_rfl)) (fun _ _ _ h => h) (Or.inr ⟨by rfl, rfl⟩) ?_ ?_
    rotate_left
    ·simp only [Act.put, List.setIfInBounds_toArray, List.set_cons_zero, List.set_cons_succ, i64_w, i32_w]
     rfl
    refine pure_ (i := 16) (N := some 69) (v := undef) (a' := ?_) (fl_ 42 17) rfl rfl (any_of HT_.out (by kernel_rfl)) (fun _ _ _ h => h) (Or.inr ⟨by rfl, rfl⟩) ?_ ?_
    rotate_left
    ·simp only [Act.put, List.setIfInBounds_toArray, List.set_cons_zero, List.set_cons_succ, i64_w, i32_w]
     rfl
    refine pure_ (i := 17) (N := some 70) (v := undef) (a' := ?_) (fl_ 42 18) rfl rfl (any_of HT_.out (by kernel_rfl)) (fun _ _ _ h => h) (Or.inr ⟨by rfl, rfl⟩) ?_ ?_
    rotate_left
    ·simp only [Act.put, List.setIfInBounds_toArray, List.set_cons_zero, List.set_cons_succ, i64_w, i32_w]
     rfl
    refine pure_ (i := 18) (N := some 71) (v := undef) (a' := ?_) (fl_ 42 19) rfl rfl (any_of HT_.out (by kernel_rfl)) (fun _ _ _ h => h) (Or.inr ⟨by rfl, rfl⟩) ?_ ?_
    rotate_left
    ·simp only [Act.put, List.setIfInBounds_toArray, List.set_cons_zero, List.set_cons_succ, i64_w, i32_w]
     rfl
    refine pure_ (i := 19) (N := some 72) (v := undef) (a' := ?_) (fl_ 42 20) rfl rfl (any_of HT_.out (by kernel_rfl)) (fun _ _ _ h => h) (Or.inr ⟨by rfl, rfl⟩) ?_ ?_
    rotate_left
    ·simp only [Act.put, List.setIfInBounds_toArray, List.set_cons_zero, List.set_cons_succ, i64_w, i32_w]
     rfl
    refine purS_ (i := 20) (N := some 73) (fl_ 42 21) HT_.out ?_
    refine purS_ (i := 21) (N := some 74) (fl_ 42 22) HT_.out ?_
    refine pure_ (i := 22) (N := some 75) (v := undef) (a' := ?_) (fl_ 42 23) rfl rfl (any_of HT_.out (by kernel_rfl)) (fun _ _ _ h => h) (Or.inr ⟨by rfl, rfl⟩) ?_ ?_
    rotate_left
    ·simp only [Act.put, List.setIfInBounds_toArray, List.set_cons_zero, List.set_cons_succ, i64_w, i32_w]
     rfl
    refine pure_ (i := 23) (N := some 76) (v := undef) (a' := ?_) (fl_ 42 24) rfl rfl (any_of HT_.out (by kernel_rfl)) (fun _ _ _ h => h) (Or.inr ⟨by rfl, rfl⟩) ?_ ?_
    rotate_left
    ·simp only [Act.put, List.setIfInBounds_toArray, List.set_cons_zero, List.set_cons_succ, i64_w, i32_w]
     rfl
    refine pure_ (i := 24) (N := some 77) (v := undef) (a' := ?_) (fl_ 42 25) rfl rfl (any_of HT_.out (by kernel_rfl)) (fun _ _ _ h => h) (Or.inr ⟨by rfl, rfl⟩) ?_ ?_
    rotate_left
    ·simp only [Act.put, List.setIfInBounds_toArray, List.set_cons_zero, List.set_cons_succ, i64_w, i32_w]
     rfl
    refine pure_ (i := 25) (N := some 78) (v := undef) (a' := ?_) (fl_ 42 26) rfl rfl (any_of HT_.out (by kernel_rfl)) (fun _ _ _ h => h) (Or.inr ⟨by rfl, rfl⟩) ?_ ?_
    rotate_left
    ·simp only [Act.put, List.setIfInBounds_toArray, List.set_cons_zero, List.set_cons_succ, i64_w, i32_w]
     rfl
    refine pure_ (i := 26) (N := some 79) (v := undef) (a' := ?_) (fl_ 42 27) rfl rfl (any_of HT_.out (by kernel_rfl)) (fun _ _ _ h => h) (Or.inr ⟨by rfl, rfl⟩) ?_ ?_
    rotate_left
    ·simp only [Act.put, List.setIfInBounds_toArray, List.set_cons_zero, List.set_cons_succ, i64_w, i32_w]
     rfl
    refine purS_ (i := 27) (N := some 80) (fl_ 42 28) HT_.out ?_
    refine purS_ (i := 28) (N := some 81) (fl_ 42 29) HT_.out ?_
    refine pure_ (i := 29) (N := some 82) (v := undef) (a' := ?_) (fl_ 42 30) rfl rfl (any_of HT_.out (by kernel_rfl)) (fun _ _ _ h => h) (Or.inr ⟨by rfl, rfl⟩) ?_ ?_
    rotate_left
    ·simp only [Act.put, List.setIfInBounds_toArray, List.set_cons_zero, List.set_cons_succ, i64_w, i32_w]
     rfl
    refine pure_ (i := 30) (N := some 83) (v := undef) (a' := ?_) (fl_ 42 31) rfl rfl (any_of HT_.out (by kernel_rfl)) (fun _ _ _ h => h) (Or.inr ⟨by rfl, rfl⟩) ?_ ?_
    rotate_left
    ·simp only [Act.put, List.setIfInBounds_toArray, List.set_cons_zero, List.set_cons_succ, i64_w, i32_w]
     rfl
    refine pure_ (i := 31) (N := some 84) (v := undef) (a' := ?_) (fl_ 42 32) rfl rfl (any_of HT_.out (by kernel_rfl)) (fun _ _ _ h => h) (Or.inr ⟨by rfl, rfl⟩) ?_ ?_
    rotate_left
    ·simp only [Act.put, List.setIfInBounds_toArray, List.set_cons_zero, List.set_cons_succ, i64_w, i32_w]
     rfl
    refine pure_ (i := 32) (N := some 85) (v := undef) (a' := ?_) (fl_ 42 33) rfl rfl (any_of HT_.out (by kernel_rfl)) (fun _ _ _ h => h) (Or.inr ⟨by rfl, rfl⟩) ?_ ?_
    rotate_left
    ·simp only [Act.put, List.setIfInBounds_toArray, List.set_cons_zero, List.set_cons_succ, i64_w, i32_w]
     rfl
    refine pure_ (i := 33) (N := some 86) (v := undef) (a' := ?_) (fl_ 42 34) rfl rfl (any_of HT_.out (by kernel_rfl)) (fun _ _ _ h => h) (Or.inr ⟨by rfl, rfl⟩) ?_ ?_
    rotate_left
    ·simp only [Act.put, List.setIfInBounds_toArray, List.set_cons_zero, List.set_cons_succ, i64_w, i32_w]
     rfl
    refine purS_ (i := 34) (N := some 87) (fl_ 42 35) HT_.out ?_
    refine purS_ (i := 35) (N := some 88) (fl_ 42 36) HT_.out ?_
    refine pure_ (i := 36) (N := some 89) (v := undef) (a' := ?_) (fl_ 42 37) rfl rfl (any_of HT_.out (by kernel_rfl)) (fun _ _ _ h => h) (Or.inr ⟨by rfl, rfl⟩) ?_ ?_
    rotate_left
    ·simp only [Act.put, List.setIfInBounds_toArray, List.set_cons_zero, List.set_cons_succ, i64_w, i32_w]
     rfl
    refine pure_ (i := 37) (N := some 90) (v := undef) (a' := ?_) (fl_ 42 38) rfl rfl (any_of HT_.out (by kernel_rfl)) (fun _ _ _ h => h) (Or.inr ⟨by rfl, rfl⟩) ?_ ?_
    rotate_left
    ·simp only [Act.put, List.setIfInBounds_toArray, List.set_cons_zero, List.set_cons_succ, i64_w, i32_w]
     rfl
    refine pure_ (i := 38) (N := some 91) (v := undef) (a' := ?_) (fl_ 42 39) rfl rfl (any_of HT_.out (by kernel_rfl)) (fun _ _ _ h => h) (Or.inr ⟨by rfl, rfl⟩) ?_ ?_
    rotate_left
    ·simp only [Act.put, List.setIfInBounds_toArray, List.set_cons_zero, List.set_cons_succ, i64_w, i32_w]
     rfl
    refine pure_ (i := 39) (N := some 92) (v := undef) (a' := ?_) (fl_ 42 40) rfl rfl (any_of HT_.out (by kernel_rfl)) (fun _ _ _ h => h) (Or.inr ⟨by rfl, rfl⟩) ?_ ?_
    rotate_left
    ·simp only [Act.put, List.setIfInBounds_toArray, List.set_cons_zero, List.set_cons_succ, i64_w, i32_w]
     rfl
    refine pure_ (i := 40) (N := some 93) (v := undef) (a' := ?_) (fl_ 42 41) rfl rfl (any_of HT_.out (by kernel_rfl)) (fun _ _ _ h => h) (Or.inr ⟨by rfl, rfl⟩) ?_ ?_
    rotate_left
    ·simp only [Act.put, List.setIfInBounds_toArray, List.set_cons_zero, List.set_cons_succ, i64_w, i32_w]
     rfl
    refine purS_ (i := 41) (N := some 94) (fl_ 42 42) HT_.out ?_
    refine done_ (done_of HT_.out (by kernel_rfl)) ?_
    try go_wp2
    go_ret3
    exact ⟨_, rtE_, by first | exact Kd.R_nil _ _ _ _ _ | exact Kd.N_nil _ _ _ _ _ | exact Kd.V_nil _ _ _ _ _ | exact Kd.Q_nil _ _ _ _ _ | exact Kd.S_nil _ _ _ _ _, below_to2 HB GE223.out GE224.out⟩
   rw [if_pos c60] at H
   have c60b0 := beq_iff_eq.mpr c60
   have c60b1 := bne_eq_false_iff_eq.mpr c60
   clear c60
   by_cases c61 : 0 < ((rd_L1 l4 x49_2).length : Int)
   rotate_left
   ·rw [if_neg c61] at H
    cases H
   rw [if_pos c61] at H
   have c61b0 := decide_eq_true c61
   have c61b1 : decide (0 < (rd_L1 l4 x49_2).length) = true := decide_eq_true (by omega)
   clear c61
   obtain ⟨y237, hy237⟩ : ∃ y_ : List Int, y_ = (([rd (rd_L1 l4 x49_2) 0] : List Int)) := ⟨_, rfl⟩
   replace H : ((impl_hasStops.f k2 a0_0 a0_1 a0_2 l0_3 y237).bind fun t240 => (if t240 = true then (if 1 < ((rd_L1 l4 x49_2).length : Int) then ((impl_hasStops.f k2 a2_0 a2_1 a2_2 l2_3 (([rd (rd_L1 l4 x49_2) 1] : List Int))).bind fun t245 => (if t245 = true then (if a1 ≥ (rd (rd_L1 l4 x49_2) 0) then (some (([] : List Int), 0, false)) else (if (rd (rd_L1 l4 x49_2) 1) ≥ a3 then (some (([] : List Int), 0, false)) else (if 2 < ((rd_L1 l4 x49_2).length : Int) then ((impl_isWalk.f (rd (rd_L1 l4 x49_2) 2)).bind fun t249 => (if t249 = true then (impl_BestChange.l0 k2 a1 a3 l4 a5 l4 (l4.length : Int) (wrap64 (x49_2 + 1)) a0_0 a0_1 a0_2 l0_3 a2_0 a2_1 a2_2 l2_3) else (some (([] : List Int), 0, false)))) else (none)))) else (some (([] : List Int), 0, false)))) else (none)) else (some (([] : List Int), 0, false)))) = some (r1, r2, r3) := by first | (rw [hy237]; with_reducible exact H) | (have H2_ := (Option.bind_some _ _).symm.trans H; rw [hy237]; with_reducible exact H2_) | (have H2_ := (Option.bind_some _ _).symm.trans H; with_reducible exact H2_) | with_reducible exact H | (rw [hy237]; exact H) | exact H
   have Ny237 := Aside0.mk hy237
   clear hy237
   replace H := Option.bind_eq_some_iff.mp H
   obtain ⟨t240, A620, H⟩ := H
   (try dsimp only at H)
   have A62 := Aside0.mk A620
   clear A620
   by_cases c63 : t240 = true
   rotate_left
   ·replace c63 := Bool.eq_false_iff.mpr c63
    subst c63
    rw [if_neg ft_] at H
    simp only [Option.some.injEq, Prod.mk.injEq] at H
    obtain ⟨rfl, rfl, rfl⟩ := H
    have p235 : 0 ≤ (x49_2 : Int) := odt_
    have q235 : x49_2 < (l4.length : Int) := odt_
    obtain ⟨ad235, A235_0, c235_0, e235, hx235_0, hl235_0, hi235_0⟩ := at_L1 (Kd.V_reads' HO_47.out).2.2 x49_2 p235 q235
    cases e235
    obtain ⟨ce235, hce235, hMe235, hcc235⟩ := Kd.V_get HO_47.out [] x49_2 p235 (by first | exact q235 | exact of_decide_eq_true (by first | (with_reducible assumption) | assumption) | (have e_ := (Kd.V_reads' HO_47.out).1; omega))
    obtain ⟨ua235_0, uc235_0, rfl, ul235_0, ge235_0⟩ := Kd.FK_slice_open hMe235
    have hv235_0 := hcc235 0 _ rfl
    rw [Nat.add_zero, show ((Kd.slice 3 (Kd.int .i64))).sz = 1 from rfl, Nat.mul_one] at hv235_0
    replace hv235_0 := Option.some.inj (hv235_0.symm.trans hx235_0)
    injection hv235_0 with hva_ hvn_ hvc_
    rw [hva_] at ge235_0
    rw [hvc_] at ul235_0
    have HL235_0 := Aside0.mk (show Kd.V (Kd.int .i64) 3 _ w.heap.size _ _ (rd_L1 l4 x49_2) from Kd.V_mk ul235_0 ge235_0)
    clear hva_ hvn_ hvc_ ge235_0 ul235_0
    clear hcc235 hce235
    have HR235_0 := Aside0.mk hi235_0
    have HC235_0 := Aside0.mk hl235_0
    clear hi235_0 hl235_0
    replace p235 := eq_true p235
    replace q235 := eq_true q235
    try go_wp2
    have n0_ := Aside0.mk (Kd.V_drew HO_4.out)
    have n1_ := Aside0.mk (Kd.V_drew HO_47.out)
    have n2_ := Aside0.mk (Kd.V_drew HL235_0.out)
    have n3_ := Aside0.mk (blk_drew BK223.out)
    have n4_ := Aside0.mk (blk_drew BK224.out)
    have n5_ := Aside0.mk (Kd.C_drew HR235_0.out)
    have n6_ := Aside0.mk (below_drew1 HB.out)
    clear HO_4
    clear HO_47
    clear HL235_0
    clear BK223
    clear BK224
    clear HR235_0
    clear HB
    have HO_4 := n0_
    have HO_47 := n1_
    have HL235_0 := n2_
    have BK223 := n3_
    have BK224 := n4_
    have HR235_0 := n5_
    have HB := n6_
    clear n0_ n1_ n2_ n3_ n4_ n5_ n6_
    have p236 : 0 ≤ (0 : Int) := (by omega)
    have q236 : 0 < ((rd_L1 l4 x49_2).length : Int) := odt_
    obtain ⟨ad236, e236, hx236_0⟩ := Kd.at_int (by repeat (first | (with_reducible exact HR235_0.out) | (with_reducible refine Kd.C_alloc ?_ _) | (with_reducible refine Kd.C_drewN ?_ _) | (with_reducible refine Kd.C_drew ?_) | exact HR235_0.out)) 0 p236 q236
    cases e236
    have qi236 : (0 < (rd_L1 l4 x49_2).length) = True := eq_true (by omega)
    (try rw [show ((0 : Int)).toNat = 0 from rfl] at hx236_0)
    (try rw [Addr.add_zero'] at hx236_0)
    replace p236 := eq_true p236
    replace q236 := eq_true q236
    refine start_ (n := 42) (S := fun w' => w'.cell? ⟨gb223, 0, none⟩ = some (.int .i64 a0_0) ∧ w'.cell? ⟨gb223, 1, none⟩ = some (.int .i64 a0_1) ∧ w'.cell? ⟨gb223, 2, none⟩ = some (.int .i64 a0_2) ∧ w'.cell? ⟨gb223, 3, none⟩ = some (.slice A0_3 l0_3.length c0_3) ∧ w'.cell? ad236 = some (.int .i64 (rd (rd_L1 l4 x49_2) 0))) (ds := []) (fr_ [0, 42]) (by kernel_rfl) rfl rfl ⟨(blk_cell BK223.out 0).trans rfl, (blk_cell BK223.out 1).trans rfl, (blk_cell BK223.out 2).trans rfl, (blk_cell BK223.out 3).trans rfl, hx236_0⟩ (fun hHeld => ?_); refine with_tabW impl_BestChange.tab6 impl_BestChange.bits6 (fun HT_ HW_ => ?_)
    generalize wr.drew = w117 at HO_4 HO_47 HL235_0 BK223 BK224 HR235_0 HB hx236_0 hHeld ⊢
    refine purS_ (i := 0) (N := some 53) (fl_ 42 1) HT_.out ?_
    refine purS_ (i := 1) (N := some 54) (fl_ 42 2) HT_.out ?_
    refine purS_ (i := 2) (N := some 55) (fl_ 42 3) HT_.out ?_
    refine purS_ (i := 3) (N := some 56) (fl_ 42 4) HT_.out ?_
    refine purS_ (i := 5) (N := some 58) (fr_ [4, 1, 1, 36]) HT_.out ?_
    refine purS_ (i := 6) (N := some 59) (fr_ [4, 1, 2, 35]) HT_.out ?_
    refine take_ (i := 4) (N := some 57) (v := ?_) (a' := ?_) (fr_ [7, 35]) rfl rfl (take_ofW HT_.out HW_.out (by kernel_rfl)) (fun _ _ _ h => h) (Or.inl ⟨by rfl, ?_⟩) hHeld ?_ ?_
    rotate_left
    ·rintro w' ⟨s0, s1, s2, s3, s4⟩
     go_simp
     with_reducible rfl
    rotate_left
    ·simp only [Act.put, List.setIfInBounds_toArray, List.set_cons_zero, List.set_cons_succ, i64_w, i32_w]
     rfl
    refine take_ (i := 7) (N := some 60) (v := ?_) (a' := ?_) (fr_ [8, 34]) rfl rfl (take_ofW HT_.out HW_.out (by kernel_rfl)) (fun _ _ _ h => h) (Or.inl ⟨by rfl, ?_⟩) hHeld ?_ ?_
    rotate_left
    ·rintro w' ⟨s0, s1, s2, s3, s4⟩
     go_simp
     with_reducible rfl
    rotate_left
    ·simp only [Act.put, List.setIfInBounds_toArray, List.set_cons_zero, List.set_cons_succ, i64_w, i32_w]
     rfl
    refine one_ (i := 8) (N := some 61) (fr_ [9, 33]) rfl rfl (one_of HT_.out (by kernel_rfl)) (by decide) (fun K hK => ?_)
    refine Kd.R_lit_step (Kd.int .i64) _ 3 ?hg (N := 61) ?hd (xs := ([rd (rd_L1 l4 x49_2) 0] : List Int)) (inner := [.int .i64 (rd (rd_L1 l4 x49_2) 0)]) (ok := fun _ => True) (okp := fun _ => True) ?hr ?hp (fun _ hk => hk) trivial (Below.refl _ _) (Nat.le_refl _) (by simp) ?_; (case hd => rfl); (case hg => rfl); (case hr => first | (go_simp; done) | (go_simp; rfl)); (case hp => exact (Reps.one (show Kd.M (Kd.int .i64) _ _ _ (rd (rd_L1 l4 x49_2) 0) [.int .i64 (rd (rd_L1 l4 x49_2) 0)] from rfl) (Reps.none _ _)))
    intro v238 w118 ho119 hb hg_ hnew_
    have HS4_ := (hb.cell (World.block_lt_of_cell? _ _ (hHeld.2.2.2.2))).trans (hHeld.2.2.2.2)
    clear hg_ hnew_
    (first | rw [← Ny237.out] at ho119 | (simp only [Int.reduceToNat] at ho119; rw [← Ny237.out] at ho119))
    have n0_ := Aside0.mk (Kd.V_elder' (vd_to HO_4) (Kd.R_base ho119) hb)
    have n1_ := Aside0.mk (Kd.V_elder' (vd_to HO_47) (Kd.R_base ho119) hb)
    have n2_ := Aside0.mk (Kd.V_elder' (vd_to HL235_0) (Kd.R_base ho119) hb)
    have n3_ := Aside0.mk (Kd.R_lower (Kd.R_newM (M := fun k_ => (w.heap.size ≤ k_)) ho119 (below_size (below_to2 HB GE223.out GE224.out)) (fun k_ h_ => h_)) (below_size (below_to2 HB GE223.out GE224.out)))
    have n4_ := Aside0.mk (blk_below (blk_to BK223) hb)
    have n5_ := Aside0.mk (blk_below (blk_to BK224) hb)
    have n6_ := Aside0.mk (Kd.C_below (by repeat (first | (with_reducible exact HR235_0.out) | (with_reducible refine Kd.C_alloc ?_ _) | (with_reducible refine Kd.C_drewN ?_ _) | (with_reducible refine Kd.C_drew ?_) | exact HR235_0.out)) hb)
    have n7_ := Aside0.mk (below_step (below_to2 HB GE223.out GE224.out) hb)
    clear HO_4
    clear HO_47
    clear HL235_0
    clear BK223
    clear BK224
    clear HR235_0
    clear HB
    have HO_4 := n0_
    have HO_47 := n1_
    have HL235_0 := n2_
    have HO239 := n3_
    have BK223 := n4_
    have BK224 := n5_
    have HR235_0 := n6_
    have HB := n7_
    clear n0_ n1_ n2_ n3_ n4_ n5_ n6_ n7_
    clear hb ho119
    obtain ⟨Ao120, co120, eo120⟩ := Kd.R_slice HO239.out
    (first | subst eo120 | (injection eo120 with f1_ f2_ f3_; have f4_ := f1_.symm; have f5_ := f3_.symm; clear f1_ f2_ f3_; subst f4_; subst f5_))
    refine hK.out _ _ ⟨(blk_cell BK223.out 0).trans rfl, (blk_cell BK223.out 1).trans rfl, (blk_cell BK223.out 2).trans rfl, (blk_cell BK223.out 3).trans rfl, HS4_⟩ (fun hHeld => ?_)
    clear hK K
    refine norm_ (a' := ?_) ?_ ?_
    rotate_left
    ·show Act.put _ (some 61) _ = _
     simp only [Act.put, List.setIfInBounds_toArray, List.set_cons_zero, List.set_cons_succ, i64_w, i32_w]
     rfl
    refine one_ (i := 9) (N := some 62) (fr_ [10, 32]) rfl rfl (one_of HT_.out (by kernel_rfl)) (by decide) (fun K hK => ?_)
    refine goes_ Try.func49 (by kernel_rfl) rfl #[.agg #[.int .i64 a0_0, .int .i64 a0_1, .int .i64 a0_2, .slice A0_3 l0_3.length c0_3], .slice Ao120 y237.length co120] (by rfl) rfl rfl am_ ?_
    with_reducible refine (impl_hasStops.calls k2 a0_0 a0_1 a0_2 _ _ l0_3 _ _ y237 false _ ?side1 ?side2 ?side3 ?side4 A62.out).mono ?_
    (case side1 => exact cb_ HR0_3 HB)
    (case side2 => exact HC0_3.out)
    (case side3 => exact cR_ HO239)
    (case side4 => exact (Kd.R_reads' HO239.out).2.1)
    rintro e w121 ⟨rfl, hb⟩
    have HS4_ := (hb.cell (World.block_lt_of_cell? _ _ (hHeld.2.2.2.2))).trans (hHeld.2.2.2.2)
    refine ⟨_, rfl, ?_⟩
    have n0_ := Aside0.mk (Kd.V_below (vd_to HO_4) hb)
    have n1_ := Aside0.mk (Kd.V_below (vd_to HO_47) hb)
    have n2_ := Aside0.mk (Kd.V_below (vd_to HL235_0) hb)
    have n3_ := Aside0.mk (Kd.R_below (kd_to HO239) hb)
    have n4_ := Aside0.mk (blk_below (blk_to BK223) hb)
    have n5_ := Aside0.mk (blk_below (blk_to BK224) hb)
    have n6_ := Aside0.mk (Kd.C_below (by repeat (first | (with_reducible exact HR235_0.out) | (with_reducible refine Kd.C_alloc ?_ _) | (with_reducible refine Kd.C_drewN ?_ _) | (with_reducible refine Kd.C_drew ?_) | exact HR235_0.out)) hb)
    have n7_ := Aside0.mk (below_step (below_to2 HB GE223.out GE224.out) hb)
    clear HO_4
    clear HO_47
    clear HL235_0
    clear HO239
    clear BK223
    clear BK224
    clear HR235_0
    clear HB
    have HO_4 := n0_
    have HO_47 := n1_
    have HL235_0 := n2_
    have HO239 := n3_
    have BK223 := n4_
    have BK224 := n5_
    have HR235_0 := n6_
    have HB := n7_
    clear n0_ n1_ n2_ n3_ n4_ n5_ n6_ n7_
    (try clear hb)
    (try clear hb2)
    (try clear hk)
    (try clear hi)
    refine hK.out _ _ ⟨(blk_cell BK223.out 0).trans rfl, (blk_cell BK223.out 1).trans rfl, (blk_cell BK223.out 2).trans rfl, (blk_cell BK223.out 3).trans rfl, HS4_⟩ (fun hHeld => ?_)
    clear hK K
    refine norm_ (a' := ?_) ?_ ?_
    rotate_left
    ·show Act.put _ (some 62) _ = _
     simp only [Act.put, List.setIfInBounds_toArray, List.set_cons_zero, List.set_cons_succ, i64_w, i32_w]
     rfl
    refine purS_ (i := 10) (N := some 63) (fl_ 42 11) HT_.out ?_
    refine purS_ (i := 11) (N := some 64) (fl_ 42 12) HT_.out ?_
    refine purS_ (i := 12) (N := some 65) (fl_ 42 13) HT_.out ?_
    refine pure_ (i := 13) (N := some 66) (v := undef) (a' := ?_) (fl_ 42 14) rfl rfl (any_of HT_.out (by kernel_rfl)) (fun _ _ _ h => h) (Or.inr ⟨by rfl, rfl⟩) ?_ ?_
    rotate_left
    ·simp only [Act.put, List.setIfInBounds_toArray, List.set_cons_zero, List.set_cons_succ, i64_w, i32_w]
     rfl
    refine pure_ (i := 14) (N := some 67) (v := undef) (a' := ?_) (fl_ 42 15) rfl rfl (any_of HT_.out (by kernel_rfl)) (fun _ _ _ h => h) (Or.inr ⟨by rfl, rfl⟩) ?_ ?_
    rotate_left
    ·simp only [Act.put, List.setIfInBounds_toArray, List.set_cons_zero, List.set_cons_succ, i64_w, i32_w]
     rfl
    refine pure_ (i := 15) (N := some 68) (v := undef) (a' := ?_) (fl_ 42 16) rfl rfl (any_of HT_.out (by kernel_rfl)) (fun _ _ _ h => h) (Or.inr ⟨by rfl, rfl⟩) ?_ ?_
    rotate_left
    ·simp only [Act.put, List.setIfInBounds_toArray, List.set_cons_zero, List.set_cons_succ, i64_w, i32_w]
     rfl
    refine pure_ (i := 16) (N := some 69) (v := undef) (a' := ?_) (fl_ 42 17) rfl rfl (any_of HT_.out (by kernel_rfl)) (fun _ _ _ h => h) (Or.inr ⟨by rfl, rfl⟩) ?_ ?_
    rotate_left
    ·simp only [Act.put, List.setIfInBounds_toArray, List.set_cons_zero, List.set_cons_succ, i64_w, i32_w]
     rfl
    refine pure_ (i := 17) (N := some 70) (v := undef) (a' := ?_) (fl_ 42 18) rfl rfl (any_of HT_.out (by kernel_rfl)) (fun _ _ _ h => h) (Or.inr ⟨by rfl, rfl⟩) ?_ ?_
    rotate_left
    ·simp only [Act.put, List.setIfInBounds_toArray, List.set_cons_zero, List.set_cons_succ, i64_w, i32_w]
     rfl
    refine pure_ (i := 18) (N := some 71) (v := undef) (a' := ?_) (fl_ 42 19) rfl rfl (any_of HT_.out (by kernel_rfl)) (fun _ _ _ h => h) (Or.inr ⟨by rfl, rfl⟩) ?_ ?_
    rotate_left
    ·simp only [Act.put, List.setIfInBounds_toArray, List.set_cons_zero, List.set_cons_succ, i64_w, i32_w]
     rfl
    refine pure_ (i := 19) (N := some 72) (v := undef) (a' := ?_) (fl_ 42 20) rfl rfl (any_of HT_.out (by kernel_rfl)) (fun _ _ _ h => h) (Or.inr ⟨by rfl, rfl⟩) ?_ ?_
    rotate_left
    ·simp only [Act.put, List.setIfInBounds_toArray, List.set_cons_zero, List.set_cons_succ, i64_w, i32_w]
     rfl
    refine purS_ (i := 20) (N := some 73) (fl_ 42 21) HT_.out ?_
    refine purS_ (i := 21) (N := some 74) (fl_ 42 22) HT_.out ?_
    refine pure_ (i := 22) (N := some 75) (v := undef) (a' := ?_) (fl_ 42 23) rfl rfl (any_of HT_.out (by kernel_rfl)) (fun _ _ _ h => h) (Or.inr ⟨by rfl, rfl⟩) ?_ ?_
    rotate_left
    ·simp only [Act.put, List.setIfInBounds_toArray, List.set_cons_zero, List.set_cons_succ, i64_w, i32_w]
     rfl
    refine pure_ (i := 23) (N := some 76) (v := undef) (a' := ?_) (fl_ 42 24) rfl rfl (any_of HT_.out (by kernel_rfl)) (fun _ _ _ h => h) (Or.inr ⟨by rfl, rfl⟩) ?_ ?_
    rotate_left
    ·simp only [Act.put, List.setIfInBounds_toArray, List.set_cons_zero, List.set_cons_succ, i64_w, i32_w]
     rfl
    refine pure_ (i := 24) (N := some 77) (v := undef) (a' := ?_) (fl_ 42 25) rfl rfl (any_of HT_.out (by kernel_rfl)) (fun _ _ _ h => h) (Or.inr ⟨by rfl, rfl⟩) ?_ ?_
    rotate_left
    ·simp only [Act.put, List.setIfInBounds_toArray, List.set_cons_zero, List.set_cons_succ, i64_w, i32_w]
     rfl
    refine pure_ (i := 25) (N := some 78) (v := undef) (a' := ?_) (fl_ 42 26) rfl rfl (any_of HT_.out (by kernel_rfl)) (fun _ _ _ h => h) (Or.inr ⟨by rfl, rfl⟩) ?_ ?_
    rotate_left
    ·simp only [Act.put, List.setIfInBounds_toArray, List.set_cons_zero, List.set_cons_succ, i64_w, i32_w]
     rfl
    refine pure_ (i := 26) (N := some 79) (v := undef) (a' := ?_) (fl_ 42 27) rfl rfl (any_of HT_.out (by kernel_rfl)) (fun _ _ _ h => h) (Or.inr ⟨by rfl, rfl⟩) ?_ ?_
    rotate_left
    ·simp only [Act.put, List.setIfInBounds_toArray, List.set_cons_zero, List.set_cons_succ, i64_w, i32_w]
     rfl
    refine purS_ (i := 27) (N := some 80) (fl_ 42 28) HT_.out ?_
    refine purS_ (i := 28) (N := some 81) (fl_ 42 29) HT_.out ?_
    refine pure_ (i := 29) (N := some 82) (v := undef) (a' := ?_) (fl_ 42 30) rfl rfl (any_of HT_.out (by kernel_rfl)) (fun _ _ _ h => h) (Or.inr ⟨by rfl, rfl⟩) ?_ ?_
    rotate_left
    ·simp only [Act.put, List.setIfInBounds_toArray, List.set_cons_zero, List.set_cons_succ, i64_w, i32_w]
     rfl
    refine pure_ (i := 30) (N := some 83) (v := undef) (a' := ?_) (fl_ 42 31) rfl rfl (any_of HT_.out (by kernel_rfl)) (fun _ _ _ h => h) (Or.inr ⟨by rfl, rfl⟩) ?_ ?_
    rotate_left
    ·simp only [Act.put, List.setIfInBounds_toArray, List.set_cons_zero, List.set_cons_succ, i64_w, i32_w]
     rfl
    refine pure_ (i := 31) (N := some 84) (v := undef) (a' := ?_) (fl_ 42 32) rfl rfl (any_of HT_.out (by kernel_rfl)) (fun _ _ _ h => h) (Or.inr ⟨by rfl, rfl⟩) ?_ ?_
    rotate_left
    ·simp only [Act.put, List.setIfInBounds_toArray, List.set_cons_zero, List.set_cons_succ, i64_w, i32_w]
     rfl
    refine pure_ (i := 32) (N := some 85) (v := undef) (a' := ?_) (fl_ 42 33) rfl rfl (any_of HT_.out (by kernel_rfl)) (fun _ _ _ h => h) (Or.inr ⟨by rfl, rfl⟩) ?_ ?_
    rotate_left
    ·simp only [Act.put, List.setIfInBounds_toArray, List.set_cons_zero, List.set_cons_succ, i64_w, i32_w]
     rfl
    refine pure_ (i := 33) (N := some 86) (v := undef) (a' := ?_) (fl_ 42 34) rfl rfl (any_of HT_.out (by kernel_rfl)) (fun _ _ _ h => h) (Or.inr ⟨by rfl, rfl⟩) ?_ ?_
    rotate_left
    ·simp only [Act.put, List.setIfInBounds_toArray, List.set_cons_zero, List.set_cons_succ, i64_w, i32_w]
     rfl
    refine purS_ (i := 34) (N := some 87) (fl_ 42 35) HT_.out ?_
    refine purS_ (i := 35) (N := some 88) (fl_ 42 36) HT_.out ?_
    refine pure_ (i := 36) (N := some 89) (v := undef) (a' := ?_) (fl_ 42 37) rfl rfl (any_of HT_.out (by kernel_rfl)) (fun _ _ _ h => h) (Or.inr ⟨by rfl, rfl⟩) ?_ ?_
    rotate_left
    ·simp only [Act.put, List.setIfInBounds_toArray, List.set_cons_zero, List.set_cons_succ, i64_w, i32_w]
     rfl
    refine pure_ (i := 37) (N := some 90) (v := undef) (a' := ?_) (fl_ 42 38) rfl rfl (any_of HT_.out (by kernel_rfl)) (fun _ _ _ h => h) (Or.inr ⟨by rfl, rfl⟩) ?_ ?_
    rotate_left
    ·simp only [Act.put, List.setIfInBounds_toArray, List.set_cons_zero, List.set_cons_succ, i64_w, i32_w]
     rfl
    refine pure_ (i := 38) (N := some 91) (v := undef) (a' := ?_) (fl_ 42 39) rfl rfl (any_of HT_.out (by kernel_rfl)) (fun _ _ _ h => h) (Or.inr ⟨by rfl, rfl⟩) ?_ ?_
    rotate_left
    ·simp only [Act.put, List.setIfInBounds_toArray, List.set_cons_zero, List.set_cons_succ, i64_w, i32_w]
     rfl
    refine pure_ (i := 39) (N := some 92) (v := undef) (a' := ?_) (fl_ 42 40) rfl rfl (any_of HT_.out (by kernel_rfl)) (fun _ _ _ h => h) (Or.inr ⟨by rfl, rfl⟩) ?_ ?_
    rotate_left
    ·simp only [Act.put, List.setIfInBounds_toArray, List.set_cons_zero, List.set_cons_succ, i64_w, i32_w]
     rfl
    refine pure_ (i := 40) (N := some 93) (v := undef) (a' := ?_) (fl_ 42 41) rfl rfl (any_of HT_.out (by kernel_rfl)) (fun _ _ _ h => h) (Or.inr ⟨by rfl, rfl⟩) ?_ ?_
    rotate_left
    ·simp only [Act.put, List.setIfInBounds_toArray, List.set_cons_zero, List.set_cons_succ, i64_w, i32_w]
     rfl
    refine purS_ (i := 41) (N := some 94) (fl_ 42 42) HT_.out ?_
    refine done_ (done_of HT_.out (by kernel_rfl)) ?_
    try go_wp2
    go_ret3
    exact ⟨_, rtE_, by first | exact Kd.R_nil _ _ _ _ _ | exact Kd.N_nil _ _ _ _ _ | exact Kd.V_nil _ _ _ _ _ | exact Kd.Q_nil _ _ _ _ _ | exact Kd.S_nil _ _ _ _ _, below_to2 HB GE223.out GE224.out⟩
   subst c63
   rw [if_pos rfl] at H
   by_cases c64 : 1 < ((rd_L1 l4 x49_2).length : Int)
   rotate_left
   ·rw [if_neg c64] at H
    cases H
   rw [if_pos c64] at H
   have c64b0 := decide_eq_true c64
   have c64b1 : decide (1 < (rd_L1 l4 x49_2).length) = true := decide_eq_true (by omega)
   clear c64
   obtain ⟨y242, hy242⟩ : ∃ y_ : List Int, y_ = (([rd (rd_L1 l4 x49_2) 1] : List Int)) := ⟨_, rfl⟩
   replace H : ((impl_hasStops.f k2 a2_0 a2_1 a2_2 l2_3 y242).bind fun t245 => (if t245 = true then (if a1 ≥ (rd (rd_L1 l4 x49_2) 0) then (some (([] : List Int), 0, false)) else (if (rd (rd_L1 l4 x49_2) 1) ≥ a3 then (some (([] : List Int), 0, false)) else (if 2 < ((rd_L1 l4 x49_2).length : Int) then ((impl_isWalk.f (rd (rd_L1 l4 x49_2) 2)).bind fun t249 => (if t249 = true then (impl_BestChange.l0 k2 a1 a3 l4 a5 l4 (l4.length : Int) (wrap64 (x49_2 + 1)) a0_0 a0_1 a0_2 l0_3 a2_0 a2_1 a2_2 l2_3) else (some (([] : List Int), 0, false)))) else (none)))) else (some (([] : List Int), 0, false)))) = some (r1, r2, r3) := by first | (rw [hy242]; with_reducible exact H) | (have H2_ := (Option.bind_some _ _).symm.trans H; rw [hy242]; with_reducible exact H2_) | (have H2_ := (Option.bind_some _ _).symm.trans H; with_reducible exact H2_) | with_reducible exact H | (rw [hy242]; exact H) | exact H
   have Ny242 := Aside0.mk hy242
   clear hy242
   replace H := Option.bind_eq_some_iff.mp H
   obtain ⟨t245, A650, H⟩ := H
   (try dsimp only at H)
   have A65 := Aside0.mk A650
   clear A650
   by_cases c66 : t245 = true
   rotate_left
   ·replace c66 := Bool.eq_false_iff.mpr c66
    subst c66
    rw [if_neg ft_] at H
    simp only [Option.some.injEq, Prod.mk.injEq] at H
    obtain ⟨rfl, rfl, rfl⟩ := H
    have p235 : 0 ≤ (x49_2 : Int) := odt_
    have q235 : x49_2 < (l4.length : Int) := odt_
    obtain ⟨ad235, A235_0, c235_0, e235, hx235_0, hl235_0, hi235_0⟩ := at_L1 (Kd.V_reads' HO_47.out).2.2 x49_2 p235 q235
    cases e235
    obtain ⟨ce235, hce235, hMe235, hcc235⟩ := Kd.V_get HO_47.out [] x49_2 p235 (by first | exact q235 | exact of_decide_eq_true (by first | (with_reducible assumption) | assumption) | (have e_ := (Kd.V_reads' HO_47.out).1; omega))
    obtain ⟨ua235_0, uc235_0, rfl, ul235_0, ge235_0⟩ := Kd.FK_slice_open hMe235
    have hv235_0 := hcc235 0 _ rfl
    rw [Nat.add_zero, show ((Kd.slice 3 (Kd.int .i64))).sz = 1 from rfl, Nat.mul_one] at hv235_0
    replace hv235_0 := Option.some.inj (hv235_0.symm.trans hx235_0)
    injection hv235_0 with hva_ hvn_ hvc_
    rw [hva_] at ge235_0
    rw [hvc_] at ul235_0
    have HL235_0 := Aside0.mk (show Kd.V (Kd.int .i64) 3 _ w.heap.size _ _ (rd_L1 l4 x49_2) from Kd.V_mk ul235_0 ge235_0)
    clear hva_ hvn_ hvc_ ge235_0 ul235_0
    clear hcc235 hce235
    have HR235_0 := Aside0.mk hi235_0
    have HC235_0 := Aside0.mk hl235_0
    clear hi235_0 hl235_0
    replace p235 := eq_true p235
    replace q235 := eq_true q235
    try go_wp2
    have n0_ := Aside0.mk (Kd.V_drew HO_4.out)
    have n1_ := Aside0.mk (Kd.V_drew HO_47.out)
    have n2_ := Aside0.mk (Kd.V_drew HL235_0.out)
    have n3_ := Aside0.mk (blk_drew BK223.out)
    have n4_ := Aside0.mk (blk_drew BK224.out)
    have n5_ := Aside0.mk (Kd.C_drew HR235_0.out)
    have n6_ := Aside0.mk (below_drew1 HB.out)
    clear HO_4
    clear HO_47
    clear HL235_0
    clear BK223
    clear BK224
    clear HR235_0
    clear HB
    have HO_4 := n0_
    have HO_47 := n1_
    have HL235_0 := n2_
    have BK223 := n3_
    have BK224 := n4_
    have HR235_0 := n5_
    have HB := n6_
    clear n0_ n1_ n2_ n3_ n4_ n5_ n6_
    have p236 : 0 ≤ (0 : Int) := (by omega)
    have q236 : 0 < ((rd_L1 l4 x49_2).length : Int) := odt_
    obtain ⟨ad236, e236, hx236_0⟩ := Kd.at_int (by repeat (first | (with_reducible exact HR235_0.out) | (with_reducible refine Kd.C_alloc ?_ _) | (with_reducible refine Kd.C_drewN ?_ _) | (with_reducible refine Kd.C_drew ?_) | exact HR235_0.out)) 0 p236 q236
    cases e236
    have qi236 : (0 < (rd_L1 l4 x49_2).length) = True := eq_true (by omega)
    (try rw [show ((0 : Int)).toNat = 0 from rfl] at hx236_0)
    (try rw [Addr.add_zero'] at hx236_0)
    replace p236 := eq_true p236
    replace q236 := eq_true q236
    have p241 : 0 ≤ (1 : Int) := (by omega)
    have q241 : 1 < ((rd_L1 l4 x49_2).length : Int) := odt_
    obtain ⟨ad241, e241, hx241_0⟩ := Kd.at_int (by repeat (first | (with_reducible exact HR235_0.out) | (with_reducible refine Kd.C_alloc ?_ _) | (with_reducible refine Kd.C_drewN ?_ _) | (with_reducible refine Kd.C_drew ?_) | exact HR235_0.out)) 1 p241 q241
    obtain rfl : ad236 = ad241 := (by injection e241)
    (try simp only [show (1 : Int).toNat = 1 from rfl, Nat.reduceMul, Nat.reduceEqDiff, Go.Addr.add, ↓reduceIte] at hx241_0)
    have qi241 : (1 < (rd_L1 l4 x49_2).length) = True := eq_true (by omega)
    (try rw [show ((1 : Int)).toNat = 1 from rfl] at hx241_0)
    replace p241 := eq_true p241
    replace q241 := eq_true q241
    refine start_ (n := 42) (S := fun w' => w'.cell? ⟨gb223, 0, none⟩ = some (.int .i64 a0_0) ∧ w'.cell? ⟨gb223, 1, none⟩ = some (.int .i64 a0_1) ∧ w'.cell? ⟨gb223, 2, none⟩ = some (.int .i64 a0_2) ∧ w'.cell? ⟨gb223, 3, none⟩ = some (.slice A0_3 l0_3.length c0_3) ∧ w'.cell? ⟨gb224, 0, none⟩ = some (.int .i64 a2_0) ∧ w'.cell? ⟨gb224, 1, none⟩ = some (.int .i64 a2_1) ∧ w'.cell? ⟨gb224, 2, none⟩ = some (.int .i64 a2_2) ∧ w'.cell? ⟨gb224, 3, none⟩ = some (.slice A2_3 l2_3.length c2_3) ∧ w'.cell? ad236 = some (.int .i64 (rd (rd_L1 l4 x49_2) 0)) ∧ w'.cell? ⟨ad236.block, ad236.off + 1, none⟩ = some (.int .i64 (rd (rd_L1 l4 x49_2) 1))) (ds := []) (fr_ [0, 42]) (by kernel_rfl) rfl rfl ⟨(blk_cell BK223.out 0).trans rfl, (blk_cell BK223.out 1).trans rfl, (blk_cell BK223.out 2).trans rfl, (blk_cell BK223.out 3).trans rfl, (blk_cell BK224.out 0).trans rfl, (blk_cell BK224.out 1).trans rfl, (blk_cell BK224.out 2).trans rfl, (blk_cell BK224.out 3).trans rfl, hx236_0, hx241_0⟩ (fun hHeld => ?_); refine with_tabW impl_BestChange.tab6 impl_BestChange.bits6 (fun HT_ HW_ => ?_)
    clear hx241_0 p241 q241 qi241
    generalize wr.drew = w108 at HO_4 HO_47 HL235_0 BK223 BK224 HR235_0 HB hx236_0 hHeld ⊢
    refine purS_ (i := 0) (N := some 53) (fl_ 42 1) HT_.out ?_
    refine purS_ (i := 1) (N := some 54) (fl_ 42 2) HT_.out ?_
    refine purS_ (i := 2) (N := some 55) (fl_ 42 3) HT_.out ?_
    refine purS_ (i := 3) (N := some 56) (fl_ 42 4) HT_.out ?_
    refine purS_ (i := 5) (N := some 58) (fr_ [4, 1, 1, 36]) HT_.out ?_
    refine purS_ (i := 6) (N := some 59) (fr_ [4, 1, 2, 35]) HT_.out ?_
    refine take_ (i := 4) (N := some 57) (v := ?_) (a' := ?_) (fr_ [7, 35]) rfl rfl (take_ofW HT_.out HW_.out (by kernel_rfl)) (fun _ _ _ h => h) (Or.inl ⟨by rfl, ?_⟩) hHeld ?_ ?_
    rotate_left
    ·rintro w' ⟨s0, s1, s2, s3, s4, s5, s6, s7, s8, s9⟩
     go_simp
     with_reducible rfl
    rotate_left
    ·simp only [Act.put, List.setIfInBounds_toArray, List.set_cons_zero, List.set_cons_succ, i64_w, i32_w]
     rfl
    refine take_ (i := 7) (N := some 60) (v := ?_) (a' := ?_) (fr_ [8, 34]) rfl rfl (take_ofW HT_.out HW_.out (by kernel_rfl)) (fun _ _ _ h => h) (Or.inl ⟨by rfl, ?_⟩) hHeld ?_ ?_
    rotate_left
    ·rintro w' ⟨s0, s1, s2, s3, s4, s5, s6, s7, s8, s9⟩
     go_simp
     with_reducible rfl
    rotate_left
    ·simp only [Act.put, List.setIfInBounds_toArray, List.set_cons_zero, List.set_cons_succ, i64_w, i32_w]
     rfl
    refine one_ (i := 8) (N := some 61) (fr_ [9, 33]) rfl rfl (one_of HT_.out (by kernel_rfl)) (by decide) (fun K hK => ?_)
    refine Kd.R_lit_step (Kd.int .i64) _ 3 ?hg (N := 61) ?hd (xs := ([rd (rd_L1 l4 x49_2) 0] : List Int)) (inner := [.int .i64 (rd (rd_L1 l4 x49_2) 0)]) (ok := fun _ => True) (okp := fun _ => True) ?hr ?hp (fun _ hk => hk) trivial (Below.refl _ _) (Nat.le_refl _) (by simp) ?_; (case hd => rfl); (case hg => rfl); (case hr => first | (go_simp; done) | (go_simp; rfl)); (case hp => exact (Reps.one (show Kd.M (Kd.int .i64) _ _ _ (rd (rd_L1 l4 x49_2) 0) [.int .i64 (rd (rd_L1 l4 x49_2) 0)] from rfl) (Reps.none _ _)))
    intro v238 w109 ho110 hb hg_ hnew_
    have HS8_ := (hb.cell (World.block_lt_of_cell? _ _ (hHeld.2.2.2.2.2.2.2.2.1))).trans (hHeld.2.2.2.2.2.2.2.2.1)
    have HS9_ := (hb.cell (World.block_lt_of_cell? _ _ (hHeld.2.2.2.2.2.2.2.2.2))).trans (hHeld.2.2.2.2.2.2.2.2.2)
    clear hg_ hnew_
    (first | rw [← Ny237.out] at ho110 | (simp only [Int.reduceToNat] at ho110; rw [← Ny237.out] at ho110))
    have n0_ := Aside0.mk (Kd.V_elder' (vd_to HO_4) (Kd.R_base ho110) hb)
    have n1_ := Aside0.mk (Kd.V_elder' (vd_to HO_47) (Kd.R_base ho110) hb)
    have n2_ := Aside0.mk (Kd.V_elder' (vd_to HL235_0) (Kd.R_base ho110) hb)
    have n3_ := Aside0.mk (Kd.R_lower (Kd.R_newM (M := fun k_ => (w.heap.size ≤ k_)) ho110 (below_size (below_to2 HB GE223.out GE224.out)) (fun k_ h_ => h_)) (below_size (below_to2 HB GE223.out GE224.out)))
    have n4_ := Aside0.mk (blk_below (blk_to BK223) hb)
    have n5_ := Aside0.mk (blk_below (blk_to BK224) hb)
    have n6_ := Aside0.mk (Kd.C_below (by repeat (first | (with_reducible exact HR235_0.out) | (with_reducible refine Kd.C_alloc ?_ _) | (with_reducible refine Kd.C_drewN ?_ _) | (with_reducible refine Kd.C_drew ?_) | exact HR235_0.out)) hb)
    have n7_ := Aside0.mk (below_step (below_to2 HB GE223.out GE224.out) hb)
    clear HO_4
    clear HO_47
    clear HL235_0
    clear BK223
    clear BK224
    clear HR235_0
    clear HB
    have HO_4 := n0_
    have HO_47 := n1_
    have HL235_0 := n2_
    have HO239 := n3_
    have BK223 := n4_
    have BK224 := n5_
    have HR235_0 := n6_
    have HB := n7_
    clear n0_ n1_ n2_ n3_ n4_ n5_ n6_ n7_
    clear hb ho110
    obtain ⟨Ao111, co111, eo111⟩ := Kd.R_slice HO239.out
    (first | subst eo111 | (injection eo111 with f1_ f2_ f3_; have f4_ := f1_.symm; have f5_ := f3_.symm; clear f1_ f2_ f3_; subst f4_; subst f5_))
    refine hK.out _ _ ⟨(blk_cell BK223.out 0).trans rfl, (blk_cell BK223.out 1).trans rfl, (blk_cell BK223.out 2).trans rfl, (blk_cell BK223.out 3).trans rfl, (blk_cell BK224.out 0).trans rfl, (blk_cell BK224.out 1).trans rfl, (blk_cell BK224.out 2).trans rfl, (blk_cell BK224.out 3).trans rfl, HS8_, HS9_⟩ (fun hHeld => ?_)
    clear hK K
    refine norm_ (a' := ?_) ?_ ?_
    rotate_left
    ·show Act.put _ (some 61) _ = _
     simp only [Act.put, List.setIfInBounds_toArray, List.set_cons_zero, List.set_cons_succ, i64_w, i32_w]
     rfl
    refine one_ (i := 9) (N := some 62) (fr_ [10, 32]) rfl rfl (one_of HT_.out (by kernel_rfl)) (by decide) (fun K hK => ?_)
    refine goes_ Try.func49 (by kernel_rfl) rfl #[.agg #[.int .i64 a0_0, .int .i64 a0_1, .int .i64 a0_2, .slice A0_3 l0_3.length c0_3], .slice Ao111 y237.length co111] (by rfl) rfl rfl am_ ?_
    with_reducible refine (impl_hasStops.calls k2 a0_0 a0_1 a0_2 _ _ l0_3 _ _ y237 true _ ?side1 ?side2 ?side3 ?side4 A62.out).mono ?_
    (case side1 => exact cb_ HR0_3 HB)
    (case side2 => exact HC0_3.out)
    (case side3 => exact cR_ HO239)
    (case side4 => exact (Kd.R_reads' HO239.out).2.1)
    rintro e w112 ⟨rfl, hb⟩
    have HS8_ := (hb.cell (World.block_lt_of_cell? _ _ (hHeld.2.2.2.2.2.2.2.2.1))).trans (hHeld.2.2.2.2.2.2.2.2.1)
    have HS9_ := (hb.cell (World.block_lt_of_cell? _ _ (hHeld.2.2.2.2.2.2.2.2.2))).trans (hHeld.2.2.2.2.2.2.2.2.2)
    refine ⟨_, rfl, ?_⟩
    have n0_ := Aside0.mk (Kd.V_below (vd_to HO_4) hb)
    have n1_ := Aside0.mk (Kd.V_below (vd_to HO_47) hb)
    have n2_ := Aside0.mk (Kd.V_below (vd_to HL235_0) hb)
    have n3_ := Aside0.mk (Kd.R_below (kd_to HO239) hb)
    have n4_ := Aside0.mk (blk_below (blk_to BK223) hb)
    have n5_ := Aside0.mk (blk_below (blk_to BK224) hb)
    have n6_ := Aside0.mk (Kd.C_below (by repeat (first | (with_reducible exact HR235_0.out) | (with_reducible refine Kd.C_alloc ?_ _) | (with_reducible refine Kd.C_drewN ?_ _) | (with_reducible refine Kd.C_drew ?_) | exact HR235_0.out)) hb)
    have n7_ := Aside0.mk (below_step (below_to2 HB GE223.out GE224.out) hb)
    clear HO_4
    clear HO_47
    clear HL235_0
    clear HO239
    clear BK223
    clear BK224
    clear HR235_0
    clear HB
    have HO_4 := n0_
    have HO_47 := n1_
    have HL235_0 := n2_
    have HO239 := n3_
    have BK223 := n4_
    have BK224 := n5_
    have HR235_0 := n6_
    have HB := n7_
    clear n0_ n1_ n2_ n3_ n4_ n5_ n6_ n7_
    (try clear hb)
    (try clear hb2)
    (try clear hk)
    (try clear hi)
    have p241 : 0 ≤ (1 : Int) := (by omega)
    have q241 : 1 < ((rd_L1 l4 x49_2).length : Int) := odt_
    obtain ⟨ad241, e241, hx241_0⟩ := Kd.at_int (by repeat (first | (with_reducible exact HR235_0.out) | (with_reducible refine Kd.C_alloc ?_ _) | (with_reducible refine Kd.C_drewN ?_ _) | (with_reducible refine Kd.C_drew ?_) | exact HR235_0.out)) 1 p241 q241
    obtain rfl : ad236 = ad241 := (by injection e241)
    (try simp only [show (1 : Int).toNat = 1 from rfl, Nat.reduceMul, Nat.reduceEqDiff, Go.Addr.add, ↓reduceIte] at hx241_0)
    have qi241 : (1 < (rd_L1 l4 x49_2).length) = True := eq_true (by omega)
    (try rw [show ((1 : Int)).toNat = 1 from rfl] at hx241_0)
    replace p241 := eq_true p241
    replace q241 := eq_true q241
    refine hK.out _ _ ⟨(blk_cell BK223.out 0).trans rfl, (blk_cell BK223.out 1).trans rfl, (blk_cell BK223.out 2).trans rfl, (blk_cell BK223.out 3).trans rfl, (blk_cell BK224.out 0).trans rfl, (blk_cell BK224.out 1).trans rfl, (blk_cell BK224.out 2).trans rfl, (blk_cell BK224.out 3).trans rfl, HS8_, HS9_⟩ (fun hHeld => ?_)
    clear hK K
    refine norm_ (a' := ?_) ?_ ?_
    rotate_left
    ·show Act.put _ (some 62) _ = _
     simp only [Act.put, List.setIfInBounds_toArray, List.set_cons_zero, List.set_cons_succ, i64_w, i32_w]
     rfl
    refine purS_ (i := 10) (N := some 63) (fl_ 42 11) HT_.out ?_
    refine purS_ (i := 11) (N := some 64) (fl_ 42 12) HT_.out ?_
    refine purS_ (i := 12) (N := some 65) (fl_ 42 13) HT_.out ?_
    refine purS_ (i := 14) (N := some 67) (fr_ [13, 1, 1, 27]) HT_.out ?_
    refine purS_ (i := 15) (N := some 68) (fr_ [13, 1, 2, 26]) HT_.out ?_
    refine take_ (i := 13) (N := some 66) (v := ?_) (a' := ?_) (fr_ [16, 26]) rfl rfl (take_ofW HT_.out HW_.out (by kernel_rfl)) (fun _ _ _ h => h) (Or.inl ⟨by rfl, ?_⟩) hHeld ?_ ?_
    rotate_left
    ·rintro w' ⟨s0, s1, s2, s3, s4, s5, s6, s7, s8, s9⟩
     go_simp
     with_reducible rfl
    rotate_left
    ·simp only [Act.put, List.setIfInBounds_toArray, List.set_cons_zero, List.set_cons_succ, i64_w, i32_w]
     rfl
    refine take_ (i := 16) (N := some 69) (v := ?_) (a' := ?_) (fr_ [17, 25]) rfl rfl (take_ofW HT_.out HW_.out (by kernel_rfl)) (fun _ _ _ h => h) (Or.inl ⟨by rfl, ?_⟩) hHeld ?_ ?_
    rotate_left
    ·rintro w' ⟨s0, s1, s2, s3, s4, s5, s6, s7, s8, s9⟩
     go_simp
     with_reducible rfl
    rotate_left
    ·simp only [Act.put, List.setIfInBounds_toArray, List.set_cons_zero, List.set_cons_succ, i64_w, i32_w]
     rfl
    refine one_ (i := 17) (N := some 70) (fr_ [18, 24]) rfl rfl (one_of HT_.out (by kernel_rfl)) (by decide) (fun K hK => ?_)
    refine Kd.R_lit_step (Kd.int .i64) _ 3 ?hg (N := 70) ?hd (xs := ([rd (rd_L1 l4 x49_2) 1] : List Int)) (inner := [.int .i64 (rd (rd_L1 l4 x49_2) 1)]) (ok := fun _ => True) (okp := fun _ => True) ?hr ?hp (fun _ hk => hk) trivial (Below.refl _ _) (Nat.le_refl _) (by simp) ?_; (case hd => rfl); (case hg => rfl); (case hr => first | (go_simp; done) | (go_simp; rfl)); (case hp => exact (Reps.one (show Kd.M (Kd.int .i64) _ _ _ (rd (rd_L1 l4 x49_2) 1) [.int .i64 (rd (rd_L1 l4 x49_2) 1)] from rfl) (Reps.none _ _)))
    intro v243 w113 ho114 hb hg_ hnew_
    have HS8_ := (hb.cell (World.block_lt_of_cell? _ _ (hHeld.2.2.2.2.2.2.2.2.1))).trans (hHeld.2.2.2.2.2.2.2.2.1)
    have HS9_ := (hb.cell (World.block_lt_of_cell? _ _ (hHeld.2.2.2.2.2.2.2.2.2))).trans (hHeld.2.2.2.2.2.2.2.2.2)
    clear hg_ hnew_
    (first | rw [← Ny242.out] at ho114 | (simp only [Int.reduceToNat] at ho114; rw [← Ny242.out] at ho114))
    have n0_ := Aside0.mk (Kd.V_elder' (vd_to HO_4) (Kd.R_base ho114) hb)
    have n1_ := Aside0.mk (Kd.V_elder' (vd_to HO_47) (Kd.R_base ho114) hb)
    have n2_ := Aside0.mk (Kd.V_elder' (vd_to HL235_0) (Kd.R_base ho114) hb)
    have n3_ := Aside0.mk (Kd.R_elder' (kd_to HO239) (Kd.R_base ho114) hb)
    have n4_ := Aside0.mk (Kd.R_lower (Kd.R_new' (Kd.R_newM (M := fun k_ => (w.heap.size ≤ k_)) ho114 (below_size (below_to2 HB GE223.out GE224.out)) (fun k_ h_ => h_)) (Kd.R_lt (kd_to HO239))) (below_size (below_to2 HB GE223.out GE224.out)))
    have n5_ := Aside0.mk (blk_below (blk_to BK223) hb)
    have n6_ := Aside0.mk (blk_below (blk_to BK224) hb)
    have n7_ := Aside0.mk (Kd.C_below (by repeat (first | (with_reducible exact HR235_0.out) | (with_reducible refine Kd.C_alloc ?_ _) | (with_reducible refine Kd.C_drewN ?_ _) | (with_reducible refine Kd.C_drew ?_) | exact HR235_0.out)) hb)
    have n8_ := Aside0.mk (below_step (below_to2 HB GE223.out GE224.out) hb)
    clear HO_4
    clear HO_47
    clear HL235_0
    clear HO239
    clear BK223
    clear BK224
    clear HR235_0
    clear HB
    have HO_4 := n0_
    have HO_47 := n1_
    have HL235_0 := n2_
    have HO239 := n3_
    have HO244 := n4_
    have BK223 := n5_
    have BK224 := n6_
    have HR235_0 := n7_
    have HB := n8_
    clear n0_ n1_ n2_ n3_ n4_ n5_ n6_ n7_ n8_
    clear hb ho114
    obtain ⟨Ao115, co115, eo115⟩ := Kd.R_slice HO244.out
    (first | subst eo115 | (injection eo115 with f1_ f2_ f3_; have f4_ := f1_.symm; have f5_ := f3_.symm; clear f1_ f2_ f3_; subst f4_; subst f5_))
    refine hK.out _ _ ⟨(blk_cell BK223.out 0).trans rfl, (blk_cell BK223.out 1).trans rfl, (blk_cell BK223.out 2).trans rfl, (blk_cell BK223.out 3).trans rfl, (blk_cell BK224.out 0).trans rfl, (blk_cell BK224.out 1).trans rfl, (blk_cell BK224.out 2).trans rfl, (blk_cell BK224.out 3).trans rfl, HS8_, HS9_⟩ (fun hHeld => ?_)
    clear hK K
    refine norm_ (a' := ?_) ?_ ?_
    rotate_left
    ·show Act.put _ (some 70) _ = _
     simp only [Act.put, List.setIfInBounds_toArray, List.set_cons_zero, List.set_cons_succ, i64_w, i32_w]
     rfl
    refine one_ (i := 18) (N := some 71) (fr_ [19, 23]) rfl rfl (one_of HT_.out (by kernel_rfl)) (by decide) (fun K hK => ?_)
    refine goes_ Try.func49 (by kernel_rfl) rfl #[.agg #[.int .i64 a2_0, .int .i64 a2_1, .int .i64 a2_2, .slice A2_3 l2_3.length c2_3], .slice Ao115 y242.length co115] (by rfl) rfl rfl am_ ?_
    with_reducible refine (impl_hasStops.calls k2 a2_0 a2_1 a2_2 _ _ l2_3 _ _ y242 false _ ?side1 ?side2 ?side3 ?side4 A65.out).mono ?_
    (case side1 => exact cb_ HR2_3 HB)
    (case side2 => exact HC2_3.out)
    (case side3 => exact cR_ HO244)
    (case side4 => exact (Kd.R_reads' HO244.out).2.1)
    rintro e w116 ⟨rfl, hb⟩
    have HS8_ := (hb.cell (World.block_lt_of_cell? _ _ (hHeld.2.2.2.2.2.2.2.2.1))).trans (hHeld.2.2.2.2.2.2.2.2.1)
    have HS9_ := (hb.cell (World.block_lt_of_cell? _ _ (hHeld.2.2.2.2.2.2.2.2.2))).trans (hHeld.2.2.2.2.2.2.2.2.2)
    refine ⟨_, rfl, ?_⟩
    have n0_ := Aside0.mk (Kd.V_below (vd_to HO_4) hb)
    have n1_ := Aside0.mk (Kd.V_below (vd_to HO_47) hb)
    have n2_ := Aside0.mk (Kd.V_below (vd_to HL235_0) hb)
    have n3_ := Aside0.mk (Kd.R_below (kd_to HO239) hb)
    have n4_ := Aside0.mk (Kd.R_below (kd_to HO244) hb)
    have n5_ := Aside0.mk (blk_below (blk_to BK223) hb)
    have n6_ := Aside0.mk (blk_below (blk_to BK224) hb)
    have n7_ := Aside0.mk (Kd.C_below (by repeat (first | (with_reducible exact HR235_0.out) | (with_reducible refine Kd.C_alloc ?_ _) | (with_reducible refine Kd.C_drewN ?_ _) | (with_reducible refine Kd.C_drew ?_) | exact HR235_0.out)) hb)
    have n8_ := Aside0.mk (below_step (below_to2 HB GE223.out GE224.out) hb)
    clear HO_4
    clear HO_47
    clear HL235_0
    clear HO239
    clear HO244
    clear BK223
    clear BK224
    clear HR235_0
    clear HB
    have HO_4 := n0_
    have HO_47 := n1_
    have HL235_0 := n2_
    have HO239 := n3_
    have HO244 := n4_
    have BK223 := n5_
    have BK224 := n6_
    have HR235_0 := n7_
    have HB := n8_
    clear n0_ n1_ n2_ n3_ n4_ n5_ n6_ n7_ n8_
    (try clear hb)
    (try clear hb2)
    (try clear hk)
    (try clear hi)
    refine hK.out _ _ ⟨(blk_cell BK223.out 0).trans rfl, (blk_cell BK223.out 1).trans rfl, (blk_cell BK223.out 2).trans rfl, (blk_cell BK223.out 3).trans rfl, (blk_cell BK224.out 0).trans rfl, (blk_cell BK224.out 1).trans rfl, (blk_cell BK224.out 2).trans rfl, (blk_cell BK224.out 3).trans rfl, HS8_, HS9_⟩ (fun hHeld => ?_)
    clear hK K
    refine norm_ (a' := ?_) ?_ ?_
    rotate_left
    ·show Act.put _ (some 71) _ = _
     simp only [Act.put, List.setIfInBounds_toArray, List.set_cons_zero, List.set_cons_succ, i64_w, i32_w]
     rfl
    refine purS_ (i := 19) (N := some 72) (fl_ 42 20) HT_.out ?_
    refine purS_ (i := 20) (N := some 73) (fl_ 42 21) HT_.out ?_
    refine purS_ (i := 21) (N := some 74) (fl_ 42 22) HT_.out ?_
    refine pure_ (i := 22) (N := some 75) (v := undef) (a' := ?_) (fl_ 42 23) rfl rfl (any_of HT_.out (by kernel_rfl)) (fun _ _ _ h => h) (Or.inr ⟨by rfl, rfl⟩) ?_ ?_
    rotate_left
    ·simp only [Act.put, List.setIfInBounds_toArray, List.set_cons_zero, List.set_cons_succ, i64_w, i32_w]
     rfl
    refine pure_ (i := 23) (N := some 76) (v := undef) (a' := ?_) (fl_ 42 24) rfl rfl (any_of HT_.out (by kernel_rfl)) (fun _ _ _ h => h) (Or.inr ⟨by rfl, rfl⟩) ?_ ?_
    rotate_left
    ·simp only [Act.put, List.setIfInBounds_toArray, List.set_cons_zero, List.set_cons_succ, i64_w, i32_w]
     rfl
    refine pure_ (i := 24) (N := some 77) (v := undef) (a' := ?_) (fl_ 42 25) rfl rfl (any_of HT_.out (by kernel_rfl)) (fun _ _ _ h => h) (Or.inr ⟨by rfl, rfl⟩) ?_ ?_
    rotate_left
    ·simp only [Act.put, List.setIfInBounds_toArray, List.set_cons_zero, List.set_cons_succ, i64_w, i32_w]
     rfl
    refine pure_ (i := 25) (N := some 78) (v := undef) (a' := ?_) (fl_ 42 26) rfl rfl (any_of HT_.out (by kernel_rfl)) (fun _ _ _ h => h) (Or.inr ⟨by rfl, rfl⟩) ?_ ?_
    rotate_left
    ·simp only [Act.put, List.setIfInBounds_toArray, List.set_cons_zero, List.set_cons_succ, i64_w, i32_w]
     rfl
    refine pure_ (i := 26) (N := some 79) (v := undef) (a' := ?_) (fl_ 42 27) rfl rfl (any_of HT_.out (by kernel_rfl)) (fun _ _ _ h => h) (Or.inr ⟨by rfl, rfl⟩) ?_ ?_
    rotate_left
    ·simp only [Act.put, List.setIfInBounds_toArray, List.set_cons_zero, List.set_cons_succ, i64_w, i32_w]
     rfl
    refine purS_ (i := 27) (N := some 80) (fl_ 42 28) HT_.out ?_
    refine purS_ (i := 28) (N := some 81) (fl_ 42 29) HT_.out ?_
    refine pure_ (i := 29) (N := some 82) (v := undef) (a' := ?_) (fl_ 42 30) rfl rfl (any_of HT_.out (by kernel_rfl)) (fun _ _ _ h => h) (Or.inr ⟨by rfl, rfl⟩) ?_ ?_
    rotate_left
    ·simp only [Act.put, List.setIfInBounds_toArray, List.set_cons_zero, List.set_cons_succ, i64_w, i32_w]
     rfl
    refine pure_ (i := 30) (N := some 83) (v := undef) (a' := ?_) (fl_ 42 31) rfl rfl (any_of HT_.out (by kernel_rfl)) (fun _ _ _ h => h) (Or.inr ⟨by rfl, rfl⟩) ?_ ?_
    rotate_left
    ·simp only [Act.put, List.setIfInBounds_toArray, List.set_cons_zero, List.set_cons_succ, i64_w, i32_w]
     rfl
    refine pure_ (i := 31) (N := some 84) (v := undef) (a' := ?_) (fl_ 42 32) rfl rfl (any_of HT_.out (by kernel_rfl)) (fun _ _ _ h => h) (Or.inr ⟨by rfl, rfl⟩) ?_ ?_
    rotate_left
    ·simp only [Act.put, List.setIfInBounds_toArray, List.set_cons_zero, List.set_cons_succ, i64_w, i32_w]
     rfl
    refine pure_ (i := 32) (N := some 85) (v := undef) (a' := ?_) (fl_ 42 33) rfl rfl (any_of HT_.out (by kernel_rfl)) (fun _ _ _ h => h) (Or.inr ⟨by rfl, rfl⟩) ?_ ?_
    rotate_left
    ·simp only [Act.put, List.setIfInBounds_toArray, List.set_cons_zero, List.set_cons_succ, i64_w, i32_w]
     rfl
    refine pure_ (i := 33) (N := some 86) (v := undef) (a' := ?_) (fl_ 42 34) rfl rfl (any_of HT_.out (by kernel_rfl)) (fun _ _ _ h => h) (Or.inr ⟨by rfl, rfl⟩) ?_ ?_
    rotate_left
    ·simp only [Act.put, List.setIfInBounds_toArray, List.set_cons_zero, List.set_cons_succ, i64_w, i32_w]
     rfl
    refine purS_ (i := 34) (N := some 87) (fl_ 42 35) HT_.out ?_
    refine purS_ (i := 35) (N := some 88) (fl_ 42 36) HT_.out ?_
    refine pure_ (i := 36) (N := some 89) (v := undef) (a' := ?_) (fl_ 42 37) rfl rfl (any_of HT_.out (by kernel_rfl)) (fun _ _ _ h => h) (Or.inr ⟨by rfl, rfl⟩) ?_ ?_
    rotate_left
    ·simp only [Act.put, List.setIfInBounds_toArray, List.set_cons_zero, List.set_cons_succ, i64_w, i32_w]
     rfl
    refine pure_ (i := 37) (N := some 90) (v := undef) (a' := ?_) (fl_ 42 38) rfl rfl (any_of HT_.out (by kernel_rfl)) (fun _ _ _ h => h) (Or.inr ⟨by rfl, rfl⟩) ?_ ?_
    rotate_left
    ·simp only [Act.put, List.setIfInBounds_toArray, List.set_cons_zero, List.set_cons_succ, i64_w, i32_w]
     rfl
    refine pure_ (i := 38) (N := some 91) (v := undef) (a' := ?_) (fl_ 42 39) rfl rfl (any_of HT_.out (by kernel_rfl)) (fun _ _ _ h => h) (Or.inr ⟨by rfl, rfl⟩) ?_ ?_
    rotate_left
    ·simp only [Act.put, List.setIfInBounds_toArray, List.set_cons_zero, List.set_cons_succ, i64_w, i32_w]
     rfl
    refine pure_ (i := 39) (N := some 92) (v := undef) (a' := ?_) (fl_ 42 40) rfl rfl (any_of HT_.out (by kernel_rfl)) (fun _ _ _ h => h) (Or.inr ⟨by rfl, rfl⟩) ?_ ?_
    rotate_left
    ·simp only [Act.put, List.setIfInBounds_toArray, List.set_cons_zero, List.set_cons_succ, i64_w, i32_w]
     rfl
    refine pure_ (i := 40) (N := some 93) (v := undef) (a' := ?_) (fl_ 42 41) rfl rfl (any_of HT_.out (by kernel_rfl)) (fun _ _ _ h => h) (Or.inr ⟨by rfl, rfl⟩) ?_ ?_
    rotate_left
    ·simp only [Act.put, List.setIfInBounds_toArray, List.set_cons_zero, List.set_cons_succ, i64_w, i32_w]
     rfl
    refine purS_ (i := 41) (N := some 94) (fl_ 42 42) HT_.out ?_
    refine done_ (done_of HT_.out (by kernel_rfl)) ?_
    try go_wp2
    go_ret3
    exact ⟨_, rtE_, by first | exact Kd.R_nil _ _ _ _ _ | exact Kd.N_nil _ _ _ _ _ | exact Kd.V_nil _ _ _ _ _ | exact Kd.Q_nil _ _ _ _ _ | exact Kd.S_nil _ _ _ _ _, below_to2 HB GE223.out GE224.out⟩
   subst c66
   rw [if_pos rfl] at H
   by_cases c67 : a1 ≥ (rd (rd_L1 l4 x49_2) 0)
   ·rw [if_pos c67] at H
    have c67b0 := decide_eq_true c67
    clear c67
    simp only [Option.some.injEq, Prod.mk.injEq] at H
    obtain ⟨rfl, rfl, rfl⟩ := H
    have p235 : 0 ≤ (x49_2 : Int) := odt_
    have q235 : x49_2 < (l4.length : Int) := odt_
    obtain ⟨ad235, A235_0, c235_0, e235, hx235_0, hl235_0, hi235_0⟩ := at_L1 (Kd.V_reads' HO_47.out).2.2 x49_2 p235 q235
    cases e235
    obtain ⟨ce235, hce235, hMe235, hcc235⟩ := Kd.V_get HO_47.out [] x49_2 p235 (by first | exact q235 | exact of_decide_eq_true (by first | (with_reducible assumption) | assumption) | (have e_ := (Kd.V_reads' HO_47.out).1; omega))
    obtain ⟨ua235_0, uc235_0, rfl, ul235_0, ge235_0⟩ := Kd.FK_slice_open hMe235
    have hv235_0 := hcc235 0 _ rfl
    rw [Nat.add_zero, show ((Kd.slice 3 (Kd.int .i64))).sz = 1 from rfl, Nat.mul_one] at hv235_0
    replace hv235_0 := Option.some.inj (hv235_0.symm.trans hx235_0)
    injection hv235_0 with hva_ hvn_ hvc_
    rw [hva_] at ge235_0
    rw [hvc_] at ul235_0
    have HL235_0 := Aside0.mk (show Kd.V (Kd.int .i64) 3 _ w.heap.size _ _ (rd_L1 l4 x49_2) from Kd.V_mk ul235_0 ge235_0)
    clear hva_ hvn_ hvc_ ge235_0 ul235_0
    clear hcc235 hce235
    have HR235_0 := Aside0.mk hi235_0
    have HC235_0 := Aside0.mk hl235_0
    clear hi235_0 hl235_0
    replace p235 := eq_true p235
    replace q235 := eq_true q235
    try go_wp2
    have n0_ := Aside0.mk (Kd.V_drew HO_4.out)
    have n1_ := Aside0.mk (Kd.V_drew HO_47.out)
    have n2_ := Aside0.mk (Kd.V_drew HL235_0.out)
    have n3_ := Aside0.mk (blk_drew BK223.out)
    have n4_ := Aside0.mk (blk_drew BK224.out)
    have n5_ := Aside0.mk (Kd.C_drew HR235_0.out)
    have n6_ := Aside0.mk (below_drew1 HB.out)
    clear HO_4
    clear HO_47
    clear HL235_0
    clear BK223
    clear BK224
    clear HR235_0
    clear HB
    have HO_4 := n0_
    have HO_47 := n1_
    have HL235_0 := n2_
    have BK223 := n3_
    have BK224 := n4_
    have HR235_0 := n5_
    have HB := n6_
    clear n0_ n1_ n2_ n3_ n4_ n5_ n6_
    have p236 : 0 ≤ (0 : Int) := (by omega)
    have q236 : 0 < ((rd_L1 l4 x49_2).length : Int) := odt_
    obtain ⟨ad236, e236, hx236_0⟩ := Kd.at_int (by repeat (first | (with_reducible exact HR235_0.out) | (with_reducible refine Kd.C_alloc ?_ _) | (with_reducible refine Kd.C_drewN ?_ _) | (with_reducible refine Kd.C_drew ?_) | exact HR235_0.out)) 0 p236 q236
    cases e236
    have qi236 : (0 < (rd_L1 l4 x49_2).length) = True := eq_true (by omega)
    (try rw [show ((0 : Int)).toNat = 0 from rfl] at hx236_0)
    (try rw [Addr.add_zero'] at hx236_0)
    replace p236 := eq_true p236
    replace q236 := eq_true q236
    have p241 : 0 ≤ (1 : Int) := (by omega)
    have q241 : 1 < ((rd_L1 l4 x49_2).length : Int) := odt_
    obtain ⟨ad241, e241, hx241_0⟩ := Kd.at_int (by repeat (first | (with_reducible exact HR235_0.out) | (with_reducible refine Kd.C_alloc ?_ _) | (with_reducible refine Kd.C_drewN ?_ _) | (with_reducible refine Kd.C_drew ?_) | exact HR235_0.out)) 1 p241 q241
    obtain rfl : ad236 = ad241 := (by injection e241)
    (try simp only [show (1 : Int).toNat = 1 from rfl, Nat.reduceMul, Nat.reduceEqDiff, Go.Addr.add, ↓reduceIte] at hx241_0)
    have qi241 : (1 < (rd_L1 l4 x49_2).length) = True := eq_true (by omega)
    (try rw [show ((1 : Int)).toNat = 1 from rfl] at hx241_0)
    replace p241 := eq_true p241
    replace q241 := eq_true q241
    have p246 : 0 ≤ (0 : Int) := (by omega)
    have q246 : 0 < ((rd_L1 l4 x49_2).length : Int) := odt_
    obtain ⟨ad246, e246, hx246_0⟩ := Kd.at_int (by repeat (first | (with_reducible exact HR235_0.out) | (with_reducible refine Kd.C_alloc ?_ _) | (with_reducible refine Kd.C_drewN ?_ _) | (with_reducible refine Kd.C_drew ?_) | exact HR235_0.out)) 0 p246 q246
    obtain rfl : ad236 = ad246 := (by injection e246)
    have qi246 : (0 < (rd_L1 l4 x49_2).length) = True := eq_true (by omega)
    (try rw [show ((0 : Int)).toNat = 0 from rfl] at hx246_0)
    (try rw [Addr.add_zero'] at hx246_0)
    replace p246 := eq_true p246
    replace q246 := eq_true q246
    refine start_ (n := 42) (S := fun w' => w'.cell? ⟨gb223, 0, none⟩ = some (.int .i64 a0_0) ∧ w'.cell? ⟨gb223, 1, none⟩ = some (.int .i64 a0_1) ∧ w'.cell? ⟨gb223, 2, none⟩ = some (.int .i64 a0_2) ∧ w'.cell? ⟨gb223, 3, none⟩ = some (.slice A0_3 l0_3.length c0_3) ∧ w'.cell? ⟨gb224, 0, none⟩ = some (.int .i64 a2_0) ∧ w'.cell? ⟨gb224, 1, none⟩ = some (.int .i64 a2_1) ∧ w'.cell? ⟨gb224, 2, none⟩ = some (.int .i64 a2_2) ∧ w'.cell? ⟨gb224, 3, none⟩ = some (.slice A2_3 l2_3.length c2_3) ∧ w'.cell? ad236 = some (.int .i64 (rd (rd_L1 l4 x49_2) 0)) ∧ w'.cell? ⟨ad236.block, ad236.off + 1, none⟩ = some (.int .i64 (rd (rd_L1 l4 x49_2) 1)) ∧ w'.cell? ad236 = some (.int .i64 (rd (rd_L1 l4 x49_2) 0))) (ds := []) (fr_ [0, 42]) (by kernel_rfl) rfl rfl ⟨(blk_cell BK223.out 0).trans rfl, (blk_cell BK223.out 1).trans rfl, (blk_cell BK223.out 2).trans rfl, (blk_cell BK223.out 3).trans rfl, (blk_cell BK224.out 0).trans rfl, (blk_cell BK224.out 1).trans rfl, (blk_cell BK224.out 2).trans rfl, (blk_cell BK224.out 3).trans rfl, hx236_0, hx241_0, hx246_0⟩ (fun hHeld => ?_); refine with_tabW impl_BestChange.tab6 impl_BestChange.bits6 (fun HT_ HW_ => ?_)
    clear hx241_0 p241 q241 qi241 hx246_0 p246 q246 qi246
    generalize wr.drew = w68 at HO_4 HO_47 HL235_0 BK223 BK224 HR235_0 HB hx236_0 hHeld ⊢
    refine purS_ (i := 0) (N := some 53) (fl_ 42 1) HT_.out ?_
    refine purS_ (i := 1) (N := some 54) (fl_ 42 2) HT_.out ?_
    refine purS_ (i := 2) (N := some 55) (fl_ 42 3) HT_.out ?_
    refine purS_ (i := 3) (N := some 56) (fl_ 42 4) HT_.out ?_
    refine purS_ (i := 5) (N := some 58) (fr_ [4, 1, 1, 36]) HT_.out ?_
    refine purS_ (i := 6) (N := some 59) (fr_ [4, 1, 2, 35]) HT_.out ?_
    refine take_ (i := 4) (N := some 57) (v := ?_) (a' := ?_) (fr_ [7, 35]) rfl rfl (take_ofW HT_.out HW_.out (by kernel_rfl)) (fun _ _ _ h => h) (Or.inl ⟨by rfl, ?_⟩) hHeld ?_ ?_
    rotate_left
    ·rintro w' ⟨s0, s1, s2, s3, s4, s5, s6, s7, s8, s9, s10⟩
     go_simp
     with_reducible rfl
    rotate_left
    ·simp only [Act.put, List.setIfInBounds_toArray, List.set_cons_zero, List.set_cons_succ, i64_w, i32_w]
     rfl
    refine take_ (i := 7) (N := some 60) (v := ?_) (a' := ?_) (fr_ [8, 34]) rfl rfl (take_ofW HT_.out HW_.out (by kernel_rfl)) (fun _ _ _ h => h) (Or.inl ⟨by rfl, ?_⟩) hHeld ?_ ?_
    rotate_left
    ·rintro w' ⟨s0, s1, s2, s3, s4, s5, s6, s7, s8, s9, s10⟩
     go_simp
     with_reducible rfl
    rotate_left
    ·simp only [Act.put, List.setIfInBounds_toArray, List.set_cons_zero, List.set_cons_succ, i64_w, i32_w]
     rfl
    refine one_ (i := 8) (N := some 61) (fr_ [9, 33]) rfl rfl (one_of HT_.out (by kernel_rfl)) (by decide) (fun K hK => ?_)
    refine Kd.R_lit_step (Kd.int .i64) _ 3 ?hg (N := 61) ?hd (xs := ([rd (rd_L1 l4 x49_2) 0] : List Int)) (inner := [.int .i64 (rd (rd_L1 l4 x49_2) 0)]) (ok := fun _ => True) (okp := fun _ => True) ?hr ?hp (fun _ hk => hk) trivial (Below.refl _ _) (Nat.le_refl _) (by simp) ?_; (case hd => rfl); (case hg => rfl); (case hr => first | (go_simp; done) | (go_simp; rfl)); (case hp => exact (Reps.one (show Kd.M (Kd.int .i64) _ _ _ (rd (rd_L1 l4 x49_2) 0) [.int .i64 (rd (rd_L1 l4 x49_2) 0)] from rfl) (Reps.none _ _)))
    intro v238 w69 ho70 hb hg_ hnew_
    have HS8_ := (hb.cell (World.block_lt_of_cell? _ _ (hHeld.2.2.2.2.2.2.2.2.1))).trans (hHeld.2.2.2.2.2.2.2.2.1)
    have HS9_ := (hb.cell (World.block_lt_of_cell? _ _ (hHeld.2.2.2.2.2.2.2.2.2.1))).trans (hHeld.2.2.2.2.2.2.2.2.2.1)
    have HS10_ := (hb.cell (World.block_lt_of_cell? _ _ (hHeld.2.2.2.2.2.2.2.2.2.2))).trans (hHeld.2.2.2.2.2.2.2.2.2.2)
    clear hg_ hnew_
    (first | rw [← Ny237.out] at ho70 | (simp only [Int.reduceToNat] at ho70; rw [← Ny237.out] at ho70))
    have n0_ := Aside0.mk (Kd.V_elder' (vd_to HO_4) (Kd.R_base ho70) hb)
    have n1_ := Aside0.mk (Kd.V_elder' (vd_to HO_47) (Kd.R_base ho70) hb)
    have n2_ := Aside0.mk (Kd.V_elder' (vd_to HL235_0) (Kd.R_base ho70) hb)
    have n3_ := Aside0.mk (Kd.R_lower (Kd.R_newM (M := fun k_ => (w.heap.size ≤ k_)) ho70 (below_size (below_to2 HB GE223.out GE224.out)) (fun k_ h_ => h_)) (below_size (below_to2 HB GE223.out GE224.out)))
    have n4_ := Aside0.mk (blk_below (blk_to BK223) hb)
    have n5_ := Aside0.mk (blk_below (blk_to BK224) hb)
    have n6_ := Aside0.mk (Kd.C_below (by repeat (first | (with_reducible exact HR235_0.out) | (with_reducible refine Kd.C_alloc ?_ _) | (with_reducible refine Kd.C_drewN ?_ _) | (with_reducible refine Kd.C_drew ?_) | exact HR235_0.out)) hb)
    have n7_ := Aside0.mk (below_step (below_to2 HB GE223.out GE224.out) hb)
    clear HO_4
    clear HO_47
    clear HL235_0
    clear BK223
    clear BK224
    clear HR235_0
    clear HB
    have HO_4 := n0_
    have HO_47 := n1_
    have HL235_0 := n2_
    have HO239 := n3_
    have BK223 := n4_
    have BK224 := n5_
    have HR235_0 := n6_
    have HB := n7_
    clear n0_ n1_ n2_ n3_ n4_ n5_ n6_ n7_
    clear hb ho70
    obtain ⟨Ao71, co71, eo71⟩ := Kd.R_slice HO239.out
    (first | subst eo71 | (injection eo71 with f1_ f2_ f3_; have f4_ := f1_.symm; have f5_ := f3_.symm; clear f1_ f2_ f3_; subst f4_; subst f5_))
    refine hK.out _ _ ⟨(blk_cell BK223.out 0).trans rfl, (blk_cell BK223.out 1).trans rfl, (blk_cell BK223.out 2).trans rfl, (blk_cell BK223.out 3).trans rfl, (blk_cell BK224.out 0).trans rfl, (blk_cell BK224.out 1).trans rfl, (blk_cell BK224.out 2).trans rfl, (blk_cell BK224.out 3).trans rfl, HS8_, HS9_, HS10_⟩ (fun hHeld => ?_)
    clear hK K
    refine norm_ (a' := ?_) ?_ ?_
    rotate_left
    ·show Act.put _ (some 61) _ = _
     simp only [Act.put, List.setIfInBounds_toArray, List.set_cons_zero, List.set_cons_succ, i64_w, i32_w]
     rfl
    refine one_ (i := 9) (N := some 62) (fr_ [10, 32]) rfl rfl (one_of HT_.out (by kernel_rfl)) (by decide) (fun K hK => ?_)
    refine goes_ Try.func49 (by kernel_rfl) rfl #[.agg #[.int .i64 a0_0, .int .i64 a0_1, .int .i64 a0_2, .slice A0_3 l0_3.length c0_3], .slice Ao71 y237.length co71] (by rfl) rfl rfl am_ ?_
    with_reducible refine (impl_hasStops.calls k2 a0_0 a0_1 a0_2 _ _ l0_3 _ _ y237 true _ ?side1 ?side2 ?side3 ?side4 A62.out).mono ?_
    (case side1 => exact cb_ HR0_3 HB)
    (case side2 => exact HC0_3.out)
    (case side3 => exact cR_ HO239)
    (case side4 => exact (Kd.R_reads' HO239.out).2.1)
    rintro e w72 ⟨rfl, hb⟩
    have HS8_ := (hb.cell (World.block_lt_of_cell? _ _ (hHeld.2.2.2.2.2.2.2.2.1))).trans (hHeld.2.2.2.2.2.2.2.2.1)
    have HS9_ := (hb.cell (World.block_lt_of_cell? _ _ (hHeld.2.2.2.2.2.2.2.2.2.1))).trans (hHeld.2.2.2.2.2.2.2.2.2.1)
    have HS10_ := (hb.cell (World.block_lt_of_cell? _ _ (hHeld.2.2.2.2.2.2.2.2.2.2))).trans (hHeld.2.2.2.2.2.2.2.2.2.2)
    refine ⟨_, rfl, ?_⟩
    have n0_ := Aside0.mk (Kd.V_below (vd_to HO_4) hb)
    have n1_ := Aside0.mk (Kd.V_below (vd_to HO_47) hb)
    have n2_ := Aside0.mk (Kd.V_below (vd_to HL235_0) hb)
    have n3_ := Aside0.mk (Kd.R_below (kd_to HO239) hb)
    have n4_ := Aside0.mk (blk_below (blk_to BK223) hb)
    have n5_ := Aside0.mk (blk_below (blk_to BK224) hb)
    have n6_ := Aside0.mk (Kd.C_below (by repeat (first | (with_reducible exact HR235_0.out) | (with_reducible refine Kd.C_alloc ?_ _) | (with_reducible refine Kd.C_drewN ?_ _) | (with_reducible refine Kd.C_drew ?_) | exact HR235_0.out)) hb)
    have n7_ := Aside0.mk (below_step (below_to2 HB GE223.out GE224.out) hb)
    clear HO_4
    clear HO_47
    clear HL235_0
    clear HO239
    clear BK223
    clear BK224
    clear HR235_0
    clear HB
    have HO_4 := n0_
    have HO_47 := n1_
    have HL235_0 := n2_
    have HO239 := n3_
    have BK223 := n4_
    have BK224 := n5_
    have HR235_0 := n6_
    have HB := n7_
    clear n0_ n1_ n2_ n3_ n4_ n5_ n6_ n7_
    (try clear hb)
    (try clear hb2)
    (try clear hk)
    (try clear hi)
    have p241 : 0 ≤ (1 : Int) := (by omega)
    have q241 : 1 < ((rd_L1 l4 x49_2).length : Int) := odt_
    obtain ⟨ad241, e241, hx241_0⟩ := Kd.at_int (by repeat (first | (with_reducible exact HR235_0.out) | (with_reducible refine Kd.C_alloc ?_ _) | (with_reducible refine Kd.C_drewN ?_ _) | (with_reducible refine Kd.C_drew ?_) | exact HR235_0.out)) 1 p241 q241
    obtain rfl : ad236 = ad241 := (by injection e241)
    (try simp only [show (1 : Int).toNat = 1 from rfl, Nat.reduceMul, Nat.reduceEqDiff, Go.Addr.add, ↓reduceIte] at hx241_0)
    have qi241 : (1 < (rd_L1 l4 x49_2).length) = True := eq_true (by omega)
    (try rw [show ((1 : Int)).toNat = 1 from rfl] at hx241_0)
    replace p241 := eq_true p241
    replace q241 := eq_true q241
    refine hK.out _ _ ⟨(blk_cell BK223.out 0).trans rfl, (blk_cell BK223.out 1).trans rfl, (blk_cell BK223.out 2).trans rfl, (blk_cell BK223.out 3).trans rfl, (blk_cell BK224.out 0).trans rfl, (blk_cell BK224.out 1).trans rfl, (blk_cell BK224.out 2).trans rfl, (blk_cell BK224.out 3).trans rfl, HS8_, HS9_, HS10_⟩ (fun hHeld => ?_)
    clear hK K
    refine norm_ (a' := ?_) ?_ ?_
    rotate_left
    ·show Act.put _ (some 62) _ = _
     simp only [Act.put, List.setIfInBounds_toArray, List.set_cons_zero, List.set_cons_succ, i64_w, i32_w]
     rfl
    refine purS_ (i := 10) (N := some 63) (fl_ 42 11) HT_.out ?_
    refine purS_ (i := 11) (N := some 64) (fl_ 42 12) HT_.out ?_
    refine purS_ (i := 12) (N := some 65) (fl_ 42 13) HT_.out ?_
    refine purS_ (i := 14) (N := some 67) (fr_ [13, 1, 1, 27]) HT_.out ?_
    refine purS_ (i := 15) (N := some 68) (fr_ [13, 1, 2, 26]) HT_.out ?_
    refine take_ (i := 13) (N := some 66) (v := ?_) (a' := ?_) (fr_ [16, 26]) rfl rfl (take_ofW HT_.out HW_.out (by kernel_rfl)) (fun _ _ _ h => h) (Or.inl ⟨by rfl, ?_⟩) hHeld ?_ ?_
    rotate_left
    ·rintro w' ⟨s0, s1, s2, s3, s4, s5, s6, s7, s8, s9, s10⟩
     go_simp
     with_reducible rfl
    rotate_left
    ·simp only [Act.put, List.setIfInBounds_toArray, List.set_cons_zero, List.set_cons_succ, i64_w, i32_w]
     rfl
    refine take_ (i := 16) (N := some 69) (v := ?_) (a' := ?_) (fr_ [17, 25]) rfl rfl (take_ofW HT_.out HW_.out (by kernel_rfl)) (fun _ _ _ h => h) (Or.inl ⟨by rfl, ?_⟩) hHeld ?_ ?_
    rotate_left
    ·rintro w' ⟨s0, s1, s2, s3, s4, s5, s6, s7, s8, s9, s10⟩
     go_simp
     with_reducible rfl
    rotate_left
    ·simp only [Act.put, List.setIfInBounds_toArray, List.set_cons_zero, List.set_cons_succ, i64_w, i32_w]
     rfl
    refine one_ (i := 17) (N := some 70) (fr_ [18, 24]) rfl rfl (one_of HT_.out (by kernel_rfl)) (by decide) (fun K hK => ?_)
    refine Kd.R_lit_step (Kd.int .i64) _ 3 ?hg (N := 70) ?hd (xs := ([rd (rd_L1 l4 x49_2) 1] : List Int)) (inner := [.int .i64 (rd (rd_L1 l4 x49_2) 1)]) (ok := fun _ => True) (okp := fun _ => True) ?hr ?hp (fun _ hk => hk) trivial (Below.refl _ _) (Nat.le_refl _) (by simp) ?_; (case hd => rfl); (case hg => rfl); (case hr => first | (go_simp; done) | (go_simp; rfl)); (case hp => exact (Reps.one (show Kd.M (Kd.int .i64) _ _ _ (rd (rd_L1 l4 x49_2) 1) [.int .i64 (rd (rd_L1 l4 x49_2) 1)] from rfl) (Reps.none _ _)))
    intro v243 w73 ho74 hb hg_ hnew_
    have HS8_ := (hb.cell (World.block_lt_of_cell? _ _ (hHeld.2.2.2.2.2.2.2.2.1))).trans (hHeld.2.2.2.2.2.2.2.2.1)
    have HS9_ := (hb.cell (World.block_lt_of_cell? _ _ (hHeld.2.2.2.2.2.2.2.2.2.1))).trans (hHeld.2.2.2.2.2.2.2.2.2.1)
    have HS10_ := (hb.cell (World.block_lt_of_cell? _ _ (hHeld.2.2.2.2.2.2.2.2.2.2))).trans (hHeld.2.2.2.2.2.2.2.2.2.2)
    clear hg_ hnew_
    (first | rw [← Ny242.out] at ho74 | (simp only [Int.reduceToNat] at ho74; rw [← Ny242.out] at ho74))
    have n0_ := Aside0.mk (Kd.V_elder' (vd_to HO_4) (Kd.R_base ho74) hb)
    have n1_ := Aside0.mk (Kd.V_elder' (vd_to HO_47) (Kd.R_base ho74) hb)
    have n2_ := Aside0.mk (Kd.V_elder' (vd_to HL235_0) (Kd.R_base ho74) hb)
    have n3_ := Aside0.mk (Kd.R_elder' (kd_to HO239) (Kd.R_base ho74) hb)
    have n4_ := Aside0.mk (Kd.R_lower (Kd.R_new' (Kd.R_newM (M := fun k_ => (w.heap.size ≤ k_)) ho74 (below_size (below_to2 HB GE223.out GE224.out)) (fun k_ h_ => h_)) (Kd.R_lt (kd_to HO239))) (below_size (below_to2 HB GE223.out GE224.out)))
    have n5_ := Aside0.mk (blk_below (blk_to BK223) hb)
    have n6_ := Aside0.mk (blk_below (blk_to BK224) hb)
    have n7_ := Aside0.mk (Kd.C_below (by repeat (first | (with_reducible exact HR235_0.out) | (with_reducible refine Kd.C_alloc ?_ _) | (with_reducible refine Kd.C_drewN ?_ _) | (with_reducible refine Kd.C_drew ?_) | exact HR235_0.out)) hb)
    have n8_ := Aside0.mk (below_step (below_to2 HB GE223.out GE224.out) hb)
    clear HO_4
    clear HO_47
    clear HL235_0
    clear HO239
    clear BK223
    clear BK224
    clear HR235_0
    clear HB
    have HO_4 := n0_
    have HO_47 := n1_
    have HL235_0 := n2_
    have HO239 := n3_
    have HO244 := n4_
    have BK223 := n5_
    have BK224 := n6_
    have HR235_0 := n7_
    have HB := n8_
    clear n0_ n1_ n2_ n3_ n4_ n5_ n6_ n7_ n8_
    clear hb ho74
    obtain ⟨Ao75, co75, eo75⟩ := Kd.R_slice HO244.out
    (first | subst eo75 | (injection eo75 with f1_ f2_ f3_; have f4_ := f1_.symm; have f5_ := f3_.symm; clear f1_ f2_ f3_; subst f4_; subst f5_))
    refine hK.out _ _ ⟨(blk_cell BK223.out 0).trans rfl, (blk_cell BK223.out 1).trans rfl, (blk_cell BK223.out 2).trans rfl, (blk_cell BK223.out 3).trans rfl, (blk_cell BK224.out 0).trans rfl, (blk_cell BK224.out 1).trans rfl, (blk_cell BK224.out 2).trans rfl, (blk_cell BK224.out 3).trans rfl, HS8_, HS9_, HS10_⟩ (fun hHeld => ?_)
    clear hK K
    refine norm_ (a' := ?_) ?_ ?_
    rotate_left
    ·show Act.put _ (some 70) _ = _
     simp only [Act.put, List.setIfInBounds_toArray, List.set_cons_zero, List.set_cons_succ, i64_w, i32_w]
     rfl
    refine one_ (i := 18) (N := some 71) (fr_ [19, 23]) rfl rfl (one_of HT_.out (by kernel_rfl)) (by decide) (fun K hK => ?_)
    refine goes_ Try.func49 (by kernel_rfl) rfl #[.agg #[.int .i64 a2_0, .int .i64 a2_1, .int .i64 a2_2, .slice A2_3 l2_3.length c2_3], .slice Ao75 y242.length co75] (by rfl) rfl rfl am_ ?_
    with_reducible refine (impl_hasStops.calls k2 a2_0 a2_1 a2_2 _ _ l2_3 _ _ y242 true _ ?side1 ?side2 ?side3 ?side4 A65.out).mono ?_
    (case side1 => exact cb_ HR2_3 HB)
    (case side2 => exact HC2_3.out)
    (case side3 => exact cR_ HO244)
    (case side4 => exact (Kd.R_reads' HO244.out).2.1)
    rintro e w76 ⟨rfl, hb⟩
    have HS8_ := (hb.cell (World.block_lt_of_cell? _ _ (hHeld.2.2.2.2.2.2.2.2.1))).trans (hHeld.2.2.2.2.2.2.2.2.1)
    have HS9_ := (hb.cell (World.block_lt_of_cell? _ _ (hHeld.2.2.2.2.2.2.2.2.2.1))).trans (hHeld.2.2.2.2.2.2.2.2.2.1)
    have HS10_ := (hb.cell (World.block_lt_of_cell? _ _ (hHeld.2.2.2.2.2.2.2.2.2.2))).trans (hHeld.2.2.2.2.2.2.2.2.2.2)
    refine ⟨_, rfl, ?_⟩
    have n0_ := Aside0.mk (Kd.V_below (vd_to HO_4) hb)
    have n1_ := Aside0.mk (Kd.V_below (vd_to HO_47) hb)
    have n2_ := Aside0.mk (Kd.V_below (vd_to HL235_0) hb)
    have n3_ := Aside0.mk (Kd.R_below (kd_to HO239) hb)
    have n4_ := Aside0.mk (Kd.R_below (kd_to HO244) hb)
    have n5_ := Aside0.mk (blk_below (blk_to BK223) hb)
    have n6_ := Aside0.mk (blk_below (blk_to BK224) hb)
    have n7_ := Aside0.mk (Kd.C_below (by repeat (first | (with_reducible exact HR235_0.out) | (with_reducible refine Kd.C_alloc ?_ _) | (with_reducible refine Kd.C_drewN ?_ _) | (with_reducible refine Kd.C_drew ?_) | exact HR235_0.out)) hb)
    have n8_ := Aside0.mk (below_step (below_to2 HB GE223.out GE224.out) hb)
    clear HO_4
    clear HO_47
    clear HL235_0
    clear HO239
    clear HO244
    clear BK223
    clear BK224
    clear HR235_0
    clear HB
    have HO_4 := n0_
    have HO_47 := n1_
    have HL235_0 := n2_
    have HO239 := n3_
    have HO244 := n4_
    have BK223 := n5_
    have BK224 := n6_
    have HR235_0 := n7_
    have HB := n8_
    clear n0_ n1_ n2_ n3_ n4_ n5_ n6_ n7_ n8_
    (try clear hb)
    (try clear hb2)
    (try clear hk)
    (try clear hi)
    have p246 : 0 ≤ (0 : Int) := (by omega)
    have q246 : 0 < ((rd_L1 l4 x49_2).length : Int) := odt_
    obtain ⟨ad246, e246, hx246_0⟩ := Kd.at_int (by repeat (first | (with_reducible exact HR235_0.out) | (with_reducible refine Kd.C_alloc ?_ _) | (with_reducible refine Kd.C_drewN ?_ _) | (with_reducible refine Kd.C_drew ?_) | exact HR235_0.out)) 0 p246 q246
    obtain rfl : ad236 = ad246 := (by injection e246)
    have qi246 : (0 < (rd_L1 l4 x49_2).length) = True := eq_true (by omega)
    (try rw [show ((0 : Int)).toNat = 0 from rfl] at hx246_0)
    (try rw [Addr.add_zero'] at hx246_0)
    replace p246 := eq_true p246
    replace q246 := eq_true q246
    refine hK.out _ _ ⟨(blk_cell BK223.out 0).trans rfl, (blk_cell BK223.out 1).trans rfl, (blk_cell BK223.out 2).trans rfl, (blk_cell BK223.out 3).trans rfl, (blk_cell BK224.out 0).trans rfl, (blk_cell BK224.out 1).trans rfl, (blk_cell BK224.out 2).trans rfl, (blk_cell BK224.out 3).trans rfl, HS8_, HS9_, HS10_⟩ (fun hHeld => ?_)
    clear hK K
    refine norm_ (a' := ?_) ?_ ?_
    rotate_left
    ·show Act.put _ (some 71) _ = _
     simp only [Act.put, List.setIfInBounds_toArray, List.set_cons_zero, List.set_cons_succ, i64_w, i32_w]
     rfl
    refine purS_ (i := 19) (N := some 72) (fl_ 42 20) HT_.out ?_
    refine purS_ (i := 20) (N := some 73) (fl_ 42 21) HT_.out ?_
    refine purS_ (i := 21) (N := some 74) (fl_ 42 22) HT_.out ?_
    refine purS_ (i := 22) (N := some 75) (fl_ 42 23) HT_.out ?_
    refine purS_ (i := 23) (N := some 76) (fl_ 42 24) HT_.out ?_
    refine purS_ (i := 24) (N := some 77) (fl_ 42 25) HT_.out ?_
    refine take_ (i := 25) (N := some 78) (v := ?_) (a' := ?_) (fr_ [26, 16]) rfl rfl (take_ofW HT_.out HW_.out (by kernel_rfl)) (fun _ _ _ h => h) (Or.inl ⟨by rfl, ?_⟩) hHeld ?_ ?_
    rotate_left
    ·rintro w' ⟨s0, s1, s2, s3, s4, s5, s6, s7, s8, s9, s10⟩
     go_simp
     with_reducible rfl
    rotate_left
    ·simp only [Act.put, List.setIfInBounds_toArray, List.set_cons_zero, List.set_cons_succ, i64_w, i32_w]
     rfl
    refine purS_ (i := 26) (N := some 79) (fl_ 42 27) HT_.out ?_
    refine purS_ (i := 27) (N := some 80) (fl_ 42 28) HT_.out ?_
    refine purS_ (i := 28) (N := some 81) (fl_ 42 29) HT_.out ?_
    refine pure_ (i := 29) (N := some 82) (v := undef) (a' := ?_) (fl_ 42 30) rfl rfl (any_of HT_.out (by kernel_rfl)) (fun _ _ _ h => h) (Or.inr ⟨by rfl, rfl⟩) ?_ ?_
    rotate_left
    ·simp only [Act.put, List.setIfInBounds_toArray, List.set_cons_zero, List.set_cons_succ, i64_w, i32_w]
     rfl
    refine pure_ (i := 30) (N := some 83) (v := undef) (a' := ?_) (fl_ 42 31) rfl rfl (any_of HT_.out (by kernel_rfl)) (fun _ _ _ h => h) (Or.inr ⟨by rfl, rfl⟩) ?_ ?_
    rotate_left
    ·simp only [Act.put, List.setIfInBounds_toArray, List.set_cons_zero, List.set_cons_succ, i64_w, i32_w]
     rfl
    refine pure_ (i := 31) (N := some 84) (v := undef) (a' := ?_) (fl_ 42 32) rfl rfl (any_of HT_.out (by kernel_rfl)) (fun _ _ _ h => h) (Or.inr ⟨by rfl, rfl⟩) ?_ ?_
    rotate_left
    ·simp only [Act.put, List.setIfInBounds_toArray, List.set_cons_zero, List.set_cons_succ, i64_w, i32_w]
     rfl
    refine pure_ (i := 32) (N := some 85) (v := undef) (a' := ?_) (fl_ 42 33) rfl rfl (any_of HT_.out (by kernel_rfl)) (fun _ _ _ h => h) (Or.inr ⟨by rfl, rfl⟩) ?_ ?_
    rotate_left
    ·simp only [Act.put, List.setIfInBounds_toArray, List.set_cons_zero, List.set_cons_succ, i64_w, i32_w]
     rfl
    refine pure_ (i := 33) (N := some 86) (v := undef) (a' := ?_) (fl_ 42 34) rfl rfl (any_of HT_.out (by kernel_rfl)) (fun _ _ _ h => h) (Or.inr ⟨by rfl, rfl⟩) ?_ ?_
    rotate_left
    ·simp only [Act.put, List.setIfInBounds_toArray, List.set_cons_zero, List.set_cons_succ, i64_w, i32_w]
     rfl
    refine purS_ (i := 34) (N := some 87) (fl_ 42 35) HT_.out ?_
    refine purS_ (i := 35) (N := some 88) (fl_ 42 36) HT_.out ?_
    refine pure_ (i := 36) (N := some 89) (v := undef) (a' := ?_) (fl_ 42 37) rfl rfl (any_of HT_.out (by kernel_rfl)) (fun _ _ _ h => h) (Or.inr ⟨by rfl, rfl⟩) ?_ ?_
    rotate_left
    ·simp only [Act.put, List.setIfInBounds_toArray, List.set_cons_zero, List.set_cons_succ, i64_w, i32_w]
     rfl
    refine pure_ (i := 37) (N := some 90) (v := undef) (a' := ?_) (fl_ 42 38) rfl rfl (any_of HT_.out (by kernel_rfl)) (fun _ _ _ h => h) (Or.inr ⟨by rfl, rfl⟩) ?_ ?_
    rotate_left
    ·simp only [Act.put, List.setIfInBounds_toArray, List.set_cons_zero, List.set_cons_succ, i64_w, i32_w]
     rfl
    refine pure_ (i := 38) (N := some 91) (v := undef) (a' := ?_) (fl_ 42 39) rfl rfl (any_of HT_.out (by kernel_rfl)) (fun _ _ _ h => h) (Or.inr ⟨by rfl, rfl⟩) ?_ ?_
    rotate_left
    ·simp only [Act.put, List.setIfInBounds_toArray, List.set_cons_zero, List.set_cons_succ, i64_w, i32_w]
     rfl
    refine pure_ (i := 39) (N := some 92) (v := undef) (a' := ?_) (fl_ 42 40) rfl rfl (any_of HT_.out (by kernel_rfl)) (fun _ _ _ h => h) (Or.inr ⟨by rfl, rfl⟩) ?_ ?_
    rotate_left
    ·simp only [Act.put, List.setIfInBounds_toArray, List.set_cons_zero, List.set_cons_succ, i64_w, i32_w]
     rfl
    refine pure_ (i := 40) (N := some 93) (v := undef) (a' := ?_) (fl_ 42 41) rfl rfl (any_of HT_.out (by kernel_rfl)) (fun _ _ _ h => h) (Or.inr ⟨by rfl, rfl⟩) ?_ ?_
    rotate_left
    ·simp only [Act.put, List.setIfInBounds_toArray, List.set_cons_zero, List.set_cons_succ, i64_w, i32_w]
     rfl
    refine purS_ (i := 41) (N := some 94) (fl_ 42 42) HT_.out ?_
    refine done_ (done_of HT_.out (by kernel_rfl)) ?_
    try go_wp2
    go_ret3
    exact ⟨_, rtE_, by first | exact Kd.R_nil _ _ _ _ _ | exact Kd.N_nil _ _ _ _ _ | exact Kd.V_nil _ _ _ _ _ | exact Kd.Q_nil _ _ _ _ _ | exact Kd.S_nil _ _ _ _ _, below_to2 HB GE223.out GE224.out⟩
   rw [if_neg c67] at H
   have c67b0 := decide_eq_false c67
   clear c67
   by_cases c77 : (rd (rd_L1 l4 x49_2) 1) ≥ a3
   ·rw [if_pos c77] at H
    have c77b0 := decide_eq_true c77
    clear c77
    simp only [Option.some.injEq, Prod.mk.injEq] at H
    obtain ⟨rfl, rfl, rfl⟩ := H
    have p235 : 0 ≤ (x49_2 : Int) := odt_
    have q235 : x49_2 < (l4.length : Int) := odt_
    obtain ⟨ad235, A235_0, c235_0, e235, hx235_0, hl235_0, hi235_0⟩ := at_L1 (Kd.V_reads' HO_47.out).2.2 x49_2 p235 q235
    cases e235
    obtain ⟨ce235, hce235, hMe235, hcc235⟩ := Kd.V_get HO_47.out [] x49_2 p235 (by first | exact q235 | exact of_decide_eq_true (by first | (with_reducible assumption) | assumption) | (have e_ := (Kd.V_reads' HO_47.out).1; omega))
    obtain ⟨ua235_0, uc235_0, rfl, ul235_0, ge235_0⟩ := Kd.FK_slice_open hMe235
    have hv235_0 := hcc235 0 _ rfl
    rw [Nat.add_zero, show ((Kd.slice 3 (Kd.int .i64))).sz = 1 from rfl, Nat.mul_one] at hv235_0
    replace hv235_0 := Option.some.inj (hv235_0.symm.trans hx235_0)
    injection hv235_0 with hva_ hvn_ hvc_
    rw [hva_] at ge235_0
    rw [hvc_] at ul235_0
    have HL235_0 := Aside0.mk (show Kd.V (Kd.int .i64) 3 _ w.heap.size _ _ (rd_L1 l4 x49_2) from Kd.V_mk ul235_0 ge235_0)
    clear hva_ hvn_ hvc_ ge235_0 ul235_0
    clear hcc235 hce235
    have HR235_0 := Aside0.mk hi235_0
    have HC235_0 := Aside0.mk hl235_0
    clear hi235_0 hl235_0
    replace p235 := eq_true p235
    replace q235 := eq_true q235
    try go_wp2
    have n0_ := Aside0.mk (Kd.V_drew HO_4.out)
    have n1_ := Aside0.mk (Kd.V_drew HO_47.out)
    have n2_ := Aside0.mk (Kd.V_drew HL235_0.out)
    have n3_ := Aside0.mk (blk_drew BK223.out)
    have n4_ := Aside0.mk (blk_drew BK224.out)
    have n5_ := Aside0.mk (Kd.C_drew HR235_0.out)
    have n6_ := Aside0.mk (below_drew1 HB.out)
    clear HO_4
    clear HO_47
    clear HL235_0
    clear BK223
    clear BK224
    clear HR235_0
    clear HB
    have HO_4 := n0_
    have HO_47 := n1_
    have HL235_0 := n2_
    have BK223 := n3_
    have BK224 := n4_
    have HR235_0 := n5_
    have HB := n6_
    clear n0_ n1_ n2_ n3_ n4_ n5_ n6_
    have p236 : 0 ≤ (0 : Int) := (by omega)
    have q236 : 0 < ((rd_L1 l4 x49_2).length : Int) := odt_
    obtain ⟨ad236, e236, hx236_0⟩ := Kd.at_int (by repeat (first | (with_reducible exact HR235_0.out) | (with_reducible refine Kd.C_alloc ?_ _) | (with_reducible refine Kd.C_drewN ?_ _) | (with_reducible refine Kd.C_drew ?_) | exact HR235_0.out)) 0 p236 q236
    cases e236
    have qi236 : (0 < (rd_L1 l4 x49_2).length) = True := eq_true (by omega)
    (try rw [show ((0 : Int)).toNat = 0 from rfl] at hx236_0)
    (try rw [Addr.add_zero'] at hx236_0)
    replace p236 := eq_true p236
    replace q236 := eq_true q236
    have p241 : 0 ≤ (1 : Int) := (by omega)
    have q241 : 1 < ((rd_L1 l4 x49_2).length : Int) := odt_
    obtain ⟨ad241, e241, hx241_0⟩ := Kd.at_int (by repeat (first | (with_reducible exact HR235_0.out) | (with_reducible refine Kd.C_alloc ?_ _) | (with_reducible refine Kd.C_drewN ?_ _) | (with_reducible refine Kd.C_drew ?_) | exact HR235_0.out)) 1 p241 q241
    obtain rfl : ad236 = ad241 := (by injection e241)
    (try simp only [show (1 : Int).toNat = 1 from rfl, Nat.reduceMul, Nat.reduceEqDiff, Go.Addr.add, ↓reduceIte] at hx241_0)
    have qi241 : (1 < (rd_L1 l4 x49_2).length) = True := eq_true (by omega)
    (try rw [show ((1 : Int)).toNat = 1 from rfl] at hx241_0)
    replace p241 := eq_true p241
    replace q241 := eq_true q241
    have p246 : 0 ≤ (0 : Int) := (by omega)
    have q246 : 0 < ((rd_L1 l4 x49_2).length : Int) := odt_
    obtain ⟨ad246, e246, hx246_0⟩ := Kd.at_int (by repeat (first | (with_reducible exact HR235_0.out) | (with_reducible refine Kd.C_alloc ?_ _) | (with_reducible refine Kd.C_drewN ?_ _) | (with_reducible refine Kd.C_drew ?_) | exact HR235_0.out)) 0 p246 q246
    obtain rfl : ad236 = ad246 := (by injection e246)
    have qi246 : (0 < (rd_L1 l4 x49_2).length) = True := eq_true (by omega)
    (try rw [show ((0 : Int)).toNat = 0 from rfl] at hx246_0)
    (try rw [Addr.add_zero'] at hx246_0)
    replace p246 := eq_true p246
    replace q246 := eq_true q246
    have p247 : 0 ≤ (1 : Int) := (by omega)
    have q247 : 1 < ((rd_L1 l4 x49_2).length : Int) := odt_
    obtain ⟨ad247, e247, hx247_0⟩ := Kd.at_int (by repeat (first | (with_reducible exact HR235_0.out) | (with_reducible refine Kd.C_alloc ?_ _) | (with_reducible refine Kd.C_drewN ?_ _) | (with_reducible refine Kd.C_drew ?_) | exact HR235_0.out)) 1 p247 q247
    obtain rfl : ad236 = ad247 := (by injection e247)
    (try simp only [show (1 : Int).toNat = 1 from rfl, Nat.reduceMul, Nat.reduceEqDiff, Go.Addr.add, ↓reduceIte] at hx247_0)
    have qi247 : (1 < (rd_L1 l4 x49_2).length) = True := eq_true (by omega)
    (try rw [show ((1 : Int)).toNat = 1 from rfl] at hx247_0)
    replace p247 := eq_true p247
    replace q247 := eq_true q247
    refine start_ (n := 42) (S := fun w' => w'.cell? ⟨gb223, 0, none⟩ = some (.int .i64 a0_0) ∧ w'.cell? ⟨gb223, 1, none⟩ = some (.int .i64 a0_1) ∧ w'.cell? ⟨gb223, 2, none⟩ = some (.int .i64 a0_2) ∧ w'.cell? ⟨gb223, 3, none⟩ = some (.slice A0_3 l0_3.length c0_3) ∧ w'.cell? ⟨gb224, 0, none⟩ = some (.int .i64 a2_0) ∧ w'.cell? ⟨gb224, 1, none⟩ = some (.int .i64 a2_1) ∧ w'.cell? ⟨gb224, 2, none⟩ = some (.int .i64 a2_2) ∧ w'.cell? ⟨gb224, 3, none⟩ = some (.slice A2_3 l2_3.length c2_3) ∧ w'.cell? ad236 = some (.int .i64 (rd (rd_L1 l4 x49_2) 0)) ∧ w'.cell? ⟨ad236.block, ad236.off + 1, none⟩ = some (.int .i64 (rd (rd_L1 l4 x49_2) 1)) ∧ w'.cell? ad236 = some (.int .i64 (rd (rd_L1 l4 x49_2) 0)) ∧ w'.cell? ⟨ad236.block, ad236.off + 1, none⟩ = some (.int .i64 (rd (rd_L1 l4 x49_2) 1))) (ds := []) (fr_ [0, 42]) (by kernel_rfl) rfl rfl ⟨(blk_cell BK223.out 0).trans rfl, (blk_cell BK223.out 1).trans rfl, (blk_cell BK223.out 2).trans rfl, (blk_cell BK223.out 3).trans rfl, (blk_cell BK224.out 0).trans rfl, (blk_cell BK224.out 1).trans rfl, (blk_cell BK224.out 2).trans rfl, (blk_cell BK224.out 3).trans rfl, hx236_0, hx241_0, hx246_0, hx247_0⟩ (fun hHeld => ?_); refine with_tabW impl_BestChange.tab6 impl_BestChange.bits6 (fun HT_ HW_ => ?_)
    clear hx241_0 p241 q241 qi241 hx246_0 p246 q246 qi246 hx247_0 p247 q247 qi247
    generalize wr.drew = w78 at HO_4 HO_47 HL235_0 BK223 BK224 HR235_0 HB hx236_0 hHeld ⊢
    refine purS_ (i := 0) (N := some 53) (fl_ 42 1) HT_.out ?_
    refine purS_ (i := 1) (N := some 54) (fl_ 42 2) HT_.out ?_
    refine purS_ (i := 2) (N := some 55) (fl_ 42 3) HT_.out ?_
    refine purS_ (i := 3) (N := some 56) (fl_ 42 4) HT_.out ?_
    refine purS_ (i := 5) (N := some 58) (fr_ [4, 1, 1, 36]) HT_.out ?_
    refine purS_ (i := 6) (N := some 59) (fr_ [4, 1, 2, 35]) HT_.out ?_
    refine take_ (i := 4) (N := some 57) (v := ?_) (a' := ?_) (fr_ [7, 35]) rfl rfl (take_ofW HT_.out HW_.out (by kernel_rfl)) (fun _ _ _ h => h) (Or.inl ⟨by rfl, ?_⟩) hHeld ?_ ?_
    rotate_left
    ·rintro w' ⟨s0, s1, s2, s3, s4, s5, s6, s7, s8, s9, s10, s11⟩
     go_simp
     with_reducible rfl
    rotate_left
    ·simp only [Act.put, List.setIfInBounds_toArray, List.set_cons_zero, List.set_cons_succ, i64_w, i32_w]
     rfl
    refine take_ (i := 7) (N := some 60) (v := ?_) (a' := ?_) (fr_ [8, 34]) rfl rfl (take_ofW HT_.out HW_.out (by kernel_rfl)) (fun _ _ _ h => h) (Or.inl ⟨by rfl, ?_⟩) hHeld ?_ ?_
    rotate_left
    ·rintro w' ⟨s0, s1, s2, s3, s4, s5, s6, s7, s8, s9, s10, s11⟩
     go_simp
     with_reducible rfl
    rotate_left
    ·simp only [Act.put, List.setIfInBounds_toArray, List.set_cons_zero, List.set_cons_succ, i64_w, i32_w]
     rfl
    refine one_ (i := 8) (N := some 61) (fr_ [9, 33]) rfl rfl (one_of HT_.out (by kernel_rfl)) (by decide) (fun K hK => ?_)
    refine Kd.R_lit_step (Kd.int .i64) _ 3 ?hg (N := 61) ?hd (xs := ([rd (rd_L1 l4 x49_2) 0] : List Int)) (inner := [.int .i64 (rd (rd_L1 l4 x49_2) 0)]) (ok := fun _ => True) (okp := fun _ => True) ?hr ?hp (fun _ hk => hk) trivial (Below.refl _ _) (Nat.le_refl _) (by simp) ?_; (case hd => rfl); (case hg => rfl); (case hr => first | (go_simp; done) | (go_simp; rfl)); (case hp => exact (Reps.one (show Kd.M (Kd.int .i64) _ _ _ (rd (rd_L1 l4 x49_2) 0) [.int .i64 (rd (rd_L1 l4 x49_2) 0)] from rfl) (Reps.none _ _)))
    intro v238 w79 ho80 hb hg_ hnew_
    have HS8_ := (hb.cell (World.block_lt_of_cell? _ _ (hHeld.2.2.2.2.2.2.2.2.1))).trans (hHeld.2.2.2.2.2.2.2.2.1)
    have HS9_ := (hb.cell (World.block_lt_of_cell? _ _ (hHeld.2.2.2.2.2.2.2.2.2.1))).trans (hHeld.2.2.2.2.2.2.2.2.2.1)
    have HS10_ := (hb.cell (World.block_lt_of_cell? _ _ (hHeld.2.2.2.2.2.2.2.2.2.2.1))).trans (hHeld.2.2.2.2.2.2.2.2.2.2.1)
    have HS11_ := (hb.cell (World.block_lt_of_cell? _ _ (hHeld.2.2.2.2.2.2.2.2.2.2.2))).trans (hHeld.2.2.2.2.2.2.2.2.2.2.2)
    clear hg_ hnew_
    (first | rw [← Ny237.out] at ho80 | (simp only [Int.reduceToNat] at ho80; rw [← Ny237.out] at ho80))
    have n0_ := Aside0.mk (Kd.V_elder' (vd_to HO_4) (Kd.R_base ho80) hb)
    have n1_ := Aside0.mk (Kd.V_elder' (vd_to HO_47) (Kd.R_base ho80) hb)
    have n2_ := Aside0.mk (Kd.V_elder' (vd_to HL235_0) (Kd.R_base ho80) hb)
    have n3_ := Aside0.mk (Kd.R_lower (Kd.R_newM (M := fun k_ => (w.heap.size ≤ k_)) ho80 (below_size (below_to2 HB GE223.out GE224.out)) (fun k_ h_ => h_)) (below_size (below_to2 HB GE223.out GE224.out)))
    have n4_ := Aside0.mk (blk_below (blk_to BK223) hb)
    have n5_ := Aside0.mk (blk_below (blk_to BK224) hb)
    have n6_ := Aside0.mk (Kd.C_below (by repeat (first | (with_reducible exact HR235_0.out) | (with_reducible refine Kd.C_alloc ?_ _) | (with_reducible refine Kd.C_drewN ?_ _) | (with_reducible refine Kd.C_drew ?_) | exact HR235_0.out)) hb)
    have n7_ := Aside0.mk (below_step (below_to2 HB GE223.out GE224.out) hb)
    clear HO_4
    clear HO_47
    clear HL235_0
    clear BK223
    clear BK224
    clear HR235_0
    clear HB
    have HO_4 := n0_
    have HO_47 := n1_
    have HL235_0 := n2_
    have HO239 := n3_
    have BK223 := n4_
    have BK224 := n5_
    have HR235_0 := n6_
    have HB := n7_
    clear n0_ n1_ n2_ n3_ n4_ n5_ n6_ n7_
    clear hb ho80
    obtain ⟨Ao81, co81, eo81⟩ := Kd.R_slice HO239.out
    (first | subst eo81 | (injection eo81 with f1_ f2_ f3_; have f4_ := f1_.symm; have f5_ := f3_.symm; clear f1_ f2_ f3_; subst f4_; subst f5_))
    refine hK.out _ _ ⟨(blk_cell BK223.out 0).trans rfl, (blk_cell BK223.out 1).trans rfl, (blk_cell BK223.out 2).trans rfl, (blk_cell BK223.out 3).trans rfl, (blk_cell BK224.out 0).trans rfl, (blk_cell BK224.out 1).trans rfl, (blk_cell BK224.out 2).trans rfl, (blk_cell BK224.out 3).trans rfl, HS8_, HS9_, HS10_, HS11_⟩ (fun hHeld => ?_)
    clear hK K
    refine norm_ (a' := ?_) ?_ ?_
    rotate_left
    ·show Act.put _ (some 61) _ = _
     simp only [Act.put, List.setIfInBounds_toArray, List.set_cons_zero, List.set_cons_succ, i64_w, i32_w]
     rfl
    refine one_ (i := 9) (N := some 62) (fr_ [10, 32]) rfl rfl (one_of HT_.out (by kernel_rfl)) (by decide) (fun K hK => ?_)
    refine goes_ Try.func49 (by kernel_rfl) rfl #[.agg #[.int .i64 a0_0, .int .i64 a0_1, .int .i64 a0_2, .slice A0_3 l0_3.length c0_3], .slice Ao81 y237.length co81] (by rfl) rfl rfl am_ ?_
    with_reducible refine (impl_hasStops.calls k2 a0_0 a0_1 a0_2 _ _ l0_3 _ _ y237 true _ ?side1 ?side2 ?side3 ?side4 A62.out).mono ?_
    (case side1 => exact cb_ HR0_3 HB)
    (case side2 => exact HC0_3.out)
    (case side3 => exact cR_ HO239)
    (case side4 => exact (Kd.R_reads' HO239.out).2.1)
    rintro e w82 ⟨rfl, hb⟩
    have HS8_ := (hb.cell (World.block_lt_of_cell? _ _ (hHeld.2.2.2.2.2.2.2.2.1))).trans (hHeld.2.2.2.2.2.2.2.2.1)
    have HS9_ := (hb.cell (World.block_lt_of_cell? _ _ (hHeld.2.2.2.2.2.2.2.2.2.1))).trans (hHeld.2.2.2.2.2.2.2.2.2.1)
    have HS10_ := (hb.cell (World.block_lt_of_cell? _ _ (hHeld.2.2.2.2.2.2.2.2.2.2.1))).trans (hHeld.2.2.2.2.2.2.2.2.2.2.1)
    have HS11_ := (hb.cell (World.block_lt_of_cell? _ _ (hHeld.2.2.2.2.2.2.2.2.2.2.2))).trans (hHeld.2.2.2.2.2.2.2.2.2.2.2)
    refine ⟨_, rfl, ?_⟩
    have n0_ := Aside0.mk (Kd.V_below (vd_to HO_4) hb)
    have n1_ := Aside0.mk (Kd.V_below (vd_to HO_47) hb)
    have n2_ := Aside0.mk (Kd.V_below (vd_to HL235_0) hb)
    have n3_ := Aside0.mk (Kd.R_below (kd_to HO239) hb)
    have n4_ := Aside0.mk (blk_below (blk_to BK223) hb)
    have n5_ := Aside0.mk (blk_below (blk_to BK224) hb)
    have n6_ := Aside0.mk (Kd.C_below (by repeat (first | (with_reducible exact HR235_0.out) | (with_reducible refine Kd.C_alloc ?_ _) | (with_reducible refine Kd.C_drewN ?_ _) | (with_reducible refine Kd.C_drew ?_) | exact HR235_0.out)) hb)
    have n7_ := Aside0.mk (below_step (below_to2 HB GE223.out GE224.out) hb)
    clear HO_4
    clear HO_47
    clear HL235_0
    clear HO239
    clear BK223
    clear BK224
    clear HR235_0
    clear HB
    have HO_4 := n0_
    have HO_47 := n1_
    have HL235_0 := n2_
    have HO239 := n3_
    have BK223 := n4_
    have BK224 := n5_
    have HR235_0 := n6_
    have HB := n7_
    clear n0_ n1_ n2_ n3_ n4_ n5_ n6_ n7_
    (try clear hb)
    (try clear hb2)
    (try clear hk)
    (try clear hi)
    have p241 : 0 ≤ (1 : Int) := (by omega)
    have q241 : 1 < ((rd_L1 l4 x49_2).length : Int) := odt_
    obtain ⟨ad241, e241, hx241_0⟩ := Kd.at_int (by repeat (first | (with_reducible exact HR235_0.out) | (with_reducible refine Kd.C_alloc ?_ _) | (with_reducible refine Kd.C_drewN ?_ _) | (with_reducible refine Kd.C_drew ?_) | exact HR235_0.out)) 1 p241 q241
    obtain rfl : ad236 = ad241 := (by injection e241)
    (try simp only [show (1 : Int).toNat = 1 from rfl, Nat.reduceMul, Nat.reduceEqDiff, Go.Addr.add, ↓reduceIte] at hx241_0)
    have qi241 : (1 < (rd_L1 l4 x49_2).length) = True := eq_true (by omega)
    (try rw [show ((1 : Int)).toNat = 1 from rfl] at hx241_0)
    replace p241 := eq_true p241
    replace q241 := eq_true q241
    refine hK.out _ _ ⟨(blk_cell BK223.out 0).trans rfl, (blk_cell BK223.out 1).trans rfl, (blk_cell BK223.out 2).trans rfl, (blk_cell BK223.out 3).trans rfl, (blk_cell BK224.out 0).trans rfl, (blk_cell BK224.out 1).trans rfl, (blk_cell BK224.out 2).trans rfl, (blk_cell BK224.out 3).trans rfl, HS8_, HS9_, HS10_, HS11_⟩ (fun hHeld => ?_)
    clear hK K
    refine norm_ (a' := ?_) ?_ ?_
    rotate_left
    ·show Act.put _ (some 62) _ = _
     simp only [Act.put, List.setIfInBounds_toArray, List.set_cons_zero, List.set_cons_succ, i64_w, i32_w]
     rfl
    refine purS_ (i := 10) (N := some 63) (fl_ 42 11) HT_.out ?_
    refine purS_ (i := 11) (N := some 64) (fl_ 42 12) HT_.out ?_
    refine purS_ (i := 12) (N := some 65) (fl_ 42 13) HT_.out ?_
    refine purS_ (i := 14) (N := some 67) (fr_ [13, 1, 1, 27]) HT_.out ?_
    refine purS_ (i := 15) (N := some 68) (fr_ [13, 1, 2, 26]) HT_.out ?_
    refine take_ (i := 13) (N := some 66) (v := ?_) (a' := ?_) (fr_ [16, 26]) rfl rfl (take_ofW HT_.out HW_.out (by kernel_rfl)) (fun _ _ _ h => h) (Or.inl ⟨by rfl, ?_⟩) hHeld ?_ ?_
    rotate_left
    ·rintro w' ⟨s0, s1, s2, s3, s4, s5, s6, s7, s8, s9, s10, s11⟩
     go_simp
     with_reducible rfl
    rotate_left
    ·simp only [Act.put, List.setIfInBounds_toArray, List.set_cons_zero, List.set_cons_succ, i64_w, i32_w]
     rfl
    refine take_ (i := 16) (N := some 69) (v := ?_) (a' := ?_) (fr_ [17, 25]) rfl rfl (take_ofW HT_.out HW_.out (by kernel_rfl)) (fun _ _ _ h => h) (Or.inl ⟨by rfl, ?_⟩) hHeld ?_ ?_
    rotate_left
    ·rintro w' ⟨s0, s1, s2, s3, s4, s5, s6, s7, s8, s9, s10, s11⟩
     go_simp
     with_reducible rfl
    rotate_left
    ·simp only [Act.put, List.setIfInBounds_toArray, List.set_cons_zero, List.set_cons_succ, i64_w, i32_w]
     rfl
    refine one_ (i := 17) (N := some 70) (fr_ [18, 24]) rfl rfl (one_of HT_.out (by kernel_rfl)) (by decide) (fun K hK => ?_)
    refine Kd.R_lit_step (Kd.int .i64) _ 3 ?hg (N := 70) ?hd (xs := ([rd (rd_L1 l4 x49_2) 1] : List Int)) (inner := [.int .i64 (rd (rd_L1 l4 x49_2) 1)]) (ok := fun _ => True) (okp := fun _ => True) ?hr ?hp (fun _ hk => hk) trivial (Below.refl _ _) (Nat.le_refl _) (by simp) ?_; (case hd => rfl); (case hg => rfl); (case hr => first | (go_simp; done) | (go_simp; rfl)); (case hp => exact (Reps.one (show Kd.M (Kd.int .i64) _ _ _ (rd (rd_L1 l4 x49_2) 1) [.int .i64 (rd (rd_L1 l4 x49_2) 1)] from rfl) (Reps.none _ _)))
    intro v243 w83 ho84 hb hg_ hnew_
    have HS8_ := (hb.cell (World.block_lt_of_cell? _ _ (hHeld.2.2.2.2.2.2.2.2.1))).trans (hHeld.2.2.2.2.2.2.2.2.1)
    have HS9_ := (hb.cell (World.block_lt_of_cell? _ _ (hHeld.2.2.2.2.2.2.2.2.2.1))).trans (hHeld.2.2.2.2.2.2.2.2.2.1)
    have HS10_ := (hb.cell (World.block_lt_of_cell? _ _ (hHeld.2.2.2.2.2.2.2.2.2.2.1))).trans (hHeld.2.2.2.2.2.2.2.2.2.2.1)
    have HS11_ := (hb.cell (World.block_lt_of_cell? _ _ (hHeld.2.2.2.2.2.2.2.2.2.2.2))).trans (hHeld.2.2.2.2.2.2.2.2.2.2.2)
    clear hg_ hnew_
    (first | rw [← Ny242.out] at ho84 | (simp only [Int.reduceToNat] at ho84; rw [← Ny242.out] at ho84))
    have n0_ := Aside0.mk (Kd.V_elder' (vd_to HO_4) (Kd.R_base ho84) hb)
    have n1_ := Aside0.mk (Kd.V_elder' (vd_to HO_47) (Kd.R_base ho84) hb)
    have n2_ := Aside0.mk (Kd.V_elder' (vd_to HL235_0) (Kd.R_base ho84) hb)
    have n3_ := Aside0.mk (Kd.R_elder' (kd_to HO239) (Kd.R_base ho84) hb)
    have n4_ := Aside0.mk (Kd.R_lower (Kd.R_new' (Kd.R_newM (M := fun k_ => (w.heap.size ≤ k_)) ho84 (below_size (below_to2 HB GE223.out GE224.out)) (fun k_ h_ => h_)) (Kd.R_lt (kd_to HO239))) (below_size (below_to2 HB GE223.out GE224.out)))
    have n5_ := Aside0.mk (blk_below (blk_to BK223) hb)
    have n6_ := Aside0.mk (blk_below (blk_to BK224) hb)
    have n7_ := Aside0.mk (Kd.C_below (by repeat (first | (with_reducible exact HR235_0.out) | (with_reducible refine Kd.C_alloc ?_ _) | (with_reducible refine Kd.C_drewN ?_ _) | (with_reducible refine Kd.C_drew ?_) | exact HR235_0.out)) hb)
    have n8_ := Aside0.mk (below_step (below_to2 HB GE223.out GE224.out) hb)
    clear HO_4
    clear HO_47
    clear HL235_0
    clear HO239
    clear BK223
    clear BK224
    clear HR235_0
    clear HB
    have HO_4 := n0_
    have HO_47 := n1_
    have HL235_0 := n2_
    have HO239 := n3_
    have HO244 := n4_
    have BK223 := n5_
    have BK224 := n6_
    have HR235_0 := n7_
    have HB := n8_
    clear n0_ n1_ n2_ n3_ n4_ n5_ n6_ n7_ n8_
    clear hb ho84
    obtain ⟨Ao85, co85, eo85⟩ := Kd.R_slice HO244.out
    (first | subst eo85 | (injection eo85 with f1_ f2_ f3_; have f4_ := f1_.symm; have f5_ := f3_.symm; clear f1_ f2_ f3_; subst f4_; subst f5_))
    refine hK.out _ _ ⟨(blk_cell BK223.out 0).trans rfl, (blk_cell BK223.out 1).trans rfl, (blk_cell BK223.out 2).trans rfl, (blk_cell BK223.out 3).trans rfl, (blk_cell BK224.out 0).trans rfl, (blk_cell BK224.out 1).trans rfl, (blk_cell BK224.out 2).trans rfl, (blk_cell BK224.out 3).trans rfl, HS8_, HS9_, HS10_, HS11_⟩ (fun hHeld => ?_)
    clear hK K
    refine norm_ (a' := ?_) ?_ ?_
    rotate_left
    ·show Act.put _ (some 70) _ = _
     simp only [Act.put, List.setIfInBounds_toArray, List.set_cons_zero, List.set_cons_succ, i64_w, i32_w]
     rfl
    refine one_ (i := 18) (N := some 71) (fr_ [19, 23]) rfl rfl (one_of HT_.out (by kernel_rfl)) (by decide) (fun K hK => ?_)
    refine goes_ Try.func49 (by kernel_rfl) rfl #[.agg #[.int .i64 a2_0, .int .i64 a2_1, .int .i64 a2_2, .slice A2_3 l2_3.length c2_3], .slice Ao85 y242.length co85] (by rfl) rfl rfl am_ ?_
    with_reducible refine (impl_hasStops.calls k2 a2_0 a2_1 a2_2 _ _ l2_3 _ _ y242 true _ ?side1 ?side2 ?side3 ?side4 A65.out).mono ?_
    (case side1 => exact cb_ HR2_3 HB)
    (case side2 => exact HC2_3.out)
    (case side3 => exact cR_ HO244)
    (case side4 => exact (Kd.R_reads' HO244.out).2.1)
    rintro e w86 ⟨rfl, hb⟩
    have HS8_ := (hb.cell (World.block_lt_of_cell? _ _ (hHeld.2.2.2.2.2.2.2.2.1))).trans (hHeld.2.2.2.2.2.2.2.2.1)
    have HS9_ := (hb.cell (World.block_lt_of_cell? _ _ (hHeld.2.2.2.2.2.2.2.2.2.1))).trans (hHeld.2.2.2.2.2.2.2.2.2.1)
    have HS10_ := (hb.cell (World.block_lt_of_cell? _ _ (hHeld.2.2.2.2.2.2.2.2.2.2.1))).trans (hHeld.2.2.2.2.2.2.2.2.2.2.1)
    have HS11_ := (hb.cell (World.block_lt_of_cell? _ _ (hHeld.2.2.2.2.2.2.2.2.2.2.2))).trans (hHeld.2.2.2.2.2.2.2.2.2.2.2)
    refine ⟨_, rfl, ?_⟩
    have n0_ := Aside0.mk (Kd.V_below (vd_to HO_4) hb)
    have n1_ := Aside0.mk (Kd.V_below (vd_to HO_47) hb)
    have n2_ := Aside0.mk (Kd.V_below (vd_to HL235_0) hb)
    have n3_ := Aside0.mk (Kd.R_below (kd_to HO239) hb)
    have n4_ := Aside0.mk (Kd.R_below (kd_to HO244) hb)
    have n5_ := Aside0.mk (blk_below (blk_to BK223) hb)
    have n6_ := Aside0.mk (blk_below (blk_to BK224) hb)
    have n7_ := Aside0.mk (Kd.C_below (by repeat (first | (with_reducible exact HR235_0.out) | (with_reducible refine Kd.C_alloc ?_ _) | (with_reducible refine Kd.C_drewN ?_ _) | (with_reducible refine Kd.C_drew ?_) | exact HR235_0.out)) hb)
    have n8_ := Aside0.mk (below_step (below_to2 HB GE223.out GE224.out) hb)
    clear HO_4
    clear HO_47
    clear HL235_0
    clear HO239
    clear HO244
    clear BK223
    clear BK224
    clear HR235_0
    clear HB
    have HO_4 := n0_
    have HO_47 := n1_
    have HL235_0 := n2_
    have HO239 := n3_
    have HO244 := n4_
    have BK223 := n5_
    have BK224 := n6_
    have HR235_0 := n7_
    have HB := n8_
    clear n0_ n1_ n2_ n3_ n4_ n5_ n6_ n7_ n8_
    (try clear hb)
    (try clear hb2)
    (try clear hk)
    (try clear hi)
    have p246 : 0 ≤ (0 : Int) := (by omega)
    have q246 : 0 < ((rd_L1 l4 x49_2).length : Int) := odt_
    obtain ⟨ad246, e246, hx246_0⟩ := Kd.at_int (by repeat (first | (with_reducible exact HR235_0.out) | (with_reducible refine Kd.C_alloc ?_ _) | (with_reducible refine Kd.C_drewN ?_ _) | (with_reducible refine Kd.C_drew ?_) | exact HR235_0.out)) 0 p246 q246
    obtain rfl : ad236 = ad246 := (by injection e246)
    have qi246 : (0 < (rd_L1 l4 x49_2).length) = True := eq_true (by omega)
    (try rw [show ((0 : Int)).toNat = 0 from rfl] at hx246_0)
    (try rw [Addr.add_zero'] at hx246_0)
    replace p246 := eq_true p246
    replace q246 := eq_true q246
    have p247 : 0 ≤ (1 : Int) := (by omega)
    have q247 : 1 < ((rd_L1 l4 x49_2).length : Int) := odt_
    obtain ⟨ad247, e247, hx247_0⟩ := Kd.at_int (by repeat (first | (with_reducible exact HR235_0.out) | (with_reducible refine Kd.C_alloc ?_ _) | (with_reducible refine Kd.C_drewN ?_ _) | (with_reducible refine Kd.C_drew ?_) | exact HR235_0.out)) 1 p247 q247
    obtain rfl : ad236 = ad247 := (by injection e247)
    (try simp only [show (1 : Int).toNat = 1 from rfl, Nat.reduceMul, Nat.reduceEqDiff, Go.Addr.add, ↓reduceIte] at hx247_0)
    have qi247 : (1 < (rd_L1 l4 x49_2).length) = True := eq_true (by omega)
    (try rw [show ((1 : Int)).toNat = 1 from rfl] at hx247_0)
    replace p247 := eq_true p247
    replace q247 := eq_true q247
    refine hK.out _ _ ⟨(blk_cell BK223.out 0).trans rfl, (blk_cell BK223.out 1).trans rfl, (blk_cell BK223.out 2).trans rfl, (blk_cell BK223.out 3).trans rfl, (blk_cell BK224.out 0).trans rfl, (blk_cell BK224.out 1).trans rfl, (blk_cell BK224.out 2).trans rfl, (blk_cell BK224.out 3).trans rfl, HS8_, HS9_, HS10_, HS11_⟩ (fun hHeld => ?_)
    clear hK K
    refine norm_ (a' := ?_) ?_ ?_
    rotate_left
    ·show Act.put _ (some 71) _ = _
     simp only [Act.put, List.setIfInBounds_toArray, List.set_cons_zero, List.set_cons_succ, i64_w, i32_w]
     rfl
    refine purS_ (i := 19) (N := some 72) (fl_ 42 20) HT_.out ?_
    refine purS_ (i := 20) (N := some 73) (fl_ 42 21) HT_.out ?_
    refine purS_ (i := 21) (N := some 74) (fl_ 42 22) HT_.out ?_
    refine purS_ (i := 22) (N := some 75) (fl_ 42 23) HT_.out ?_
    refine purS_ (i := 23) (N := some 76) (fl_ 42 24) HT_.out ?_
    refine purS_ (i := 24) (N := some 77) (fl_ 42 25) HT_.out ?_
    refine take_ (i := 25) (N := some 78) (v := ?_) (a' := ?_) (fr_ [26, 16]) rfl rfl (take_ofW HT_.out HW_.out (by kernel_rfl)) (fun _ _ _ h => h) (Or.inl ⟨by rfl, ?_⟩) hHeld ?_ ?_
    rotate_left
    ·rintro w' ⟨s0, s1, s2, s3, s4, s5, s6, s7, s8, s9, s10, s11⟩
     go_simp
     with_reducible rfl
    rotate_left
    ·simp only [Act.put, List.setIfInBounds_toArray, List.set_cons_zero, List.set_cons_succ, i64_w, i32_w]
     rfl
    refine purS_ (i := 26) (N := some 79) (fl_ 42 27) HT_.out ?_
    refine purS_ (i := 27) (N := some 80) (fl_ 42 28) HT_.out ?_
    refine purS_ (i := 28) (N := some 81) (fl_ 42 29) HT_.out ?_
    refine purS_ (i := 29) (N := some 82) (fl_ 42 30) HT_.out ?_
    refine purS_ (i := 30) (N := some 83) (fl_ 42 31) HT_.out ?_
    refine purS_ (i := 32) (N := some 85) (fr_ [31, 1, 1, 9]) HT_.out ?_
    refine take_ (i := 31) (N := some 84) (v := ?_) (a' := ?_) (fr_ [33, 9]) rfl rfl (take_ofW HT_.out HW_.out (by kernel_rfl)) (fun _ _ _ h => h) (Or.inl ⟨by rfl, ?_⟩) hHeld ?_ ?_
    rotate_left
    ·rintro w' ⟨s0, s1, s2, s3, s4, s5, s6, s7, s8, s9, s10, s11⟩
     go_simp
     with_reducible rfl
    rotate_left
    ·simp only [Act.put, List.setIfInBounds_toArray, List.set_cons_zero, List.set_cons_succ, i64_w, i32_w]
     rfl
    refine purS_ (i := 33) (N := some 86) (fl_ 42 34) HT_.out ?_
    refine purS_ (i := 34) (N := some 87) (fl_ 42 35) HT_.out ?_
    refine purS_ (i := 35) (N := some 88) (fl_ 42 36) HT_.out ?_
    refine pure_ (i := 36) (N := some 89) (v := undef) (a' := ?_) (fl_ 42 37) rfl rfl (any_of HT_.out (by kernel_rfl)) (fun _ _ _ h => h) (Or.inr ⟨by rfl, rfl⟩) ?_ ?_
    rotate_left
    ·simp only [Act.put, List.setIfInBounds_toArray, List.set_cons_zero, List.set_cons_succ, i64_w, i32_w]
     rfl
    refine pure_ (i := 37) (N := some 90) (v := undef) (a' := ?_) (fl_ 42 38) rfl rfl (any_of HT_.out (by kernel_rfl)) (fun _ _ _ h => h) (Or.inr ⟨by rfl, rfl⟩) ?_ ?_
    rotate_left
    ·simp only [Act.put, List.setIfInBounds_toArray, List.set_cons_zero, List.set_cons_succ, i64_w, i32_w]
     rfl
    refine pure_ (i := 38) (N := some 91) (v := undef) (a' := ?_) (fl_ 42 39) rfl rfl (any_of HT_.out (by kernel_rfl)) (fun _ _ _ h => h) (Or.inr ⟨by rfl, rfl⟩) ?_ ?_
    rotate_left
    ·simp only [Act.put, List.setIfInBounds_toArray, List.set_cons_zero, List.set_cons_succ, i64_w, i32_w]
     rfl
    refine pure_ (i := 39) (N := some 92) (v := undef) (a' := ?_) (fl_ 42 40) rfl rfl (any_of HT_.out (by kernel_rfl)) (fun _ _ _ h => h) (Or.inr ⟨by rfl, rfl⟩) ?_ ?_
    rotate_left
    ·simp only [Act.put, List.setIfInBounds_toArray, List.set_cons_zero, List.set_cons_succ, i64_w, i32_w]
     rfl
    refine pure_ (i := 40) (N := some 93) (v := undef) (a' := ?_) (fl_ 42 41) rfl rfl (any_of HT_.out (by kernel_rfl)) (fun _ _ _ h => h) (Or.inr ⟨by rfl, rfl⟩) ?_ ?_
    rotate_left
    ·simp only [Act.put, List.setIfInBounds_toArray, List.set_cons_zero, List.set_cons_succ, i64_w, i32_w]
     rfl
    refine purS_ (i := 41) (N := some 94) (fl_ 42 42) HT_.out ?_
    refine done_ (done_of HT_.out (by kernel_rfl)) ?_
    try go_wp2
    go_ret3
    exact ⟨_, rtE_, by first | exact Kd.R_nil _ _ _ _ _ | exact Kd.N_nil _ _ _ _ _ | exact Kd.V_nil _ _ _ _ _ | exact Kd.Q_nil _ _ _ _ _ | exact Kd.S_nil _ _ _ _ _, below_to2 HB GE223.out GE224.out⟩
   rw [if_neg c77] at H
   have c77b0 := decide_eq_false c77
   clear c77
   by_cases c87 : 2 < ((rd_L1 l4 x49_2).length : Int)
   rotate_left
   ·rw [if_neg c87] at H
    cases H
   rw [if_pos c87] at H
   have c87b0 := decide_eq_true c87
   have c87b1 : decide (2 < (rd_L1 l4 x49_2).length) = true := decide_eq_true (by omega)
   clear c87
   replace H := Option.bind_eq_some_iff.mp H
   obtain ⟨t249, A880, H⟩ := H
   (try dsimp only at H)
   have A88 := Aside0.mk A880
   clear A880
   by_cases c89 : t249 = true
   rotate_left
   ·replace c89 := Bool.eq_false_iff.mpr c89
    subst c89
    rw [if_neg ft_] at H
    simp only [Option.some.injEq, Prod.mk.injEq] at H
    obtain ⟨rfl, rfl, rfl⟩ := H
    have p235 : 0 ≤ (x49_2 : Int) := odt_
    have q235 : x49_2 < (l4.length : Int) := odt_
    obtain ⟨ad235, A235_0, c235_0, e235, hx235_0, hl235_0, hi235_0⟩ := at_L1 (Kd.V_reads' HO_47.out).2.2 x49_2 p235 q235
    cases e235
    obtain ⟨ce235, hce235, hMe235, hcc235⟩ := Kd.V_get HO_47.out [] x49_2 p235 (by first | exact q235 | exact of_decide_eq_true (by first | (with_reducible assumption) | assumption) | (have e_ := (Kd.V_reads' HO_47.out).1; omega))
    obtain ⟨ua235_0, uc235_0, rfl, ul235_0, ge235_0⟩ := Kd.FK_slice_open hMe235
    have hv235_0 := hcc235 0 _ rfl
    rw [Nat.add_zero, show ((Kd.slice 3 (Kd.int .i64))).sz = 1 from rfl, Nat.mul_one] at hv235_0
    replace hv235_0 := Option.some.inj (hv235_0.symm.trans hx235_0)
    injection hv235_0 with hva_ hvn_ hvc_
    rw [hva_] at ge235_0
    rw [hvc_] at ul235_0
    have HL235_0 := Aside0.mk (show Kd.V (Kd.int .i64) 3 _ w.heap.size _ _ (rd_L1 l4 x49_2) from Kd.V_mk ul235_0 ge235_0)
    clear hva_ hvn_ hvc_ ge235_0 ul235_0
    clear hcc235 hce235
    have HR235_0 := Aside0.mk hi235_0
    have HC235_0 := Aside0.mk hl235_0
    clear hi235_0 hl235_0
    replace p235 := eq_true p235
    replace q235 := eq_true q235
    try go_wp2
    have n0_ := Aside0.mk (Kd.V_drew HO_4.out)
    have n1_ := Aside0.mk (Kd.V_drew HO_47.out)
    have n2_ := Aside0.mk (Kd.V_drew HL235_0.out)
    have n3_ := Aside0.mk (blk_drew BK223.out)
    have n4_ := Aside0.mk (blk_drew BK224.out)
    have n5_ := Aside0.mk (Kd.C_drew HR235_0.out)
    have n6_ := Aside0.mk (below_drew1 HB.out)
    clear HO_4
    clear HO_47
    clear HL235_0
    clear BK223
    clear BK224
    clear HR235_0
    clear HB
    have HO_4 := n0_
    have HO_47 := n1_
    have HL235_0 := n2_
    have BK223 := n3_
    have BK224 := n4_
    have HR235_0 := n5_
    have HB := n6_
    clear n0_ n1_ n2_ n3_ n4_ n5_ n6_
    have p236 : 0 ≤ (0 : Int) := (by omega)
    have q236 : 0 < ((rd_L1 l4 x49_2).length : Int) := odt_
    obtain ⟨ad236, e236, hx236_0⟩ := Kd.at_int (by repeat (first | (with_reducible exact HR235_0.out) | (with_reducible refine Kd.C_alloc ?_ _) | (with_reducible refine Kd.C_drewN ?_ _) | (with_reducible refine Kd.C_drew ?_) | exact HR235_0.out)) 0 p236 q236
    cases e236
    have qi236 : (0 < (rd_L1 l4 x49_2).length) = True := eq_true (by omega)
    (try rw [show ((0 : Int)).toNat = 0 from rfl] at hx236_0)
    (try rw [Addr.add_zero'] at hx236_0)
    replace p236 := eq_true p236
    replace q236 := eq_true q236
    have p241 : 0 ≤ (1 : Int) := (by omega)
    have q241 : 1 < ((rd_L1 l4 x49_2).length : Int) := odt_
    obtain ⟨ad241, e241, hx241_0⟩ := Kd.at_int (by repeat (first | (with_reducible exact HR235_0.out) | (with_reducible refine Kd.C_alloc ?_ _) | (with_reducible refine Kd.C_drewN ?_ _) | (with_reducible refine Kd.C_drew ?_) | exact HR235_0.out)) 1 p241 q241
    obtain rfl : ad236 = ad241 := (by injection e241)
    (try simp only [show (1 : Int).toNat = 1 from rfl, Nat.reduceMul, Nat.reduceEqDiff, Go.Addr.add, ↓reduceIte] at hx241_0)
    have qi241 : (1 < (rd_L1 l4 x49_2).length) = True := eq_true (by omega)
    (try rw [show ((1 : Int)).toNat = 1 from rfl] at hx241_0)
    replace p241 := eq_true p241
    replace q241 := eq_true q241
    have p246 : 0 ≤ (0 : Int) := (by omega)
    have q246 : 0 < ((rd_L1 l4 x49_2).length : Int) := odt_
    obtain ⟨ad246, e246, hx246_0⟩ := Kd.at_int (by repeat (first | (with_reducible exact HR235_0.out) | (with_reducible refine Kd.C_alloc ?_ _) | (with_reducible refine Kd.C_drewN ?_ _) | (with_reducible refine Kd.C_drew ?_) | exact HR235_0.out)) 0 p246 q246
    obtain rfl : ad236 = ad246 := (by injection e246)
    have qi246 : (0 < (rd_L1 l4 x49_2).length) = True := eq_true (by omega)
    (try rw [show ((0 : Int)).toNat = 0 from rfl] at hx246_0)
    (try rw [Addr.add_zero'] at hx246_0)
    replace p246 := eq_true p246
    replace q246 := eq_true q246
    have p247 : 0 ≤ (1 : Int) := (by omega)
    have q247 : 1 < ((rd_L1 l4 x49_2).length : Int) := odt_
    obtain ⟨ad247, e247, hx247_0⟩ := Kd.at_int (by repeat (first | (with_reducible exact HR235_0.out) | (with_reducible refine Kd.C_alloc ?_ _) | (with_reducible refine Kd.C_drewN ?_ _) | (with_reducible refine Kd.C_drew ?_) | exact HR235_0.out)) 1 p247 q247
    obtain rfl : ad236 = ad247 := (by injection e247)
    (try simp only [show (1 : Int).toNat = 1 from rfl, Nat.reduceMul, Nat.reduceEqDiff, Go.Addr.add, ↓reduceIte] at hx247_0)
    have qi247 : (1 < (rd_L1 l4 x49_2).length) = True := eq_true (by omega)
    (try rw [show ((1 : Int)).toNat = 1 from rfl] at hx247_0)
    replace p247 := eq_true p247
    replace q247 := eq_true q247
    have p248 : 0 ≤ (2 : Int) := (by omega)
    have q248 : 2 < ((rd_L1 l4 x49_2).length : Int) := odt_
    obtain ⟨ad248, e248, hx248_0⟩ := Kd.at_int (by repeat (first | (with_reducible exact HR235_0.out) | (with_reducible refine Kd.C_alloc ?_ _) | (with_reducible refine Kd.C_drewN ?_ _) | (with_reducible refine Kd.C_drew ?_) | exact HR235_0.out)) 2 p248 q248
    obtain rfl : ad236 = ad248 := (by injection e248)
    (try simp only [show (2 : Int).toNat = 2 from rfl, Nat.reduceMul, Nat.reduceEqDiff, Go.Addr.add, ↓reduceIte] at hx248_0)
    have qi248 : (2 < (rd_L1 l4 x49_2).length) = True := eq_true (by omega)
    (try rw [show ((2 : Int)).toNat = 2 from rfl] at hx248_0)
    replace p248 := eq_true p248
    replace q248 := eq_true q248
    refine start_ (n := 42) (S := fun w' => w'.cell? ⟨gb223, 0, none⟩ = some (.int .i64 a0_0) ∧ w'.cell? ⟨gb223, 1, none⟩ = some (.int .i64 a0_1) ∧ w'.cell? ⟨gb223, 2, none⟩ = some (.int .i64 a0_2) ∧ w'.cell? ⟨gb223, 3, none⟩ = some (.slice A0_3 l0_3.length c0_3) ∧ w'.cell? ⟨gb224, 0, none⟩ = some (.int .i64 a2_0) ∧ w'.cell? ⟨gb224, 1, none⟩ = some (.int .i64 a2_1) ∧ w'.cell? ⟨gb224, 2, none⟩ = some (.int .i64 a2_2) ∧ w'.cell? ⟨gb224, 3, none⟩ = some (.slice A2_3 l2_3.length c2_3) ∧ w'.cell? ad236 = some (.int .i64 (rd (rd_L1 l4 x49_2) 0)) ∧ w'.cell? ⟨ad236.block, ad236.off + 1, none⟩ = some (.int .i64 (rd (rd_L1 l4 x49_2) 1)) ∧ w'.cell? ad236 = some (.int .i64 (rd (rd_L1 l4 x49_2) 0)) ∧ w'.cell? ⟨ad236.block, ad236.off + 1, none⟩ = some (.int .i64 (rd (rd_L1 l4 x49_2) 1)) ∧ w'.cell? ⟨ad236.block, ad236.off + 2, none⟩ = some (.int .i64 (rd (rd_L1 l4 x49_2) 2))) (ds := []) (fr_ [0, 42]) (by kernel_rfl) rfl rfl ⟨(blk_cell BK223.out 0).trans rfl, (blk_cell BK223.out 1).trans rfl, (blk_cell BK223.out 2).trans rfl, (blk_cell BK223.out 3).trans rfl, (blk_cell BK224.out 0).trans rfl, (blk_cell BK224.out 1).trans rfl, (blk_cell BK224.out 2).trans rfl, (blk_cell BK224.out 3).trans rfl, hx236_0, hx241_0, hx246_0, hx247_0, hx248_0⟩ (fun hHeld => ?_); refine with_tabW impl_BestChange.tab6 impl_BestChange.bits6 (fun HT_ HW_ => ?_)
    clear hx241_0 p241 q241 qi241 hx246_0 p246 q246 qi246 hx247_0 p247 q247 qi247 hx248_0 p248 q248 qi248
    generalize wr.drew = w99 at HO_4 HO_47 HL235_0 BK223 BK224 HR235_0 HB hx236_0 hHeld ⊢
    refine purS_ (i := 0) (N := some 53) (fl_ 42 1) HT_.out ?_
    refine purS_ (i := 1) (N := some 54) (fl_ 42 2) HT_.out ?_
    refine purS_ (i := 2) (N := some 55) (fl_ 42 3) HT_.out ?_
    refine purS_ (i := 3) (N := some 56) (fl_ 42 4) HT_.out ?_
    refine purS_ (i := 5) (N := some 58) (fr_ [4, 1, 1, 36]) HT_.out ?_
    refine purS_ (i := 6) (N := some 59) (fr_ [4, 1, 2, 35]) HT_.out ?_
    refine take_ (i := 4) (N := some 57) (v := ?_) (a' := ?_) (fr_ [7, 35]) rfl rfl (take_ofW HT_.out HW_.out (by kernel_rfl)) (fun _ _ _ h => h) (Or.inl ⟨by rfl, ?_⟩) hHeld ?_ ?_
    rotate_left
    ·rintro w' ⟨s0, s1, s2, s3, s4, s5, s6, s7, s8, s9, s10, s11, s12⟩
     go_simp
     with_reducible rfl
    rotate_left
    ·simp only [Act.put, List.setIfInBounds_toArray, List.set_cons_zero, List.set_cons_succ, i64_w, i32_w]
     rfl
    refine take_ (i := 7) (N := some 60) (v := ?_) (a' := ?_) (fr_ [8, 34]) rfl rfl (take_ofW HT_.out HW_.out (by kernel_rfl)) (fun _ _ _ h => h) (Or.inl ⟨by rfl, ?_⟩) hHeld ?_ ?_
    rotate_left
    ·rintro w' ⟨s0, s1, s2, s3, s4, s5, s6, s7, s8, s9, s10, s11, s12⟩
     go_simp
     with_reducible rfl
    rotate_left
    ·simp only [Act.put, List.setIfInBounds_toArray, List.set_cons_zero, List.set_cons_succ, i64_w, i32_w]
     rfl
    refine one_ (i := 8) (N := some 61) (fr_ [9, 33]) rfl rfl (one_of HT_.out (by kernel_rfl)) (by decide) (fun K hK => ?_)
    refine Kd.R_lit_step (Kd.int .i64) _ 3 ?hg (N := 61) ?hd (xs := ([rd (rd_L1 l4 x49_2) 0] : List Int)) (inner := [.int .i64 (rd (rd_L1 l4 x49_2) 0)]) (ok := fun _ => True) (okp := fun _ => True) ?hr ?hp (fun _ hk => hk) trivial (Below.refl _ _) (Nat.le_refl _) (by simp) ?_; (case hd => rfl); (case hg => rfl); (case hr => first | (go_simp; done) | (go_simp; rfl)); (case hp => exact (Reps.one (show Kd.M (Kd.int .i64) _ _ _ (rd (rd_L1 l4 x49_2) 0) [.int .i64 (rd (rd_L1 l4 x49_2) 0)] from rfl) (Reps.none _ _)))
    intro v238 w100 ho101 hb hg_ hnew_
    have HS8_ := (hb.cell (World.block_lt_of_cell? _ _ (hHeld.2.2.2.2.2.2.2.2.1))).trans (hHeld.2.2.2.2.2.2.2.2.1)
    have HS9_ := (hb.cell (World.block_lt_of_cell? _ _ (hHeld.2.2.2.2.2.2.2.2.2.1))).trans (hHeld.2.2.2.2.2.2.2.2.2.1)
    have HS10_ := (hb.cell (World.block_lt_of_cell? _ _ (hHeld.2.2.2.2.2.2.2.2.2.2.1))).trans (hHeld.2.2.2.2.2.2.2.2.2.2.1)
    have HS11_ := (hb.cell (World.block_lt_of_cell? _ _ (hHeld.2.2.2.2.2.2.2.2.2.2.2.1))).trans (hHeld.2.2.2.2.2.2.2.2.2.2.2.1)
    have HS12_ := (hb.cell (World.block_lt_of_cell? _ _ (hHeld.2.2.2.2.2.2.2.2.2.2.2.2))).trans (hHeld.2.2.2.2.2.2.2.2.2.2.2.2)
    clear hg_ hnew_
    (first | rw [← Ny237.out] at ho101 | (simp only [Int.reduceToNat] at ho101; rw [← Ny237.out] at ho101))
    have n0_ := Aside0.mk (Kd.V_elder' (vd_to HO_4) (Kd.R_base ho101) hb)
    have n1_ := Aside0.mk (Kd.V_elder' (vd_to HO_47) (Kd.R_base ho101) hb)
    have n2_ := Aside0.mk (Kd.V_elder' (vd_to HL235_0) (Kd.R_base ho101) hb)
    have n3_ := Aside0.mk (Kd.R_lower (Kd.R_newM (M := fun k_ => (w.heap.size ≤ k_)) ho101 (below_size (below_to2 HB GE223.out GE224.out)) (fun k_ h_ => h_)) (below_size (below_to2 HB GE223.out GE224.out)))
    have n4_ := Aside0.mk (blk_below (blk_to BK223) hb)
    have n5_ := Aside0.mk (blk_below (blk_to BK224) hb)
    have n6_ := Aside0.mk (Kd.C_below (by repeat (first | (with_reducible exact HR235_0.out) | (with_reducible refine Kd.C_alloc ?_ _) | (with_reducible refine Kd.C_drewN ?_ _) | (with_reducible refine Kd.C_drew ?_) | exact HR235_0.out)) hb)
    have n7_ := Aside0.mk (below_step (below_to2 HB GE223.out GE224.out) hb)
    clear HO_4
    clear HO_47
    clear HL235_0
    clear BK223
    clear BK224
    clear HR235_0
    clear HB
    have HO_4 := n0_
    have HO_47 := n1_
    have HL235_0 := n2_
    have HO239 := n3_
    have BK223 := n4_
    have BK224 := n5_
    have HR235_0 := n6_
    have HB := n7_
    clear n0_ n1_ n2_ n3_ n4_ n5_ n6_ n7_
    clear hb ho101
    obtain ⟨Ao102, co102, eo102⟩ := Kd.R_slice HO239.out
    (first | subst eo102 | (injection eo102 with f1_ f2_ f3_; have f4_ := f1_.symm; have f5_ := f3_.symm; clear f1_ f2_ f3_; subst f4_; subst f5_))
    refine hK.out _ _ ⟨(blk_cell BK223.out 0).trans rfl, (blk_cell BK223.out 1).trans rfl, (blk_cell BK223.out 2).trans rfl, (blk_cell BK223.out 3).trans rfl, (blk_cell BK224.out 0).trans rfl, (blk_cell BK224.out 1).trans rfl, (blk_cell BK224.out 2).trans rfl, (blk_cell BK224.out 3).trans rfl, HS8_, HS9_, HS10_, HS11_, HS12_⟩ (fun hHeld => ?_)
    clear hK K
    refine norm_ (a' := ?_) ?_ ?_
    rotate_left
    ·show Act.put _ (some 61) _ = _
     simp only [Act.put, List.setIfInBounds_toArray, List.set_cons_zero, List.set_cons_succ, i64_w, i32_w]
     rfl
    refine one_ (i := 9) (N := some 62) (fr_ [10, 32]) rfl rfl (one_of HT_.out (by kernel_rfl)) (by decide) (fun K hK => ?_)
    refine goes_ Try.func49 (by kernel_rfl) rfl #[.agg #[.int .i64 a0_0, .int .i64 a0_1, .int .i64 a0_2, .slice A0_3 l0_3.length c0_3], .slice Ao102 y237.length co102] (by rfl) rfl rfl am_ ?_
    with_reducible refine (impl_hasStops.calls k2 a0_0 a0_1 a0_2 _ _ l0_3 _ _ y237 true _ ?side1 ?side2 ?side3 ?side4 A62.out).mono ?_
    (case side1 => exact cb_ HR0_3 HB)
    (case side2 => exact HC0_3.out)
    (case side3 => exact cR_ HO239)
    (case side4 => exact (Kd.R_reads' HO239.out).2.1)
    rintro e w103 ⟨rfl, hb⟩
    have HS8_ := (hb.cell (World.block_lt_of_cell? _ _ (hHeld.2.2.2.2.2.2.2.2.1))).trans (hHeld.2.2.2.2.2.2.2.2.1)
    have HS9_ := (hb.cell (World.block_lt_of_cell? _ _ (hHeld.2.2.2.2.2.2.2.2.2.1))).trans (hHeld.2.2.2.2.2.2.2.2.2.1)
    have HS10_ := (hb.cell (World.block_lt_of_cell? _ _ (hHeld.2.2.2.2.2.2.2.2.2.2.1))).trans (hHeld.2.2.2.2.2.2.2.2.2.2.1)
    have HS11_ := (hb.cell (World.block_lt_of_cell? _ _ (hHeld.2.2.2.2.2.2.2.2.2.2.2.1))).trans (hHeld.2.2.2.2.2.2.2.2.2.2.2.1)
    have HS12_ := (hb.cell (World.block_lt_of_cell? _ _ (hHeld.2.2.2.2.2.2.2.2.2.2.2.2))).trans (hHeld.2.2.2.2.2.2.2.2.2.2.2.2)
    refine ⟨_, rfl, ?_⟩
    have n0_ := Aside0.mk (Kd.V_below (vd_to HO_4) hb)
    have n1_ := Aside0.mk (Kd.V_below (vd_to HO_47) hb)
    have n2_ := Aside0.mk (Kd.V_below (vd_to HL235_0) hb)
    have n3_ := Aside0.mk (Kd.R_below (kd_to HO239) hb)
    have n4_ := Aside0.mk (blk_below (blk_to BK223) hb)
    have n5_ := Aside0.mk (blk_below (blk_to BK224) hb)
    have n6_ := Aside0.mk (Kd.C_below (by repeat (first | (with_reducible exact HR235_0.out) | (with_reducible refine Kd.C_alloc ?_ _) | (with_reducible refine Kd.C_drewN ?_ _) | (with_reducible refine Kd.C_drew ?_) | exact HR235_0.out)) hb)
    have n7_ := Aside0.mk (below_step (below_to2 HB GE223.out GE224.out) hb)
    clear HO_4
    clear HO_47
    clear HL235_0
    clear HO239
    clear BK223
    clear BK224
    clear HR235_0
    clear HB
    have HO_4 := n0_
    have HO_47 := n1_
    have HL235_0 := n2_
    have HO239 := n3_
    have BK223 := n4_
    have BK224 := n5_
    have HR235_0 := n6_
    have HB := n7_
    clear n0_ n1_ n2_ n3_ n4_ n5_ n6_ n7_
    (try clear hb)
    (try clear hb2)
    (try clear hk)
    (try clear hi)
    have p241 : 0 ≤ (1 : Int) := (by omega)
    have q241 : 1 < ((rd_L1 l4 x49_2).length : Int) := odt_
    obtain ⟨ad241, e241, hx241_0⟩ := Kd.at_int (by repeat (first | (with_reducible exact HR235_0.out) | (with_reducible refine Kd.C_alloc ?_ _) | (with_reducible refine Kd.C_drewN ?_ _) | (with_reducible refine Kd.C_drew ?_) | exact HR235_0.out)) 1 p241 q241
    obtain rfl : ad236 = ad241 := (by injection e241)
    (try simp only [show (1 : Int).toNat = 1 from rfl, Nat.reduceMul, Nat.reduceEqDiff, Go.Addr.add, ↓reduceIte] at hx241_0)
    have qi241 : (1 < (rd_L1 l4 x49_2).length) = True := eq_true (by omega)
    (try rw [show ((1 : Int)).toNat = 1 from rfl] at hx241_0)
    replace p241 := eq_true p241
    replace q241 := eq_true q241
    refine hK.out _ _ ⟨(blk_cell BK223.out 0).trans rfl, (blk_cell BK223.out 1).trans rfl, (blk_cell BK223.out 2).trans rfl, (blk_cell BK223.out 3).trans rfl, (blk_cell BK224.out 0).trans rfl, (blk_cell BK224.out 1).trans rfl, (blk_cell BK224.out 2).trans rfl, (blk_cell BK224.out 3).trans rfl, HS8_, HS9_, HS10_, HS11_, HS12_⟩ (fun hHeld => ?_)
    clear hK K
    refine norm_ (a' := ?_) ?_ ?_
    rotate_left
    ·show Act.put _ (some 62) _ = _
     simp only [Act.put, List.setIfInBounds_toArray, List.set_cons_zero, List.set_cons_succ, i64_w, i32_w]
     rfl
    refine purS_ (i := 10) (N := some 63) (fl_ 42 11) HT_.out ?_
    refine purS_ (i := 11) (N := some 64) (fl_ 42 12) HT_.out ?_
    refine purS_ (i := 12) (N := some 65) (fl_ 42 13) HT_.out ?_
    refine purS_ (i := 14) (N := some 67) (fr_ [13, 1, 1, 27]) HT_.out ?_
    refine purS_ (i := 15) (N := some 68) (fr_ [13, 1, 2, 26]) HT_.out ?_
    refine take_ (i := 13) (N := some 66) (v := ?_) (a' := ?_) (fr_ [16, 26]) rfl rfl (take_ofW HT_.out HW_.out (by kernel_rfl)) (fun _ _ _ h => h) (Or.inl ⟨by rfl, ?_⟩) hHeld ?_ ?_
    rotate_left
    ·rintro w' ⟨s0, s1, s2, s3, s4, s5, s6, s7, s8, s9, s10, s11, s12⟩
     go_simp
     with_reducible rfl
    rotate_left
    ·simp only [Act.put, List.setIfInBounds_toArray, List.set_cons_zero, List.set_cons_succ, i64_w, i32_w]
     rfl
    refine take_ (i := 16) (N := some 69) (v := ?_) (a' := ?_) (fr_ [17, 25]) rfl rfl (take_ofW HT_.out HW_.out (by kernel_rfl)) (fun _ _ _ h => h) (Or.inl ⟨by rfl, ?_⟩) hHeld ?_ ?_
    rotate_left
    ·rintro w' ⟨s0, s1, s2, s3, s4, s5, s6, s7, s8, s9, s10, s11, s12⟩
     go_simp
     with_reducible rfl
    rotate_left
    ·simp only [Act.put, List.setIfInBounds_toArray, List.set_cons_zero, List.set_cons_succ, i64_w, i32_w]
     rfl
    refine one_ (i := 17) (N := some 70) (fr_ [18, 24]) rfl rfl (one_of HT_.out (by kernel_rfl)) (by decide) (fun K hK => ?_)
    refine Kd.R_lit_step (Kd.int .i64) _ 3 ?hg (N := 70) ?hd (xs := ([rd (rd_L1 l4 x49_2) 1] : List Int)) (inner := [.int .i64 (rd (rd_L1 l4 x49_2) 1)]) (ok := fun _ => True) (okp := fun _ => True) ?hr ?hp (fun _ hk => hk) trivial (Below.refl _ _) (Nat.le_refl _) (by simp) ?_; (case hd => rfl); (case hg => rfl); (case hr => first | (go_simp; done) | (go_simp; rfl)); (case hp => exact (Reps.one (show Kd.M (Kd.int .i64) _ _ _ (rd (rd_L1 l4 x49_2) 1) [.int .i64 (rd (rd_L1 l4 x49_2) 1)] from rfl) (Reps.none _ _)))
    intro v243 w104 ho105 hb hg_ hnew_
    have HS8_ := (hb.cell (World.block_lt_of_cell? _ _ (hHeld.2.2.2.2.2.2.2.2.1))).trans (hHeld.2.2.2.2.2.2.2.2.1)
    have HS9_ := (hb.cell (World.block_lt_of_cell? _ _ (hHeld.2.2.2.2.2.2.2.2.2.1))).trans (hHeld.2.2.2.2.2.2.2.2.2.1)
    have HS10_ := (hb.cell (World.block_lt_of_cell? _ _ (hHeld.2.2.2.2.2.2.2.2.2.2.1))).trans (hHeld.2.2.2.2.2.2.2.2.2.2.1)
    have HS11_ := (hb.cell (World.block_lt_of_cell? _ _ (hHeld.2.2.2.2.2.2.2.2.2.2.2.1))).trans (hHeld.2.2.2.2.2.2.2.2.2.2.2.1)
    have HS12_ := (hb.cell (World.block_lt_of_cell? _ _ (hHeld.2.2.2.2.2.2.2.2.2.2.2.2))).trans (hHeld.2.2.2.2.2.2.2.2.2.2.2.2)
    clear hg_ hnew_
    (first | rw [← Ny242.out] at ho105 | (simp only [Int.reduceToNat] at ho105; rw [← Ny242.out] at ho105))
    have n0_ := Aside0.mk (Kd.V_elder' (vd_to HO_4) (Kd.R_base ho105) hb)
    have n1_ := Aside0.mk (Kd.V_elder' (vd_to HO_47) (Kd.R_base ho105) hb)
    have n2_ := Aside0.mk (Kd.V_elder' (vd_to HL235_0) (Kd.R_base ho105) hb)
    have n3_ := Aside0.mk (Kd.R_elder' (kd_to HO239) (Kd.R_base ho105) hb)
    have n4_ := Aside0.mk (Kd.R_lower (Kd.R_new' (Kd.R_newM (M := fun k_ => (w.heap.size ≤ k_)) ho105 (below_size (below_to2 HB GE223.out GE224.out)) (fun k_ h_ => h_)) (Kd.R_lt (kd_to HO239))) (below_size (below_to2 HB GE223.out GE224.out)))
    have n5_ := Aside0.mk (blk_below (blk_to BK223) hb)
    have n6_ := Aside0.mk (blk_below (blk_to BK224) hb)
    have n7_ := Aside0.mk (Kd.C_below (by repeat (first | (with_reducible exact HR235_0.out) | (with_reducible refine Kd.C_alloc ?_ _) | (with_reducible refine Kd.C_drewN ?_ _) | (with_reducible refine Kd.C_drew ?_) | exact HR235_0.out)) hb)
    have n8_ := Aside0.mk (below_step (below_to2 HB GE223.out GE224.out) hb)
    clear HO_4
    clear HO_47
    clear HL235_0
    clear HO239
    clear BK223
    clear BK224
    clear HR235_0
    clear HB
    have HO_4 := n0_
    have HO_47 := n1_
    have HL235_0 := n2_
    have HO239 := n3_
    have HO244 := n4_
    have BK223 := n5_
    have BK224 := n6_
    have HR235_0 := n7_
    have HB := n8_
    clear n0_ n1_ n2_ n3_ n4_ n5_ n6_ n7_ n8_
    clear hb ho105
    obtain ⟨Ao106, co106, eo106⟩ := Kd.R_slice HO244.out
    (first | subst eo106 | (injection eo106 with f1_ f2_ f3_; have f4_ := f1_.symm; have f5_ := f3_.symm; clear f1_ f2_ f3_; subst f4_; subst f5_))
    refine hK.out _ _ ⟨(blk_cell BK223.out 0).trans rfl, (blk_cell BK223.out 1).trans rfl, (blk_cell BK223.out 2).trans rfl, (blk_cell BK223.out 3).trans rfl, (blk_cell BK224.out 0).trans rfl, (blk_cell BK224.out 1).trans rfl, (blk_cell BK224.out 2).trans rfl, (blk_cell BK224.out 3).trans rfl, HS8_, HS9_, HS10_, HS11_, HS12_⟩ (fun hHeld => ?_)
    clear hK K
    refine norm_ (a' := ?_) ?_ ?_
    rotate_left
    ·show Act.put _ (some 70) _ = _
     simp only [Act.put, List.setIfInBounds_toArray, List.set_cons_zero, List.set_cons_succ, i64_w, i32_w]
     rfl
    refine one_ (i := 18) (N := some 71) (fr_ [19, 23]) rfl rfl (one_of HT_.out (by kernel_rfl)) (by decide) (fun K hK => ?_)
    refine goes_ Try.func49 (by kernel_rfl) rfl #[.agg #[.int .i64 a2_0, .int .i64 a2_1, .int .i64 a2_2, .slice A2_3 l2_3.length c2_3], .slice Ao106 y242.length co106] (by rfl) rfl rfl am_ ?_
    with_reducible refine (impl_hasStops.calls k2 a2_0 a2_1 a2_2 _ _ l2_3 _ _ y242 true _ ?side1 ?side2 ?side3 ?side4 A65.out).mono ?_
    (case side1 => exact cb_ HR2_3 HB)
    (case side2 => exact HC2_3.out)
    (case side3 => exact cR_ HO244)
    (case side4 => exact (Kd.R_reads' HO244.out).2.1)
    rintro e w107 ⟨rfl, hb⟩
    have HS8_ := (hb.cell (World.block_lt_of_cell? _ _ (hHeld.2.2.2.2.2.2.2.2.1))).trans (hHeld.2.2.2.2.2.2.2.2.1)
    have HS9_ := (hb.cell (World.block_lt_of_cell? _ _ (hHeld.2.2.2.2.2.2.2.2.2.1))).trans (hHeld.2.2.2.2.2.2.2.2.2.1)
    have HS10_ := (hb.cell (World.block_lt_of_cell? _ _ (hHeld.2.2.2.2.2.2.2.2.2.2.1))).trans (hHeld.2.2.2.2.2.2.2.2.2.2.1)
    have HS11_ := (hb.cell (World.block_lt_of_cell? _ _ (hHeld.2.2.2.2.2.2.2.2.2.2.2.1))).trans (hHeld.2.2.2.2.2.2.2.2.2.2.2.1)
    have HS12_ := (hb.cell (World.block_lt_of_cell? _ _ (hHeld.2.2.2.2.2.2.2.2.2.2.2.2))).trans (hHeld.2.2.2.2.2.2.2.2.2.2.2.2)
    refine ⟨_, rfl, ?_⟩
    have n0_ := Aside0.mk (Kd.V_below (vd_to HO_4) hb)
    have n1_ := Aside0.mk (Kd.V_below (vd_to HO_47) hb)
    have n2_ := Aside0.mk (Kd.V_below (vd_to HL235_0) hb)
    have n3_ := Aside0.mk (Kd.R_below (kd_to HO239) hb)
    have n4_ := Aside0.mk (Kd.R_below (kd_to HO244) hb)
    have n5_ := Aside0.mk (blk_below (blk_to BK223) hb)
    have n6_ := Aside0.mk (blk_below (blk_to BK224) hb)
    have n7_ := Aside0.mk (Kd.C_below (by repeat (first | (with_reducible exact HR235_0.out) | (with_reducible refine Kd.C_alloc ?_ _) | (with_reducible refine Kd.C_drewN ?_ _) | (with_reducible refine Kd.C_drew ?_) | exact HR235_0.out)) hb)
    have n8_ := Aside0.mk (below_step (below_to2 HB GE223.out GE224.out) hb)
    clear HO_4
    clear HO_47
    clear HL235_0
    clear HO239
    clear HO244
    clear BK223
    clear BK224
    clear HR235_0
    clear HB
    have HO_4 := n0_
    have HO_47 := n1_
    have HL235_0 := n2_
    have HO239 := n3_
    have HO244 := n4_
    have BK223 := n5_
    have BK224 := n6_
    have HR235_0 := n7_
    have HB := n8_
    clear n0_ n1_ n2_ n3_ n4_ n5_ n6_ n7_ n8_
    (try clear hb)
    (try clear hb2)
    (try clear hk)
    (try clear hi)
    have p246 : 0 ≤ (0 : Int) := (by omega)
    have q246 : 0 < ((rd_L1 l4 x49_2).length : Int) := odt_
    obtain ⟨ad246, e246, hx246_0⟩ := Kd.at_int (by repeat (first | (with_reducible exact HR235_0.out) | (with_reducible refine Kd.C_alloc ?_ _) | (with_reducible refine Kd.C_drewN ?_ _) | (with_reducible refine Kd.C_drew ?_) | exact HR235_0.out)) 0 p246 q246
    obtain rfl : ad236 = ad246 := (by injection e246)
    have qi246 : (0 < (rd_L1 l4 x49_2).length) = True := eq_true (by omega)
    (try rw [show ((0 : Int)).toNat = 0 from rfl] at hx246_0)
    (try rw [Addr.add_zero'] at hx246_0)
    replace p246 := eq_true p246
    replace q246 := eq_true q246
    have p247 : 0 ≤ (1 : Int) := (by omega)
    have q247 : 1 < ((rd_L1 l4 x49_2).length : Int) := odt_
    obtain ⟨ad247, e247, hx247_0⟩ := Kd.at_int (by repeat (first | (with_reducible exact HR235_0.out) | (with_reducible refine Kd.C_alloc ?_ _) | (with_reducible refine Kd.C_drewN ?_ _) | (with_reducible refine Kd.C_drew ?_) | exact HR235_0.out)) 1 p247 q247
    obtain rfl : ad236 = ad247 := (by injection e247)
    (try simp only [show (1 : Int).toNat = 1 from rfl, Nat.reduceMul, Nat.reduceEqDiff, Go.Addr.add, ↓reduceIte] at hx247_0)
    have qi247 : (1 < (rd_L1 l4 x49_2).length) = True := eq_true (by omega)
    (try rw [show ((1 : Int)).toNat = 1 from rfl] at hx247_0)
    replace p247 := eq_true p247
    replace q247 := eq_true q247
    have p248 : 0 ≤ (2 : Int) := (by omega)
    have q248 : 2 < ((rd_L1 l4 x49_2).length : Int) := odt_
    obtain ⟨ad248, e248, hx248_0⟩ := Kd.at_int (by repeat (first | (with_reducible exact HR235_0.out) | (with_reducible refine Kd.C_alloc ?_ _) | (with_reducible refine Kd.C_drewN ?_ _) | (with_reducible refine Kd.C_drew ?_) | exact HR235_0.out)) 2 p248 q248
    obtain rfl : ad236 = ad248 := (by injection e248)
    (try simp only [show (2 : Int).toNat = 2 from rfl, Nat.reduceMul, Nat.reduceEqDiff, Go.Addr.add, ↓reduceIte] at hx248_0)
    have qi248 : (2 < (rd_L1 l4 x49_2).length) = True := eq_true (by omega)
    (try rw [show ((2 : Int)).toNat = 2 from rfl] at hx248_0)
    replace p248 := eq_true p248
    replace q248 := eq_true q248
    refine hK.out _ _ ⟨(blk_cell BK223.out 0).trans rfl, (blk_cell BK223.out 1).trans rfl, (blk_cell BK223.out 2).trans rfl, (blk_cell BK223.out 3).trans rfl, (blk_cell BK224.out 0).trans rfl, (blk_cell BK224.out 1).trans rfl, (blk_cell BK224.out 2).trans rfl, (blk_cell BK224.out 3).trans rfl, HS8_, HS9_, HS10_, HS11_, HS12_⟩ (fun hHeld => ?_)
    clear hK K
    refine norm_ (a' := ?_) ?_ ?_
    rotate_left
    ·show Act.put _ (some 71) _ = _
     simp only [Act.put, List.setIfInBounds_toArray, List.set_cons_zero, List.set_cons_succ, i64_w, i32_w]
     rfl
    refine purS_ (i := 19) (N := some 72) (fl_ 42 20) HT_.out ?_
    refine purS_ (i := 20) (N := some 73) (fl_ 42 21) HT_.out ?_
    refine purS_ (i := 21) (N := some 74) (fl_ 42 22) HT_.out ?_
    refine purS_ (i := 22) (N := some 75) (fl_ 42 23) HT_.out ?_
    refine purS_ (i := 23) (N := some 76) (fl_ 42 24) HT_.out ?_
    refine purS_ (i := 24) (N := some 77) (fl_ 42 25) HT_.out ?_
    refine take_ (i := 25) (N := some 78) (v := ?_) (a' := ?_) (fr_ [26, 16]) rfl rfl (take_ofW HT_.out HW_.out (by kernel_rfl)) (fun _ _ _ h => h) (Or.inl ⟨by rfl, ?_⟩) hHeld ?_ ?_
    rotate_left
    ·rintro w' ⟨s0, s1, s2, s3, s4, s5, s6, s7, s8, s9, s10, s11, s12⟩
     go_simp
     with_reducible rfl
    rotate_left
    ·simp only [Act.put, List.setIfInBounds_toArray, List.set_cons_zero, List.set_cons_succ, i64_w, i32_w]
     rfl
    refine purS_ (i := 26) (N := some 79) (fl_ 42 27) HT_.out ?_
    refine purS_ (i := 27) (N := some 80) (fl_ 42 28) HT_.out ?_
    refine purS_ (i := 28) (N := some 81) (fl_ 42 29) HT_.out ?_
    refine purS_ (i := 29) (N := some 82) (fl_ 42 30) HT_.out ?_
    refine purS_ (i := 30) (N := some 83) (fl_ 42 31) HT_.out ?_
    refine purS_ (i := 32) (N := some 85) (fr_ [31, 1, 1, 9]) HT_.out ?_
    refine take_ (i := 31) (N := some 84) (v := ?_) (a' := ?_) (fr_ [33, 9]) rfl rfl (take_ofW HT_.out HW_.out (by kernel_rfl)) (fun _ _ _ h => h) (Or.inl ⟨by rfl, ?_⟩) hHeld ?_ ?_
    rotate_left
    ·rintro w' ⟨s0, s1, s2, s3, s4, s5, s6, s7, s8, s9, s10, s11, s12⟩
     go_simp
     with_reducible rfl
    rotate_left
    ·simp only [Act.put, List.setIfInBounds_toArray, List.set_cons_zero, List.set_cons_succ, i64_w, i32_w]
     rfl
    refine purS_ (i := 33) (N := some 86) (fl_ 42 34) HT_.out ?_
    refine purS_ (i := 34) (N := some 87) (fl_ 42 35) HT_.out ?_
    refine purS_ (i := 35) (N := some 88) (fl_ 42 36) HT_.out ?_
    refine purS_ (i := 36) (N := some 89) (fl_ 42 37) HT_.out ?_
    refine purS_ (i := 37) (N := some 90) (fl_ 42 38) HT_.out ?_
    refine take_ (i := 38) (N := some 91) (v := ?_) (a' := ?_) (fr_ [39, 3]) rfl rfl (take_ofW HT_.out HW_.out (by kernel_rfl)) (fun _ _ _ h => h) (Or.inl ⟨by rfl, ?_⟩) hHeld ?_ ?_
    rotate_left
    ·rintro w' ⟨s0, s1, s2, s3, s4, s5, s6, s7, s8, s9, s10, s11, s12⟩
     go_simp
     with_reducible rfl
    rotate_left
    ·simp only [Act.put, List.setIfInBounds_toArray, List.set_cons_zero, List.set_cons_succ, i64_w, i32_w]
     rfl
    refine one_ (i := 39) (N := some 92) (fr_ [40, 2]) rfl rfl (one_of HT_.out (by kernel_rfl)) (by decide) (fun K hK => ?_)
    refine goes_ Try.func52 (by kernel_rfl) rfl #[.int .i64 (rd (rd_L1 l4 x49_2) 2)] (by rfl) rfl rfl am_ ?_
    with_reducible refine (impl_isWalk.calls (rd (rd_L1 l4 x49_2) 2) false _ A88.out).mono ?_
    rintro e w' ⟨rfl, ⟨nd, rfl⟩⟩
    refine ⟨_, rfl, ?_⟩
    refine hK.out _ _ ⟨(blk_cell BK223.out 0).trans rfl, (blk_cell BK223.out 1).trans rfl, (blk_cell BK223.out 2).trans rfl, (blk_cell BK223.out 3).trans rfl, (blk_cell BK224.out 0).trans rfl, (blk_cell BK224.out 1).trans rfl, (blk_cell BK224.out 2).trans rfl, (blk_cell BK224.out 3).trans rfl, hHeld.2.2.2.2.2.2.2.2.1, hHeld.2.2.2.2.2.2.2.2.2.1, hHeld.2.2.2.2.2.2.2.2.2.2.1, hHeld.2.2.2.2.2.2.2.2.2.2.2.1, hHeld.2.2.2.2.2.2.2.2.2.2.2.2⟩ (fun hHeld => ?_)
    clear hK K
    refine norm_ (a' := ?_) ?_ ?_
    rotate_left
    ·show Act.put _ (some 92) _ = _
     simp only [Act.put, List.setIfInBounds_toArray, List.set_cons_zero, List.set_cons_succ, i64_w, i32_w]
     rfl
    refine purS_ (i := 40) (N := some 93) (fl_ 42 41) HT_.out ?_
    refine purS_ (i := 41) (N := some 94) (fl_ 42 42) HT_.out ?_
    refine done_ (done_of HT_.out (by kernel_rfl)) ?_
    try go_wp2
    go_ret3
    exact ⟨_, rtE_, by first | exact Kd.R_nil _ _ _ _ _ | exact Kd.N_nil _ _ _ _ _ | exact Kd.V_nil _ _ _ _ _ | exact Kd.Q_nil _ _ _ _ _ | exact Kd.S_nil _ _ _ _ _, below_to2 HB GE223.out GE224.out⟩
   subst c89
   rw [if_pos rfl] at H
   have H' := Aside0.mk H
   clear H
   have p235 : 0 ≤ (x49_2 : Int) := odt_
   have q235 : x49_2 < (l4.length : Int) := odt_
   obtain ⟨ad235, A235_0, c235_0, e235, hx235_0, hl235_0, hi235_0⟩ := at_L1 (Kd.V_reads' HO_47.out).2.2 x49_2 p235 q235
   cases e235
   obtain ⟨ce235, hce235, hMe235, hcc235⟩ := Kd.V_get HO_47.out [] x49_2 p235 (by first | exact q235 | exact of_decide_eq_true (by first | (with_reducible assumption) | assumption) | (have e_ := (Kd.V_reads' HO_47.out).1; omega))
   obtain ⟨ua235_0, uc235_0, rfl, ul235_0, ge235_0⟩ := Kd.FK_slice_open hMe235
   have hv235_0 := hcc235 0 _ rfl
   rw [Nat.add_zero, show ((Kd.slice 3 (Kd.int .i64))).sz = 1 from rfl, Nat.mul_one] at hv235_0
   replace hv235_0 := Option.some.inj (hv235_0.symm.trans hx235_0)
   injection hv235_0 with hva_ hvn_ hvc_
   rw [hva_] at ge235_0
   rw [hvc_] at ul235_0
   have HL235_0 := Aside0.mk (show Kd.V (Kd.int .i64) 3 _ w.heap.size _ _ (rd_L1 l4 x49_2) from Kd.V_mk ul235_0 ge235_0)
   clear hva_ hvn_ hvc_ ge235_0 ul235_0
   clear hcc235 hce235
   have HR235_0 := Aside0.mk hi235_0
   have HC235_0 := Aside0.mk hl235_0
   clear hi235_0 hl235_0
   replace p235 := eq_true p235
   replace q235 := eq_true q235
   try go_wp2
   have n0_ := Aside0.mk (Kd.V_drew HO_4.out)
   have n1_ := Aside0.mk (Kd.V_drew HO_47.out)
   have n2_ := Aside0.mk (Kd.V_drew HL235_0.out)
   have n3_ := Aside0.mk (blk_drew BK223.out)
   have n4_ := Aside0.mk (blk_drew BK224.out)
   have n5_ := Aside0.mk (Kd.C_drew HR235_0.out)
   have n6_ := Aside0.mk (below_drew1 HB.out)
   clear HO_4
   clear HO_47
   clear HL235_0
   clear BK223
   clear BK224
   clear HR235_0
   clear HB
   have HO_4 := n0_
   have HO_47 := n1_
   have HL235_0 := n2_
   have BK223 := n3_
   have BK224 := n4_
   have HR235_0 := n5_
   have HB := n6_
   clear n0_ n1_ n2_ n3_ n4_ n5_ n6_
   have p236 : 0 ≤ (0 : Int) := (by omega)
   have q236 : 0 < ((rd_L1 l4 x49_2).length : Int) := odt_
   obtain ⟨ad236, e236, hx236_0⟩ := Kd.at_int (by repeat (first | (with_reducible exact HR235_0.out) | (with_reducible refine Kd.C_alloc ?_ _) | (with_reducible refine Kd.C_drewN ?_ _) | (with_reducible refine Kd.C_drew ?_) | exact HR235_0.out)) 0 p236 q236
   cases e236
   have qi236 : (0 < (rd_L1 l4 x49_2).length) = True := eq_true (by omega)
   (try rw [show ((0 : Int)).toNat = 0 from rfl] at hx236_0)
   (try rw [Addr.add_zero'] at hx236_0)
   replace p236 := eq_true p236
   replace q236 := eq_true q236
   have p241 : 0 ≤ (1 : Int) := (by omega)
   have q241 : 1 < ((rd_L1 l4 x49_2).length : Int) := odt_
   obtain ⟨ad241, e241, hx241_0⟩ := Kd.at_int (by repeat (first | (with_reducible exact HR235_0.out) | (with_reducible refine Kd.C_alloc ?_ _) | (with_reducible refine Kd.C_drewN ?_ _) | (with_reducible refine Kd.C_drew ?_) | exact HR235_0.out)) 1 p241 q241
   obtain rfl : ad236 = ad241 := (by injection e241)
   (try simp only [show (1 : Int).toNat = 1 from rfl, Nat.reduceMul, Nat.reduceEqDiff, Go.Addr.add, ↓reduceIte] at hx241_0)
   have qi241 : (1 < (rd_L1 l4 x49_2).length) = True := eq_true (by omega)
   (try rw [show ((1 : Int)).toNat = 1 from rfl] at hx241_0)
   replace p241 := eq_true p241
   replace q241 := eq_true q241
   have p246 : 0 ≤ (0 : Int) := (by omega)
   have q246 : 0 < ((rd_L1 l4 x49_2).length : Int) := odt_
   obtain ⟨ad246, e246, hx246_0⟩ := Kd.at_int (by repeat (first | (with_reducible exact HR235_0.out) | (with_reducible refine Kd.C_alloc ?_ _) | (with_reducible refine Kd.C_drewN ?_ _) | (with_reducible refine Kd.C_drew ?_) | exact HR235_0.out)) 0 p246 q246
   obtain rfl : ad236 = ad246 := (by injection e246)
   have qi246 : (0 < (rd_L1 l4 x49_2).length) = True := eq_true (by omega)
   (try rw [show ((0 : Int)).toNat = 0 from rfl] at hx246_0)
   (try rw [Addr.add_zero'] at hx246_0)
   replace p246 := eq_true p246
   replace q246 := eq_true q246
   have p247 : 0 ≤ (1 : Int) := (by omega)
   have q247 : 1 < ((rd_L1 l4 x49_2).length : Int) := odt_
   obtain ⟨ad247, e247, hx247_0⟩ := Kd.at_int (by repeat (first | (with_reducible exact HR235_0.out) | (with_reducible refine Kd.C_alloc ?_ _) | (with_reducible refine Kd.C_drewN ?_ _) | (with_reducible refine Kd.C_drew ?_) | exact HR235_0.out)) 1 p247 q247
   obtain rfl : ad236 = ad247 := (by injection e247)
   (try simp only [show (1 : Int).toNat = 1 from rfl, Nat.reduceMul, Nat.reduceEqDiff, Go.Addr.add, ↓reduceIte] at hx247_0)
   have qi247 : (1 < (rd_L1 l4 x49_2).length) = True := eq_true (by omega)
   (try rw [show ((1 : Int)).toNat = 1 from rfl] at hx247_0)
   replace p247 := eq_true p247
   replace q247 := eq_true q247
   have p248 : 0 ≤ (2 : Int) := (by omega)
   have q248 : 2 < ((rd_L1 l4 x49_2).length : Int) := odt_
   obtain ⟨ad248, e248, hx248_0⟩ := Kd.at_int (by repeat (first | (with_reducible exact HR235_0.out) | (with_reducible refine Kd.C_alloc ?_ _) | (with_reducible refine Kd.C_drewN ?_ _) | (with_reducible refine Kd.C_drew ?_) | exact HR235_0.out)) 2 p248 q248
   obtain rfl : ad236 = ad248 := (by injection e248)
   (try simp only [show (2 : Int).toNat = 2 from rfl, Nat.reduceMul, Nat.reduceEqDiff, Go.Addr.add, ↓reduceIte] at hx248_0)
   have qi248 : (2 < (rd_L1 l4 x49_2).length) = True := eq_true (by omega)
   (try rw [show ((2 : Int)).toNat = 2 from rfl] at hx248_0)
   replace p248 := eq_true p248
   replace q248 := eq_true q248
   refine start_ (n := 42) (S := fun w' => w'.cell? ⟨gb223, 0, none⟩ = some (.int .i64 a0_0) ∧ w'.cell? ⟨gb223, 1, none⟩ = some (.int .i64 a0_1) ∧ w'.cell? ⟨gb223, 2, none⟩ = some (.int .i64 a0_2) ∧ w'.cell? ⟨gb223, 3, none⟩ = some (.slice A0_3 l0_3.length c0_3) ∧ w'.cell? ⟨gb224, 0, none⟩ = some (.int .i64 a2_0) ∧ w'.cell? ⟨gb224, 1, none⟩ = some (.int .i64 a2_1) ∧ w'.cell? ⟨gb224, 2, none⟩ = some (.int .i64 a2_2) ∧ w'.cell? ⟨gb224, 3, none⟩ = some (.slice A2_3 l2_3.length c2_3) ∧ w'.cell? ad236 = some (.int .i64 (rd (rd_L1 l4 x49_2) 0)) ∧ w'.cell? ⟨ad236.block, ad236.off + 1, none⟩ = some (.int .i64 (rd (rd_L1 l4 x49_2) 1)) ∧ w'.cell? ad236 = some (.int .i64 (rd (rd_L1 l4 x49_2) 0)) ∧ w'.cell? ⟨ad236.block, ad236.off + 1, none⟩ = some (.int .i64 (rd (rd_L1 l4 x49_2) 1)) ∧ w'.cell? ⟨ad236.block, ad236.off + 2, none⟩ = some (.int .i64 (rd (rd_L1 l4 x49_2) 2))) (ds := []) (fr_ [0, 42]) (by kernel_rfl) rfl rfl ⟨(blk_cell BK223.out 0).trans rfl, (blk_cell BK223.out 1).trans rfl, (blk_cell BK223.out 2).trans rfl, (blk_cell BK223.out 3).trans rfl, (blk_cell BK224.out 0).trans rfl, (blk_cell BK224.out 1).trans rfl, (blk_cell BK224.out 2).trans rfl, (blk_cell BK224.out 3).trans rfl, hx236_0, hx241_0, hx246_0, hx247_0, hx248_0⟩ (fun hHeld => ?_); refine with_tabW impl_BestChange.tab6 impl_BestChange.bits6 (fun HT_ HW_ => ?_)
   clear hx241_0 p241 q241 qi241 hx246_0 p246 q246 qi246 hx247_0 p247 q247 qi247 hx248_0 p248 q248 qi248
   generalize wr.drew = w90 at HO_4 HO_47 HL235_0 BK223 BK224 HR235_0 HB hx236_0 hHeld ⊢
   refine purS_ (i := 0) (N := some 53) (fl_ 42 1) HT_.out ?_
   refine purS_ (i := 1) (N := some 54) (fl_ 42 2) HT_.out ?_
   refine purS_ (i := 2) (N := some 55) (fl_ 42 3) HT_.out ?_
   refine purS_ (i := 3) (N := some 56) (fl_ 42 4) HT_.out ?_
   refine purS_ (i := 5) (N := some 58) (fr_ [4, 1, 1, 36]) HT_.out ?_
   refine purS_ (i := 6) (N := some 59) (fr_ [4, 1, 2, 35]) HT_.out ?_
   refine take_ (i := 4) (N := some 57) (v := ?_) (a' := ?_) (fr_ [7, 35]) rfl rfl (take_ofW HT_.out HW_.out (by kernel_rfl)) (fun _ _ _ h => h) (Or.inl ⟨by rfl, ?_⟩) hHeld ?_ ?_
   rotate_left
   ·rintro w' ⟨s0, s1, s2, s3, s4, s5, s6, s7, s8, s9, s10, s11, s12⟩
    go_simp
    with_reducible rfl
   rotate_left
   ·simp only [Act.put, List.setIfInBounds_toArray, List.set_cons_zero, List.set_cons_succ, i64_w, i32_w]
    rfl
   refine take_ (i := 7) (N := some 60) (v := ?_) (a' := ?_) (fr_ [8, 34]) rfl rfl (take_ofW HT_.out HW_.out (by kernel_rfl)) (fun _ _ _ h => h) (Or.inl ⟨by rfl, ?_⟩) hHeld ?_ ?_
   rotate_left
   ·rintro w' ⟨s0, s1, s2, s3, s4, s5, s6, s7, s8, s9, s10, s11, s12⟩
    go_simp
    with_reducible rfl
   rotate_left
   ·simp only [Act.put, List.setIfInBounds_toArray, List.set_cons_zero, List.set_cons_succ, i64_w, i32_w]
    rfl
   refine one_ (i := 8) (N := some 61) (fr_ [9, 33]) rfl rfl (one_of HT_.out (by kernel_rfl)) (by decide) (fun K hK => ?_)
   refine Kd.R_lit_step (Kd.int .i64) _ 3 ?hg (N := 61) ?hd (xs := ([rd (rd_L1 l4 x49_2) 0] : List Int)) (inner := [.int .i64 (rd (rd_L1 l4 x49_2) 0)]) (ok := fun _ => True) (okp := fun _ => True) ?hr ?hp (fun _ hk => hk) trivial (Below.refl _ _) (Nat.le_refl _) (by simp) ?_; (case hd => rfl); (case hg => rfl); (case hr => first | (go_simp; done) | (go_simp; rfl)); (case hp => exact (Reps.one (show Kd.M (Kd.int .i64) _ _ _ (rd (rd_L1 l4 x49_2) 0) [.int .i64 (rd (rd_L1 l4 x49_2) 0)] from rfl) (Reps.none _ _)))
   intro v238 w91 ho92 hb hg_ hnew_
   have HS8_ := (hb.cell (World.block_lt_of_cell? _ _ (hHeld.2.2.2.2.2.2.2.2.1))).trans (hHeld.2.2.2.2.2.2.2.2.1)
   have HS9_ := (hb.cell (World.block_lt_of_cell? _ _ (hHeld.2.2.2.2.2.2.2.2.2.1))).trans (hHeld.2.2.2.2.2.2.2.2.2.1)
   have HS10_ := (hb.cell (World.block_lt_of_cell? _ _ (hHeld.2.2.2.2.2.2.2.2.2.2.1))).trans (hHeld.2.2.2.2.2.2.2.2.2.2.1)
   have HS11_ := (hb.cell (World.block_lt_of_cell? _ _ (hHeld.2.2.2.2.2.2.2.2.2.2.2.1))).trans (hHeld.2.2.2.2.2.2.2.2.2.2.2.1)
   have HS12_ := (hb.cell (World.block_lt_of_cell? _ _ (hHeld.2.2.2.2.2.2.2.2.2.2.2.2))).trans (hHeld.2.2.2.2.2.2.2.2.2.2.2.2)
   clear hg_ hnew_
   (first | rw [← Ny237.out] at ho92 | (simp only [Int.reduceToNat] at ho92; rw [← Ny237.out] at ho92))
   have n0_ := Aside0.mk (Kd.V_elder' (vd_to HO_4) (Kd.R_base ho92) hb)
   have n1_ := Aside0.mk (Kd.V_elder' (vd_to HO_47) (Kd.R_base ho92) hb)
   have n2_ := Aside0.mk (Kd.V_elder' (vd_to HL235_0) (Kd.R_base ho92) hb)
   have n3_ := Aside0.mk (Kd.R_lower (Kd.R_newM (M := fun k_ => (w.heap.size ≤ k_)) ho92 (below_size (below_to2 HB GE223.out GE224.out)) (fun k_ h_ => h_)) (below_size (below_to2 HB GE223.out GE224.out)))
   have n4_ := Aside0.mk (blk_below (blk_to BK223) hb)
   have n5_ := Aside0.mk (blk_below (blk_to BK224) hb)
   have n6_ := Aside0.mk (Kd.C_below (by repeat (first | (with_reducible exact HR235_0.out) | (with_reducible refine Kd.C_alloc ?_ _) | (with_reducible refine Kd.C_drewN ?_ _) | (with_reducible refine Kd.C_drew ?_) | exact HR235_0.out)) hb)
   have n7_ := Aside0.mk (below_step (below_to2 HB GE223.out GE224.out) hb)
   clear HO_4
   clear HO_47
   clear HL235_0
   clear BK223
   clear BK224
   clear HR235_0
   clear HB
   have HO_4 := n0_
   have HO_47 := n1_
   have HL235_0 := n2_
   have HO239 := n3_
   have BK223 := n4_
   have BK224 := n5_
   have HR235_0 := n6_
   have HB := n7_
   clear n0_ n1_ n2_ n3_ n4_ n5_ n6_ n7_
   clear hb ho92
   obtain ⟨Ao93, co93, eo93⟩ := Kd.R_slice HO239.out
   (first | subst eo93 | (injection eo93 with f1_ f2_ f3_; have f4_ := f1_.symm; have f5_ := f3_.symm; clear f1_ f2_ f3_; subst f4_; subst f5_))
   refine hK.out _ _ ⟨(blk_cell BK223.out 0).trans rfl, (blk_cell BK223.out 1).trans rfl, (blk_cell BK223.out 2).trans rfl, (blk_cell BK223.out 3).trans rfl, (blk_cell BK224.out 0).trans rfl, (blk_cell BK224.out 1).trans rfl, (blk_cell BK224.out 2).trans rfl, (blk_cell BK224.out 3).trans rfl, HS8_, HS9_, HS10_, HS11_, HS12_⟩ (fun hHeld => ?_)
   clear hK K
   refine norm_ (a' := ?_) ?_ ?_
   rotate_left
   ·show Act.put _ (some 61) _ = _
    simp only [Act.put, List.setIfInBounds_toArray, List.set_cons_zero, List.set_cons_succ, i64_w, i32_w]
    rfl
   refine one_ (i := 9) (N := some 62) (fr_ [10, 32]) rfl rfl (one_of HT_.out (by kernel_rfl)) (by decide) (fun K hK => ?_)
   refine goes_ Try.func49 (by kernel_rfl) rfl #[.agg #[.int .i64 a0_0, .int .i64 a0_1, .int .i64 a0_2, .slice A0_3 l0_3.length c0_3], .slice Ao93 y237.length co93] (by rfl) rfl rfl am_ ?_
   with_reducible refine (impl_hasStops.calls k2 a0_0 a0_1 a0_2 _ _ l0_3 _ _ y237 true _ ?side1 ?side2 ?side3 ?side4 A62.out).mono ?_
   (case side1 => exact cb_ HR0_3 HB)
   (case side2 => exact HC0_3.out)
   (case side3 => exact cR_ HO239)
   (case side4 => exact (Kd.R_reads' HO239.out).2.1)
   rintro e w94 ⟨rfl, hb⟩
   have HS8_ := (hb.cell (World.block_lt_of_cell? _ _ (hHeld.2.2.2.2.2.2.2.2.1))).trans (hHeld.2.2.2.2.2.2.2.2.1)
   have HS9_ := (hb.cell (World.block_lt_of_cell? _ _ (hHeld.2.2.2.2.2.2.2.2.2.1))).trans (hHeld.2.2.2.2.2.2.2.2.2.1)
   have HS10_ := (hb.cell (World.block_lt_of_cell? _ _ (hHeld.2.2.2.2.2.2.2.2.2.2.1))).trans (hHeld.2.2.2.2.2.2.2.2.2.2.1)
   have HS11_ := (hb.cell (World.block_lt_of_cell? _ _ (hHeld.2.2.2.2.2.2.2.2.2.2.2.1))).trans (hHeld.2.2.2.2.2.2.2.2.2.2.2.1)
   have HS12_ := (hb.cell (World.block_lt_of_cell? _ _ (hHeld.2.2.2.2.2.2.2.2.2.2.2.2))).trans (hHeld.2.2.2.2.2.2.2.2.2.2.2.2)
   refine ⟨_, rfl, ?_⟩
   have n0_ := Aside0.mk (Kd.V_below (vd_to HO_4) hb)
   have n1_ := Aside0.mk (Kd.V_below (vd_to HO_47) hb)
   have n2_ := Aside0.mk (Kd.V_below (vd_to HL235_0) hb)
   have n3_ := Aside0.mk (Kd.R_below (kd_to HO239) hb)
   have n4_ := Aside0.mk (blk_below (blk_to BK223) hb)
   have n5_ := Aside0.mk (blk_below (blk_to BK224) hb)
   have n6_ := Aside0.mk (Kd.C_below (by repeat (first | (with_reducible exact HR235_0.out) | (with_reducible refine Kd.C_alloc ?_ _) | (with_reducible refine Kd.C_drewN ?_ _) | (with_reducible refine Kd.C_drew ?_) | exact HR235_0.out)) hb)
   have n7_ := Aside0.mk (below_step (below_to2 HB GE223.out GE224.out) hb)
   clear HO_4
   clear HO_47
   clear HL235_0
   clear HO239
   clear BK223
   clear BK224
   clear HR235_0
   clear HB
   have HO_4 := n0_
   have HO_47 := n1_
   have HL235_0 := n2_
   have HO239 := n3_
   have BK223 := n4_
   have BK224 := n5_
   have HR235_0 := n6_
   have HB := n7_
   clear n0_ n1_ n2_ n3_ n4_ n5_ n6_ n7_
   (try clear hb)
   (try clear hb2)
   (try clear hk)
   (try clear hi)
   have p241 : 0 ≤ (1 : Int) := (by omega)
   have q241 : 1 < ((rd_L1 l4 x49_2).length : Int) := odt_
   obtain ⟨ad241, e241, hx241_0⟩ := Kd.at_int (by repeat (first | (with_reducible exact HR235_0.out) | (with_reducible refine Kd.C_alloc ?_ _) | (with_reducible refine Kd.C_drewN ?_ _) | (with_reducible refine Kd.C_drew ?_) | exact HR235_0.out)) 1 p241 q241
   obtain rfl : ad236 = ad241 := (by injection e241)
   (try simp only [show (1 : Int).toNat = 1 from rfl, Nat.reduceMul, Nat.reduceEqDiff, Go.Addr.add, ↓reduceIte] at hx241_0)
   have qi241 : (1 < (rd_L1 l4 x49_2).length) = True := eq_true (by omega)
   (try rw [show ((1 : Int)).toNat = 1 from rfl] at hx241_0)
   replace p241 := eq_true p241
   replace q241 := eq_true q241
   refine hK.out _ _ ⟨(blk_cell BK223.out 0).trans rfl, (blk_cell BK223.out 1).trans rfl, (blk_cell BK223.out 2).trans rfl, (blk_cell BK223.out 3).trans rfl, (blk_cell BK224.out 0).trans rfl, (blk_cell BK224.out 1).trans rfl, (blk_cell BK224.out 2).trans rfl, (blk_cell BK224.out 3).trans rfl, HS8_, HS9_, HS10_, HS11_, HS12_⟩ (fun hHeld => ?_)
   clear hK K
   refine norm_ (a' := ?_) ?_ ?_
   rotate_left
   ·show Act.put _ (some 62) _ = _
    simp only [Act.put, List.setIfInBounds_toArray, List.set_cons_zero, List.set_cons_succ, i64_w, i32_w]
    rfl
   refine purS_ (i := 10) (N := some 63) (fl_ 42 11) HT_.out ?_
   refine purS_ (i := 11) (N := some 64) (fl_ 42 12) HT_.out ?_
   refine purS_ (i := 12) (N := some 65) (fl_ 42 13) HT_.out ?_
   refine purS_ (i := 14) (N := some 67) (fr_ [13, 1, 1, 27]) HT_.out ?_
   refine purS_ (i := 15) (N := some 68) (fr_ [13, 1, 2, 26]) HT_.out ?_
   refine take_ (i := 13) (N := some 66) (v := ?_) (a' := ?_) (fr_ [16, 26]) rfl rfl (take_ofW HT_.out HW_.out (by kernel_rfl)) (fun _ _ _ h => h) (Or.inl ⟨by rfl, ?_⟩) hHeld ?_ ?_
   rotate_left
   ·rintro w' ⟨s0, s1, s2, s3, s4, s5, s6, s7, s8, s9, s10, s11, s12⟩
    go_simp
    with_reducible rfl
   rotate_left
   ·simp only [Act.put, List.setIfInBounds_toArray, List.set_cons_zero, List.set_cons_succ, i64_w, i32_w]
    rfl
   refine take_ (i := 16) (N := some 69) (v := ?_) (a' := ?_) (fr_ [17, 25]) rfl rfl (take_ofW HT_.out HW_.out (by kernel_rfl)) (fun _ _ _ h => h) (Or.inl ⟨by rfl, ?_⟩) hHeld ?_ ?_
   rotate_left
   ·rintro w' ⟨s0, s1, s2, s3, s4, s5, s6, s7, s8, s9, s10, s11, s12⟩
    go_simp
    with_reducible rfl
   rotate_left
   ·simp only [Act.put, List.setIfInBounds_toArray, List.set_cons_zero, List.set_cons_succ, i64_w, i32_w]
    rfl
   refine one_ (i := 17) (N := some 70) (fr_ [18, 24]) rfl rfl (one_of HT_.out (by kernel_rfl)) (by decide) (fun K hK => ?_)
   refine Kd.R_lit_step (Kd.int .i64) _ 3 ?hg (N := 70) ?hd (xs := ([rd (rd_L1 l4 x49_2) 1] : List Int)) (inner := [.int .i64 (rd (rd_L1 l4 x49_2) 1)]) (ok := fun _ => True) (okp := fun _ => True) ?hr ?hp (fun _ hk => hk) trivial (Below.refl _ _) (Nat.le_refl _) (by simp) ?_; (case hd => rfl); (case hg => rfl); (case hr => first | (go_simp; done) | (go_simp; rfl)); (case hp => exact (Reps.one (show Kd.M (Kd.int .i64) _ _ _ (rd (rd_L1 l4 x49_2) 1) [.int .i64 (rd (rd_L1 l4 x49_2) 1)] from rfl) (Reps.none _ _)))
   intro v243 w95 ho96 hb hg_ hnew_
   have HS8_ := (hb.cell (World.block_lt_of_cell? _ _ (hHeld.2.2.2.2.2.2.2.2.1))).trans (hHeld.2.2.2.2.2.2.2.2.1)
   have HS9_ := (hb.cell (World.block_lt_of_cell? _ _ (hHeld.2.2.2.2.2.2.2.2.2.1))).trans (hHeld.2.2.2.2.2.2.2.2.2.1)
   have HS10_ := (hb.cell (World.block_lt_of_cell? _ _ (hHeld.2.2.2.2.2.2.2.2.2.2.1))).trans (hHeld.2.2.2.2.2.2.2.2.2.2.1)
   have HS11_ := (hb.cell (World.block_lt_of_cell? _ _ (hHeld.2.2.2.2.2.2.2.2.2.2.2.1))).trans (hHeld.2.2.2.2.2.2.2.2.2.2.2.1)
   have HS12_ := (hb.cell (World.block_lt_of_cell? _ _ (hHeld.2.2.2.2.2.2.2.2.2.2.2.2))).trans (hHeld.2.2.2.2.2.2.2.2.2.2.2.2)
   clear hg_ hnew_
   (first | rw [← Ny242.out] at ho96 | (simp only [Int.reduceToNat] at ho96; rw [← Ny242.out] at ho96))
   have n0_ := Aside0.mk (Kd.V_elder' (vd_to HO_4) (Kd.R_base ho96) hb)
   have n1_ := Aside0.mk (Kd.V_elder' (vd_to HO_47) (Kd.R_base ho96) hb)
   have n2_ := Aside0.mk (Kd.V_elder' (vd_to HL235_0) (Kd.R_base ho96) hb)
   have n3_ := Aside0.mk (Kd.R_elder' (kd_to HO239) (Kd.R_base ho96) hb)
   have n4_ := Aside0.mk (Kd.R_lower (Kd.R_new' (Kd.R_newM (M := fun k_ => (w.heap.size ≤ k_)) ho96 (below_size (below_to2 HB GE223.out GE224.out)) (fun k_ h_ => h_)) (Kd.R_lt (kd_to HO239))) (below_size (below_to2 HB GE223.out GE224.out)))
   have n5_ := Aside0.mk (blk_below (blk_to BK223) hb)
   have n6_ := Aside0.mk (blk_below (blk_to BK224) hb)
   have n7_ := Aside0.mk (Kd.C_below (by repeat (first | (with_reducible exact HR235_0.out) | (with_reducible refine Kd.C_alloc ?_ _) | (with_reducible refine Kd.C_drewN ?_ _) | (with_reducible refine Kd.C_drew ?_) | exact HR235_0.out)) hb)
   have n8_ := Aside0.mk (below_step (below_to2 HB GE223.out GE224.out) hb)
   clear HO_4
   clear HO_47
   clear HL235_0
   clear HO239
   clear BK223
   clear BK224
   clear HR235_0
   clear HB
   have HO_4 := n0_
   have HO_47 := n1_
   have HL235_0 := n2_
   have HO239 := n3_
   have HO244 := n4_
   have BK223 := n5_
   have BK224 := n6_
   have HR235_0 := n7_
   have HB := n8_
   clear n0_ n1_ n2_ n3_ n4_ n5_ n6_ n7_ n8_
   clear hb ho96
   obtain ⟨Ao97, co97, eo97⟩ := Kd.R_slice HO244.out
   (first | subst eo97 | (injection eo97 with f1_ f2_ f3_; have f4_ := f1_.symm; have f5_ := f3_.symm; clear f1_ f2_ f3_; subst f4_; subst f5_))
   refine hK.out _ _ ⟨(blk_cell BK223.out 0).trans rfl, (blk_cell BK223.out 1).trans rfl, (blk_cell BK223.out 2).trans rfl, (blk_cell BK223.out 3).trans rfl, (blk_cell BK224.out 0).trans rfl, (blk_cell BK224.out 1).trans rfl, (blk_cell BK224.out 2).trans rfl, (blk_cell BK224.out 3).trans rfl, HS8_, HS9_, HS10_, HS11_, HS12_⟩ (fun hHeld => ?_)
   clear hK K
   refine norm_ (a' := ?_) ?_ ?_
   rotate_left
   ·show Act.put _ (some 70) _ = _
    simp only [Act.put, List.setIfInBounds_toArray, List.set_cons_zero, List.set_cons_succ, i64_w, i32_w]
    rfl
   refine one_ (i := 18) (N := some 71) (fr_ [19, 23]) rfl rfl (one_of HT_.out (by kernel_rfl)) (by decide) (fun K hK => ?_)
   refine goes_ Try.func49 (by kernel_rfl) rfl #[.agg #[.int .i64 a2_0, .int .i64 a2_1, .int .i64 a2_2, .slice A2_3 l2_3.length c2_3], .slice Ao97 y242.length co97] (by rfl) rfl rfl am_ ?_
   with_reducible refine (impl_hasStops.calls k2 a2_0 a2_1 a2_2 _ _ l2_3 _ _ y242 true _ ?side1 ?side2 ?side3 ?side4 A65.out).mono ?_
   (case side1 => exact cb_ HR2_3 HB)
   (case side2 => exact HC2_3.out)
   (case side3 => exact cR_ HO244)
   (case side4 => exact (Kd.R_reads' HO244.out).2.1)
   rintro e w98 ⟨rfl, hb⟩
   have HS8_ := (hb.cell (World.block_lt_of_cell? _ _ (hHeld.2.2.2.2.2.2.2.2.1))).trans (hHeld.2.2.2.2.2.2.2.2.1)
   have HS9_ := (hb.cell (World.block_lt_of_cell? _ _ (hHeld.2.2.2.2.2.2.2.2.2.1))).trans (hHeld.2.2.2.2.2.2.2.2.2.1)
   have HS10_ := (hb.cell (World.block_lt_of_cell? _ _ (hHeld.2.2.2.2.2.2.2.2.2.2.1))).trans (hHeld.2.2.2.2.2.2.2.2.2.2.1)
   have HS11_ := (hb.cell (World.block_lt_of_cell? _ _ (hHeld.2.2.2.2.2.2.2.2.2.2.2.1))).trans (hHeld.2.2.2.2.2.2.2.2.2.2.2.1)
   have HS12_ := (hb.cell (World.block_lt_of_cell? _ _ (hHeld.2.2.2.2.2.2.2.2.2.2.2.2))).trans (hHeld.2.2.2.2.2.2.2.2.2.2.2.2)
   refine ⟨_, rfl, ?_⟩
   have n0_ := Aside0.mk (Kd.V_below (vd_to HO_4) hb)
   have n1_ := Aside0.mk (Kd.V_below (vd_to HO_47) hb)
   have n2_ := Aside0.mk (Kd.V_below (vd_to HL235_0) hb)
   have n3_ := Aside0.mk (Kd.R_below (kd_to HO239) hb)
   have n4_ := Aside0.mk (Kd.R_below (kd_to HO244) hb)
   have n5_ := Aside0.mk (blk_below (blk_to BK223) hb)
   have n6_ := Aside0.mk (blk_below (blk_to BK224) hb)
   have n7_ := Aside0.mk (Kd.C_below (by repeat (first | (with_reducible exact HR235_0.out) | (with_reducible refine Kd.C_alloc ?_ _) | (with_reducible refine Kd.C_drewN ?_ _) | (with_reducible refine Kd.C_drew ?_) | exact HR235_0.out)) hb)
   have n8_ := Aside0.mk (below_step (below_to2 HB GE223.out GE224.out) hb)
   clear HO_4
   clear HO_47
   clear HL235_0
   clear HO239
   clear HO244
   clear BK223
   clear BK224
   clear HR235_0
   clear HB
   have HO_4 := n0_
   have HO_47 := n1_
   have HL235_0 := n2_
   have HO239 := n3_
   have HO244 := n4_
   have BK223 := n5_
   have BK224 := n6_
   have HR235_0 := n7_
   have HB := n8_
   clear n0_ n1_ n2_ n3_ n4_ n5_ n6_ n7_ n8_
   (try clear hb)
   (try clear hb2)
   (try clear hk)
   (try clear hi)
   have p246 : 0 ≤ (0 : Int) := (by omega)
   have q246 : 0 < ((rd_L1 l4 x49_2).length : Int) := odt_
   obtain ⟨ad246, e246, hx246_0⟩ := Kd.at_int (by repeat (first | (with_reducible exact HR235_0.out) | (with_reducible refine Kd.C_alloc ?_ _) | (with_reducible refine Kd.C_drewN ?_ _) | (with_reducible refine Kd.C_drew ?_) | exact HR235_0.out)) 0 p246 q246
   obtain rfl : ad236 = ad246 := (by injection e246)
   have qi246 : (0 < (rd_L1 l4 x49_2).length) = True := eq_true (by omega)
   (try rw [show ((0 : Int)).toNat = 0 from rfl] at hx246_0)
   (try rw [Addr.add_zero'] at hx246_0)
   replace p246 := eq_true p246
   replace q246 := eq_true q246
   have p247 : 0 ≤ (1 : Int) := (by omega)
   have q247 : 1 < ((rd_L1 l4 x49_2).length : Int) := odt_
   obtain ⟨ad247, e247, hx247_0⟩ := Kd.at_int (by repeat (first | (with_reducible exact HR235_0.out) | (with_reducible refine Kd.C_alloc ?_ _) | (with_reducible refine Kd.C_drewN ?_ _) | (with_reducible refine Kd.C_drew ?_) | exact HR235_0.out)) 1 p247 q247
   obtain rfl : ad236 = ad247 := (by injection e247)
   (try simp only [show (1 : Int).toNat = 1 from rfl, Nat.reduceMul, Nat.reduceEqDiff, Go.Addr.add, ↓reduceIte] at hx247_0)
   have qi247 : (1 < (rd_L1 l4 x49_2).length) = True := eq_true (by omega)
   (try rw [show ((1 : Int)).toNat = 1 from rfl] at hx247_0)
   replace p247 := eq_true p247
   replace q247 := eq_true q247
   have p248 : 0 ≤ (2 : Int) := (by omega)
   have q248 : 2 < ((rd_L1 l4 x49_2).length : Int) := odt_
   obtain ⟨ad248, e248, hx248_0⟩ := Kd.at_int (by repeat (first | (with_reducible exact HR235_0.out) | (with_reducible refine Kd.C_alloc ?_ _) | (with_reducible refine Kd.C_drewN ?_ _) | (with_reducible refine Kd.C_drew ?_) | exact HR235_0.out)) 2 p248 q248
   obtain rfl : ad236 = ad248 := (by injection e248)
   (try simp only [show (2 : Int).toNat = 2 from rfl, Nat.reduceMul, Nat.reduceEqDiff, Go.Addr.add, ↓reduceIte] at hx248_0)
   have qi248 : (2 < (rd_L1 l4 x49_2).length) = True := eq_true (by omega)
   (try rw [show ((2 : Int)).toNat = 2 from rfl] at hx248_0)
   replace p248 := eq_true p248
   replace q248 := eq_true q248
   refine hK.out _ _ ⟨(blk_cell BK223.out 0).trans rfl, (blk_cell BK223.out 1).trans rfl, (blk_cell BK223.out 2).trans rfl, (blk_cell BK223.out 3).trans rfl, (blk_cell BK224.out 0).trans rfl, (blk_cell BK224.out 1).trans rfl, (blk_cell BK224.out 2).trans rfl, (blk_cell BK224.out 3).trans rfl, HS8_, HS9_, HS10_, HS11_, HS12_⟩ (fun hHeld => ?_)
   clear hK K
   refine norm_ (a' := ?_) ?_ ?_
   rotate_left
   ·show Act.put _ (some 71) _ = _
    simp only [Act.put, List.setIfInBounds_toArray, List.set_cons_zero, List.set_cons_succ, i64_w, i32_w]
    rfl
   refine purS_ (i := 19) (N := some 72) (fl_ 42 20) HT_.out ?_
   refine purS_ (i := 20) (N := some 73) (fl_ 42 21) HT_.out ?_
   refine purS_ (i := 21) (N := some 74) (fl_ 42 22) HT_.out ?_
   refine purS_ (i := 22) (N := some 75) (fl_ 42 23) HT_.out ?_
   refine purS_ (i := 23) (N := some 76) (fl_ 42 24) HT_.out ?_
   refine purS_ (i := 24) (N := some 77) (fl_ 42 25) HT_.out ?_
   refine take_ (i := 25) (N := some 78) (v := ?_) (a' := ?_) (fr_ [26, 16]) rfl rfl (take_ofW HT_.out HW_.out (by kernel_rfl)) (fun _ _ _ h => h) (Or.inl ⟨by rfl, ?_⟩) hHeld ?_ ?_
   rotate_left
   ·rintro w' ⟨s0, s1, s2, s3, s4, s5, s6, s7, s8, s9, s10, s11, s12⟩
    go_simp
    with_reducible rfl
   rotate_left
   ·simp only [Act.put, List.setIfInBounds_toArray, List.set_cons_zero, List.set_cons_succ, i64_w, i32_w]
    rfl
   refine purS_ (i := 26) (N := some 79) (fl_ 42 27) HT_.out ?_
   refine purS_ (i := 27) (N := some 80) (fl_ 42 28) HT_.out ?_
   refine purS_ (i := 28) (N := some 81) (fl_ 42 29) HT_.out ?_
   refine purS_ (i := 29) (N := some 82) (fl_ 42 30) HT_.out ?_
   refine purS_ (i := 30) (N := some 83) (fl_ 42 31) HT_.out ?_
   refine purS_ (i := 32) (N := some 85) (fr_ [31, 1, 1, 9]) HT_.out ?_
   refine take_ (i := 31) (N := some 84) (v := ?_) (a' := ?_) (fr_ [33, 9]) rfl rfl (take_ofW HT_.out HW_.out (by kernel_rfl)) (fun _ _ _ h => h) (Or.inl ⟨by rfl, ?_⟩) hHeld ?_ ?_
   rotate_left
   ·rintro w' ⟨s0, s1, s2, s3, s4, s5, s6, s7, s8, s9, s10, s11, s12⟩
    go_simp
    with_reducible rfl
   rotate_left
   ·simp only [Act.put, List.setIfInBounds_toArray, List.set_cons_zero, List.set_cons_succ, i64_w, i32_w]
    rfl
   refine purS_ (i := 33) (N := some 86) (fl_ 42 34) HT_.out ?_
   refine purS_ (i := 34) (N := some 87) (fl_ 42 35) HT_.out ?_
   refine purS_ (i := 35) (N := some 88) (fl_ 42 36) HT_.out ?_
   refine purS_ (i := 36) (N := some 89) (fl_ 42 37) HT_.out ?_
   refine purS_ (i := 37) (N := some 90) (fl_ 42 38) HT_.out ?_
   refine take_ (i := 38) (N := some 91) (v := ?_) (a' := ?_) (fr_ [39, 3]) rfl rfl (take_ofW HT_.out HW_.out (by kernel_rfl)) (fun _ _ _ h => h) (Or.inl ⟨by rfl, ?_⟩) hHeld ?_ ?_
   rotate_left
   ·rintro w' ⟨s0, s1, s2, s3, s4, s5, s6, s7, s8, s9, s10, s11, s12⟩
    go_simp
    with_reducible rfl
   rotate_left
   ·simp only [Act.put, List.setIfInBounds_toArray, List.set_cons_zero, List.set_cons_succ, i64_w, i32_w]
    rfl
   refine one_ (i := 39) (N := some 92) (fr_ [40, 2]) rfl rfl (one_of HT_.out (by kernel_rfl)) (by decide) (fun K hK => ?_)
   refine goes_ Try.func52 (by kernel_rfl) rfl #[.int .i64 (rd (rd_L1 l4 x49_2) 2)] (by rfl) rfl rfl am_ ?_
   with_reducible refine (impl_isWalk.calls (rd (rd_L1 l4 x49_2) 2) true _ A88.out).mono ?_
   rintro e w' ⟨rfl, ⟨nd, rfl⟩⟩
   refine ⟨_, rfl, ?_⟩
   refine hK.out _ _ ⟨(blk_cell BK223.out 0).trans rfl, (blk_cell BK223.out 1).trans rfl, (blk_cell BK223.out 2).trans rfl, (blk_cell BK223.out 3).trans rfl, (blk_cell BK224.out 0).trans rfl, (blk_cell BK224.out 1).trans rfl, (blk_cell BK224.out 2).trans rfl, (blk_cell BK224.out 3).trans rfl, hHeld.2.2.2.2.2.2.2.2.1, hHeld.2.2.2.2.2.2.2.2.2.1, hHeld.2.2.2.2.2.2.2.2.2.2.1, hHeld.2.2.2.2.2.2.2.2.2.2.2.1, hHeld.2.2.2.2.2.2.2.2.2.2.2.2⟩ (fun hHeld => ?_)
   clear hK K
   refine norm_ (a' := ?_) ?_ ?_
   rotate_left
   ·show Act.put _ (some 92) _ = _
    simp only [Act.put, List.setIfInBounds_toArray, List.set_cons_zero, List.set_cons_succ, i64_w, i32_w]
    rfl
   refine purS_ (i := 40) (N := some 93) (fl_ 42 41) HT_.out ?_
   refine purS_ (i := 41) (N := some 94) (fl_ 42 42) HT_.out ?_
   refine done_ (done_of HT_.out (by kernel_rfl)) ?_
   try go_wp2
   go_roundg k2
   case measure => have := HJ6.out; have := HK2.out; omega
   case rel => exact ⟨(wrap64 (x49_2 + 1)), rt_, H', ⟨by have := HJ6.out; have := HK2.out; omega⟩, ⟨by (with_reducible repeat (first | apply Kd.V_alloc | apply Kd.V_drewN | apply Kd.V_drew)); exact Kd.V_mono HO_4.out (fun _ hk => ⟨hk.1.1.1, ⟨hk.1.1.2.1, hk.1.1.2.2⟩⟩)⟩, ⟨by (with_reducible repeat (first | apply Kd.V_alloc | apply Kd.V_drewN | apply Kd.V_drew)); exact Kd.V_mono HO_47.out (fun _ hk => ⟨hk.1.1.1, ⟨hk.1.1.2.1, hk.1.1.2.2⟩⟩)⟩, ⟨blk_to BK223⟩, ⟨blk_to BK224⟩, ⟨below_to2 HB GE223.out GE224.out⟩⟩
end Go.Proofs.Ythdnodmidbcgpaa.QC
