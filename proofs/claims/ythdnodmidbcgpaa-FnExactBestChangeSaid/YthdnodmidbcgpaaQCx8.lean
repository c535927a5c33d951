import Derived.Test.YthdnodmidbcgpaaQCx0
import Derived.Test.YthdnodmidbcgpaaQCx1
import Derived.Test.YthdnodmidbcgpaaQCx3
import Derived.Test.YthdnodmidbcgpaaQCx4
import Derived.Test.YthdnodmidbcgpaaQCx6
import Derived.Test.YthdnodmidbcgpaaQCx7
import Derived.Test.YthdnodmidbcgpaaXWalk
namespace Go.Proofs.Ythdnodmidbcgpaa.QC
open Go.Proofs.Ythdnodmidbcgpaa.X Go.RowKit Go.Proofs.YthdnodmidbcgpaaW.PrintWords Go.Proofs.YthdnodmidbcgpaaW.PrintLast Go.Proofs.YthdnodmidbcgpaaW.PrintMore
attribute [local go_sem] max2_int min2_int max_two min_two max_three min_three max_four min_four
set_option linter.unusedVariables false
set_option linter.unusedSimpArgs false
def lw_.f (k : Nat) (a0_0 : Int) (a0_1 : Int) (a0_2 : Int) (l0_3 : List Int) (a1 : Int) (a2_0 : Int) (a2_1 : Int) (a2_2 : Int) (l2_3 : List Int) (a3 : Int) (l4 : List (List Int)) (a5 : Int) : Option (Bool) :=
 (laws_szLine.f a0_0 a0_1 a0_2 l0_3 1048576).bind fun s1 => if s1 < 0 then (some true) else (laws_szLine.f a2_0 a2_1 a2_2 l2_3 s1).bind fun s2 => if s2 < 0 then (some true) else (laws_szIntSS.f k l4 s2).bind fun s3 => if s3 < 0 then (some true) else (laws_toLine.f k a0_0 a0_1 a0_2 l0_3).bind fun x1 => (laws_toLine.f k a2_0 a2_1 a2_2 l2_3).bind fun x2 => (laws_toIntSS.f k l4).bind fun x3 => (spec_BestChange.f k x1.1 x1.2.1 x1.2.2.1 x1.2.2.2 a1 x2.1 x2.2.1 x2.2.2.1 x2.2.2.2 a3 x3 a5).bind fun w1 => (impl_BestChange.f k x1.1 x1.2.1 x1.2.2.1 x1.2.2.2 a1 x2.1 x2.2.1 x2.2.2.1 x2.2.2.2 a3 x3 a5).bind fun g1 => if g1 = w1 then (laws_eqIntS.f k w1.1 w1.1).bind fun t1 => if t1 = true then (laws_eqLine.f k x1.1 x1.2.1 x1.2.2.1 x1.2.2.2 x1.1 x1.2.1 x1.2.2.1 x1.2.2.2).bind fun t2 => if t2 = true then (laws_eqLine.f k x2.1 x2.2.1 x2.2.2.1 x2.2.2.2 x2.1 x2.2.1 x2.2.2.1 x2.2.2.2).bind fun t3 => if t3 = true then (laws_eqIntSS.f k x3 x3).bind fun t4 => if t4 = true then (laws_markLine.f k x1.1 x1.2.1 x1.2.2.1 x1.2.2.2 1).bind fun m1 => (laws_markLine.f k x2.1 x2.2.1 x2.2.2.1 x2.2.2.2 m1.1).bind fun m2 => (laws_markIntSS.f k x3 m2.1).bind fun m3 => if 0 ≤ m3.1 then (laws_markIntS.f k w1.1 1).bind fun m4 => if 0 ≤ m4.1 then (laws_heldIntS.f k m4.2 1).bind fun h2 => if h2 = m4.1 then some true else none else none else none else none else none else none else none else none
def lw_.T11 : Bool × List (List Nat × List Nat) := (true, [([], []), ([0], [0]), ([], []), ([], []), ([3, 1], [3]), ([], []), ([], []), ([6, 4], [6]), ([], []), ([1, 2, 4, 5, 7, 8, 7], [1, 2, 4, 5, 7, 8]), ([9], [9]), ([10], [10]), ([10], [10]), ([10], [10]), ([11, 9, 0, 1, 2, 3, 4, 5, 6, 7, 8, 9, 10, 11], [11]), ([12, 14, 0, 1, 2, 3, 4, 5, 6, 7, 8, 9, 10, 11, 12, 14], [12]), ([13, 15, 0, 1, 2, 3, 4, 5, 6, 7, 8, 9, 10, 11, 12, 13, 14, 15], [13])])
def lw_.B11 : List Nat := [0, 1, 0, 0, 11, 0, 0, 91, 0, 511, 1023, 2047, 2047, 2047, 4095, 24575, 65535]
theorem lw_.tab11 : rtab .any (opsOf Try.f3 11) = lw_.T11 := by kernel_rfl
theorem lw_.bits11 : waitsOk lw_.T11.2 lw_.B11 = true := by kernel_rfl
def lw_.T18 : Bool × List (List Nat × List Nat) := (true, [([], []), ([], []), ([1], [1]), ([0, 2, 2], [0, 2]), ([3], [3])])
def lw_.B18 : List Nat := [0, 0, 2, 7, 15]
theorem lw_.tab18 : rtab .any (opsOf Try.f3 18) = lw_.T18 := by kernel_rfl
theorem lw_.bits18 : waitsOk lw_.T18.2 lw_.B18 = true := by kernel_rfl
def lw_.T20 : Bool × List (List Nat × List Nat) := (true, [([], []), ([], []), ([1], [1]), ([0, 2, 2], [0, 2]), ([3], [3])])
def lw_.B20 : List Nat := [0, 0, 2, 7, 15]
theorem lw_.tab20 : rtab .any (opsOf Try.f3 20) = lw_.T20 := by kernel_rfl
theorem lw_.bits20 : waitsOk lw_.T20.2 lw_.B20 = true := by kernel_rfl
def lw_.T38 : Bool × List (List Nat × List Nat) := (true, [([], []), ([0], [0]), ([], []), ([], []), ([3, 1], [3]), ([], []), ([], []), ([6, 4], [6]), ([], []), ([1, 2, 4, 5, 7, 8, 7], [1, 2, 4, 5, 7, 8]), ([9], [9]), ([10], [10]), ([10], [10]), ([10], [10]), ([11, 9, 0, 1, 2, 3, 4, 5, 6, 7, 8, 9, 10, 11], [11]), ([12, 14, 0, 1, 2, 3, 4, 5, 6, 7, 8, 9, 10, 11, 12, 14], [12]), ([13, 15, 0, 1, 2, 3, 4, 5, 6, 7, 8, 9, 10, 11, 12, 13, 14, 15], [13])])
def lw_.B38 : List Nat := [0, 1, 0, 0, 11, 0, 0, 91, 0, 511, 1023, 2047, 2047, 2047, 4095, 24575, 65535]
theorem lw_.tab38 : rtab .any (opsOf Try.f3 38) = lw_.T38 := by kernel_rfl
theorem lw_.bits38 : waitsOk lw_.T38.2 lw_.B38 = true := by kernel_rfl
set_option maxHeartbeats 8000000 in
set_option maxRecDepth 100000 in
theorem lw_.calls (k : Nat) (a0_0 : Int) (a0_1 : Int) (a0_2 : Int) (A0_3 : Option Addr) (c0_3 : Nat) (l0_3 : List Int) (a1 : Int) (a2_0 : Int) (a2_1 : Int) (a2_2 : Int) (A2_3 : Option Addr) (c2_3 : Nat) (l2_3 : List Int) (a3 : Int) (A4 : Option Addr) (c4 : Nat) (l4 : List (List Int)) (a5 : Int) (r : Bool) (w : World) (hr0_3 : Kd.C (Kd.int .i64) w A0_3 l0_3.length l0_3) (hc0_3 : l0_3.length ≤ c0_3) (hr2_3 : Kd.C (Kd.int .i64) w A2_3 l2_3.length l2_3) (hc2_3 : l2_3.length ≤ c2_3) (hr4 : Kd.C (Kd.slice 3 (Kd.int .i64)) w A4 l4.length l4) (hc4 : l4.length ≤ c4) (h : lw_.f k a0_0 a0_1 a0_2 l0_3 a1 a2_0 a2_1 a2_2 l2_3 a3 l4 a5 = some r) :
  Calls Try.prog 3 #[.agg #[.int .i64 a0_0, .int .i64 a0_1, .int .i64 a0_2, .slice A0_3 l0_3.length c0_3], .int .i64 a1, .agg #[.int .i64 a2_0, .int .i64 a2_1, .int .i64 a2_2, .slice A2_3 l2_3.length c2_3], .int .i64 a3, .slice A4 l4.length c4, .int .i64 a5] w fun e w' => e = .returned (.bool r) ∧ Below w.heap.size w w' := by
 have HR0_3 := Aside0.mk hr0_3
 have HC0_3 := Aside0.mk hc0_3
 have HR2_3 := Aside0.mk hr2_3
 have HC2_3 := Aside0.mk hc2_3
 have HR4 := Aside0.mk hr4
 have HC4 := Aside0.mk hc4
 clear hr0_3 hc0_3 hr2_3 hc2_3 hr4 hc4
 have HB := Aside0.mk (Below.refl w.heap.size w)
 unfold lw_.f at h
 obtain ⟨s1, F1, h⟩ := Option.bind_eq_some_iff.mp h
 (try dsimp only at h)
 replace F1 := Aside0.mk F1
 by_cases cs_ : s1 < 0
 ·rw [if_pos cs_] at h
  obtain rfl := Option.some.inj h
  have b1 : decide (s1 < 0) = true := decide_eq_true cs_
  clear cs_ h
  go_enter Try.func3, Try.ntmps3
  go_wp2_with (first | ((with_reducible refine gate_dst (N := 6) rfl ?_); refine box_event ?hg (N := 6) ?hd (cs := #[.int .i64 a0_0, .int .i64 a0_1, .int .i64 a0_2, .slice A0_3 l0_3.length c0_3]) (t := 24) ?hr ?_; (case hd => rfl); (case hg => rfl); (case hr => first | (go_simp; done) | (go_simp; rfl)); intro gbP hg W1_ hbox hb; have hup := Go.Proofs.Ythdnodmidbcgpaa.XWalk.upB (wp := w) hb (by repeat (first | (with_reducible first | exact Below.refl _ _ | apply below_alloc | apply pw_below_drewN | apply below_drew1) | exact Below.refl _ _)); have hz_P := Aside0.mk (show (gbP + 1) ≤ W1_.heap.size from blk_lt hbox); have GEP := Aside0.mk (show w.heap.size ≤ gbP from by rw [hg]; exact below_size (below_to HB)); have nb_ := Aside0.mk (below_step (below_to HB) hb); clear HB; have HB := nb_; clear nb_; have BKP := Aside0.mk hbox; clear hb hup hg hbox; (try clear hczP_0 hczP_1 hczP_2 hczP_3 hfzP_0 hfzP_1 hfzP_2 hfzP_3); have hczP_0 : W1_.cell? ⟨gbP, 0, none⟩ = some (.int .i64 a0_0) := (blk_cell BKP.out 0).trans rfl; have hczP_1 : W1_.cell? ⟨gbP, 1, none⟩ = some (.int .i64 a0_1) := (blk_cell BKP.out 1).trans rfl; have hczP_2 : W1_.cell? ⟨gbP, 2, none⟩ = some (.int .i64 a0_2) := (blk_cell BKP.out 2).trans rfl; have hczP_3 : W1_.cell? ⟨gbP, 3, none⟩ = some (.slice A0_3 l0_3.length c0_3) := (blk_cell BKP.out 3).trans rfl; have hfzP_0 := blk_frozen BKP.out 0; have hfzP_1 := blk_frozen BKP.out 1; have hfzP_2 := blk_frozen BKP.out 2; have hfzP_3 := blk_frozen BKP.out 3) | ((with_reducible refine gate_dst (N := 8) rfl ?_); refine box_event ?hg (N := 8) ?hd (cs := #[.int .i64 a2_0, .int .i64 a2_1, .int .i64 a2_2, .slice A2_3 l2_3.length c2_3]) (t := 24) ?hr ?_; (case hd => rfl); (case hg => rfl); (case hr => first | (go_simp; done) | (go_simp; rfl)); intro gbQ hg W2_ hbox hb; have hup := Go.Proofs.Ythdnodmidbcgpaa.XWalk.upB (wp := W1_) hb (by repeat (first | (with_reducible first | exact Below.refl _ _ | apply below_alloc | apply pw_below_drewN | apply below_drew1) | exact Below.refl _ _)); have ord_P_Q := Aside0.mk (show (gbP + 1) ≤ gbQ from by rw [hg]; exact Nat.le_trans hz_P.out hup.1); have hz_Q := Aside0.mk (show (gbQ + 1) ≤ W2_.heap.size from blk_lt hbox); have GEQ := Aside0.mk (show w.heap.size ≤ gbQ from by rw [hg]; exact below_size (below_to HB)); have n0_ := Aside0.mk (blk_below (blk_to BKP) hb); have n1_ := Aside0.mk (Nat.le_trans hz_P.out (Nat.le_trans hup.1 hup.2)); have nb_ := Aside0.mk (below_step (below_to HB) hb); clear BKP hz_P HB; have BKP := n0_; have hz_P := n1_; have HB := nb_; clear n0_ n1_ nb_; have BKQ := Aside0.mk hbox; clear hb hup hg hbox; (try clear hczP_0 hczP_1 hczP_2 hczP_3 hfzP_0 hfzP_1 hfzP_2 hfzP_3); have hczP_0 : W2_.cell? ⟨gbP, 0, none⟩ = some (.int .i64 a0_0) := (blk_cell BKP.out 0).trans rfl; have hczP_1 : W2_.cell? ⟨gbP, 1, none⟩ = some (.int .i64 a0_1) := (blk_cell BKP.out 1).trans rfl; have hczP_2 : W2_.cell? ⟨gbP, 2, none⟩ = some (.int .i64 a0_2) := (blk_cell BKP.out 2).trans rfl; have hczP_3 : W2_.cell? ⟨gbP, 3, none⟩ = some (.slice A0_3 l0_3.length c0_3) := (blk_cell BKP.out 3).trans rfl; have hfzP_0 := blk_frozen BKP.out 0; have hfzP_1 := blk_frozen BKP.out 1; have hfzP_2 := blk_frozen BKP.out 2; have hfzP_3 := blk_frozen BKP.out 3; (try clear hczQ_0 hczQ_1 hczQ_2 hczQ_3 hfzQ_0 hfzQ_1 hfzQ_2 hfzQ_3); have hczQ_0 : W2_.cell? ⟨gbQ, 0, none⟩ = some (.int .i64 a2_0) := (blk_cell BKQ.out 0).trans rfl; have hczQ_1 : W2_.cell? ⟨gbQ, 1, none⟩ = some (.int .i64 a2_1) := (blk_cell BKQ.out 1).trans rfl; have hczQ_2 : W2_.cell? ⟨gbQ, 2, none⟩ = some (.int .i64 a2_2) := (blk_cell BKQ.out 2).trans rfl; have hczQ_3 : W2_.cell? ⟨gbQ, 3, none⟩ = some (.slice A2_3 l2_3.length c2_3) := (blk_cell BKQ.out 3).trans rfl; have hfzQ_0 := blk_frozen BKQ.out 0; have hfzQ_1 := blk_frozen BKQ.out 1; have hfzQ_2 := blk_frozen BKQ.out 2; have hfzQ_3 := blk_frozen BKQ.out 3) | ((with_reducible refine gate_callee (f := 5) rfl ?_); refine goesL_ (some 31) rfl rfl Try.func5 (by kernel_rfl) rfl #[.agg #[.int .i64 a0_0, .int .i64 a0_1, .int .i64 a0_2, .slice A0_3 l0_3.length c0_3], .int .i64 1048576] rfl am_ ?_; (with_reducible refine (laws_szLine.calls a0_0 a0_1 a0_2 _ _ l0_3 1048576 s1 _ ?side1 ?side2 F1.out).mono ?_); (case side1 => exact cb_ HR0_3 HB); (case side2 => exact HC0_3.out); rintro e W3_ ⟨rfl, hb⟩; refine ⟨_, rfl, ?_⟩; have hup := Go.Proofs.Ythdnodmidbcgpaa.XWalk.upB (wp := W2_) hb (by repeat (first | (with_reducible first | exact Below.refl _ _ | apply below_alloc | apply pw_below_drewN | apply below_drew1) | exact Below.refl _ _)); have n0_ := Aside0.mk (blk_below (blk_to BKP) hb); have n1_ := Aside0.mk (Nat.le_trans hz_P.out (Nat.le_trans hup.1 hup.2)); have n2_ := Aside0.mk (blk_below (blk_to BKQ) hb); have n3_ := Aside0.mk (Nat.le_trans hz_Q.out (Nat.le_trans hup.1 hup.2)); have nb_ := Aside0.mk (below_step (below_to HB) hb); clear BKP hz_P BKQ hz_Q HB; have BKP := n0_; have hz_P := n1_; have BKQ := n2_; have hz_Q := n3_; have HB := nb_; clear n0_ n1_ n2_ n3_ nb_; clear hb hup; (try clear hczP_0 hczP_1 hczP_2 hczP_3 hfzP_0 hfzP_1 hfzP_2 hfzP_3); have hczP_0 : W3_.cell? ⟨gbP, 0, none⟩ = some (.int .i64 a0_0) := (blk_cell BKP.out 0).trans rfl; have hczP_1 : W3_.cell? ⟨gbP, 1, none⟩ = some (.int .i64 a0_1) := (blk_cell BKP.out 1).trans rfl; have hczP_2 : W3_.cell? ⟨gbP, 2, none⟩ = some (.int .i64 a0_2) := (blk_cell BKP.out 2).trans rfl; have hczP_3 : W3_.cell? ⟨gbP, 3, none⟩ = some (.slice A0_3 l0_3.length c0_3) := (blk_cell BKP.out 3).trans rfl; have hfzP_0 := blk_frozen BKP.out 0; have hfzP_1 := blk_frozen BKP.out 1; have hfzP_2 := blk_frozen BKP.out 2; have hfzP_3 := blk_frozen BKP.out 3; (try clear hczQ_0 hczQ_1 hczQ_2 hczQ_3 hfzQ_0 hfzQ_1 hfzQ_2 hfzQ_3); have hczQ_0 : W3_.cell? ⟨gbQ, 0, none⟩ = some (.int .i64 a2_0) := (blk_cell BKQ.out 0).trans rfl; have hczQ_1 : W3_.cell? ⟨gbQ, 1, none⟩ = some (.int .i64 a2_1) := (blk_cell BKQ.out 1).trans rfl; have hczQ_2 : W3_.cell? ⟨gbQ, 2, none⟩ = some (.int .i64 a2_2) := (blk_cell BKQ.out 2).trans rfl; have hczQ_3 : W3_.cell? ⟨gbQ, 3, none⟩ = some (.slice A2_3 l2_3.length c2_3) := (blk_cell BKQ.out 3).trans rfl; have hfzQ_0 := blk_frozen BKQ.out 0; have hfzQ_1 := blk_frozen BKQ.out 1; have hfzQ_2 := blk_frozen BKQ.out 2; have hfzQ_3 := blk_frozen BKQ.out 3))
  go_ret
  exact ⟨rt_, below_to HB⟩
 rw [if_neg cs_] at h
 have b1 : decide (s1 < 0) = false := decide_eq_false cs_
 clear cs_
 obtain ⟨s2, F2, h⟩ := Option.bind_eq_some_iff.mp h
 (try dsimp only at h)
 replace F2 := Aside0.mk F2
 by_cases cs_ : s2 < 0
 ·rw [if_pos cs_] at h
  obtain rfl := Option.some.inj h
  have b2 : decide (s2 < 0) = true := decide_eq_true cs_
  clear cs_ h
  go_enter Try.func3, Try.ntmps3
  go_wp2_with (first | ((with_reducible refine gate_dst (N := 6) rfl ?_); refine box_event ?hg (N := 6) ?hd (cs := #[.int .i64 a0_0, .int .i64 a0_1, .int .i64 a0_2, .slice A0_3 l0_3.length c0_3]) (t := 24) ?hr ?_; (case hd => rfl); (case hg => rfl); (case hr => first | (go_simp; done) | (go_simp; rfl)); intro gbP hg W1_ hbox hb; have hup := Go.Proofs.Ythdnodmidbcgpaa.XWalk.upB (wp := w) hb (by repeat (first | (with_reducible first | exact Below.refl _ _ | apply below_alloc | apply pw_below_drewN | apply below_drew1) | exact Below.refl _ _)); have hz_P := Aside0.mk (show (gbP + 1) ≤ W1_.heap.size from blk_lt hbox); have GEP := Aside0.mk (show w.heap.size ≤ gbP from by rw [hg]; exact below_size (below_to HB)); have nb_ := Aside0.mk (below_step (below_to HB) hb); clear HB; have HB := nb_; clear nb_; have BKP := Aside0.mk hbox; clear hb hup hg hbox; (try clear hczP_0 hczP_1 hczP_2 hczP_3 hfzP_0 hfzP_1 hfzP_2 hfzP_3); have hczP_0 : W1_.cell? ⟨gbP, 0, none⟩ = some (.int .i64 a0_0) := (blk_cell BKP.out 0).trans rfl; have hczP_1 : W1_.cell? ⟨gbP, 1, none⟩ = some (.int .i64 a0_1) := (blk_cell BKP.out 1).trans rfl; have hczP_2 : W1_.cell? ⟨gbP, 2, none⟩ = some (.int .i64 a0_2) := (blk_cell BKP.out 2).trans rfl; have hczP_3 : W1_.cell? ⟨gbP, 3, none⟩ = some (.slice A0_3 l0_3.length c0_3) := (blk_cell BKP.out 3).trans rfl; have hfzP_0 := blk_frozen BKP.out 0; have hfzP_1 := blk_frozen BKP.out 1; have hfzP_2 := blk_frozen BKP.out 2; have hfzP_3 := blk_frozen BKP.out 3) | ((with_reducible refine gate_dst (N := 8) rfl ?_); refine box_event ?hg (N := 8) ?hd (cs := #[.int .i64 a2_0, .int .i64 a2_1, .int .i64 a2_2, .slice A2_3 l2_3.length c2_3]) (t := 24) ?hr ?_; (case hd => rfl); (case hg => rfl); (case hr => first | (go_simp; done) | (go_simp; rfl)); intro gbQ hg W2_ hbox hb; have hup := Go.Proofs.Ythdnodmidbcgpaa.XWalk.upB (wp := W1_) hb (by repeat (first | (with_reducible first | exact Below.refl _ _ | apply below_alloc | apply pw_below_drewN | apply below_drew1) | exact Below.refl _ _)); have ord_P_Q := Aside0.mk (show (gbP + 1) ≤ gbQ from by rw [hg]; exact Nat.le_trans hz_P.out hup.1); have hz_Q := Aside0.mk (show (gbQ + 1) ≤ W2_.heap.size from blk_lt hbox); have GEQ := Aside0.mk (show w.heap.size ≤ gbQ from by rw [hg]; exact below_size (below_to HB)); have n0_ := Aside0.mk (blk_below (blk_to BKP) hb); have n1_ := Aside0.mk (Nat.le_trans hz_P.out (Nat.le_trans hup.1 hup.2)); have nb_ := Aside0.mk (below_step (below_to HB) hb); clear BKP hz_P HB; have BKP := n0_; have hz_P := n1_; have HB := nb_; clear n0_ n1_ nb_; have BKQ := Aside0.mk hbox; clear hb hup hg hbox; (try clear hczP_0 hczP_1 hczP_2 hczP_3 hfzP_0 hfzP_1 hfzP_2 hfzP_3); have hczP_0 : W2_.cell? ⟨gbP, 0, none⟩ = some (.int .i64 a0_0) := (blk_cell BKP.out 0).trans rfl; have hczP_1 : W2_.cell? ⟨gbP, 1, none⟩ = some (.int .i64 a0_1) := (blk_cell BKP.out 1).trans rfl; have hczP_2 : W2_.cell? ⟨gbP, 2, none⟩ = some (.int .i64 a0_2) := (blk_cell BKP.out 2).trans rfl; have hczP_3 : W2_.cell? ⟨gbP, 3, none⟩ = some (.slice A0_3 l0_3.length c0_3) := (blk_cell BKP.out 3).trans rfl; have hfzP_0 := blk_frozen BKP.out 0; have hfzP_1 := blk_frozen BKP.out 1; have hfzP_2 := blk_frozen BKP.out 2; have hfzP_3 := blk_frozen BKP.out 3; (try clear hczQ_0 hczQ_1 hczQ_2 hczQ_3 hfzQ_0 hfzQ_1 hfzQ_2 hfzQ_3); have hczQ_0 : W2_.cell? ⟨gbQ, 0, none⟩ = some (.int .i64 a2_0) := (blk_cell BKQ.out 0).trans rfl; have hczQ_1 : W2_.cell? ⟨gbQ, 1, none⟩ = some (.int .i64 a2_1) := (blk_cell BKQ.out 1).trans rfl; have hczQ_2 : W2_.cell? ⟨gbQ, 2, none⟩ = some (.int .i64 a2_2) := (blk_cell BKQ.out 2).trans rfl; have hczQ_3 : W2_.cell? ⟨gbQ, 3, none⟩ = some (.slice A2_3 l2_3.length c2_3) := (blk_cell BKQ.out 3).trans rfl; have hfzQ_0 := blk_frozen BKQ.out 0; have hfzQ_1 := blk_frozen BKQ.out 1; have hfzQ_2 := blk_frozen BKQ.out 2; have hfzQ_3 := blk_frozen BKQ.out 3) | ((with_reducible refine gate_callee (f := 5) rfl ?_); refine goesL_ (some 31) rfl rfl Try.func5 (by kernel_rfl) rfl #[.agg #[.int .i64 a0_0, .int .i64 a0_1, .int .i64 a0_2, .slice A0_3 l0_3.length c0_3], .int .i64 1048576] rfl am_ ?_; (with_reducible refine (laws_szLine.calls a0_0 a0_1 a0_2 _ _ l0_3 1048576 s1 _ ?side1 ?side2 F1.out).mono ?_); (case side1 => exact cb_ HR0_3 HB); (case side2 => exact HC0_3.out); rintro e W3_ ⟨rfl, hb⟩; refine ⟨_, rfl, ?_⟩; have hup := Go.Proofs.Ythdnodmidbcgpaa.XWalk.upB (wp := W2_) hb (by repeat (first | (with_reducible first | exact Below.refl _ _ | apply below_alloc | apply pw_below_drewN | apply below_drew1) | exact Below.refl _ _)); have n0_ := Aside0.mk (blk_below (blk_to BKP) hb); have n1_ := Aside0.mk (Nat.le_trans hz_P.out (Nat.le_trans hup.1 hup.2)); have n2_ := Aside0.mk (blk_below (blk_to BKQ) hb); have n3_ := Aside0.mk (Nat.le_trans hz_Q.out (Nat.le_trans hup.1 hup.2)); have nb_ := Aside0.mk (below_step (below_to HB) hb); clear BKP hz_P BKQ hz_Q HB; have BKP := n0_; have hz_P := n1_; have BKQ := n2_; have hz_Q := n3_; have HB := nb_; clear n0_ n1_ n2_ n3_ nb_; clear hb hup; (try clear hczP_0 hczP_1 hczP_2 hczP_3 hfzP_0 hfzP_1 hfzP_2 hfzP_3); have hczP_0 : W3_.cell? ⟨gbP, 0, none⟩ = some (.int .i64 a0_0) := (blk_cell BKP.out 0).trans rfl; have hczP_1 : W3_.cell? ⟨gbP, 1, none⟩ = some (.int .i64 a0_1) := (blk_cell BKP.out 1).trans rfl; have hczP_2 : W3_.cell? ⟨gbP, 2, none⟩ = some (.int .i64 a0_2) := (blk_cell BKP.out 2).trans rfl; have hczP_3 : W3_.cell? ⟨gbP, 3, none⟩ = some (.slice A0_3 l0_3.length c0_3) := (blk_cell BKP.out 3).trans rfl; have hfzP_0 := blk_frozen BKP.out 0; have hfzP_1 := blk_frozen BKP.out 1; have hfzP_2 := blk_frozen BKP.out 2; have hfzP_3 := blk_frozen BKP.out 3; (try clear hczQ_0 hczQ_1 hczQ_2 hczQ_3 hfzQ_0 hfzQ_1 hfzQ_2 hfzQ_3); have hczQ_0 : W3_.cell? ⟨gbQ, 0, none⟩ = some (.int .i64 a2_0) := (blk_cell BKQ.out 0).trans rfl; have hczQ_1 : W3_.cell? ⟨gbQ, 1, none⟩ = some (.int .i64 a2_1) := (blk_cell BKQ.out 1).trans rfl; have hczQ_2 : W3_.cell? ⟨gbQ, 2, none⟩ = some (.int .i64 a2_2) := (blk_cell BKQ.out 2).trans rfl; have hczQ_3 : W3_.cell? ⟨gbQ, 3, none⟩ = some (.slice A2_3 l2_3.length c2_3) := (blk_cell BKQ.out 3).trans rfl; have hfzQ_0 := blk_frozen BKQ.out 0; have hfzQ_1 := blk_frozen BKQ.out 1; have hfzQ_2 := blk_frozen BKQ.out 2; have hfzQ_3 := blk_frozen BKQ.out 3) | ((with_reducible refine gate_callee (f := 5) rfl ?_); refine goesL_ (some 36) rfl rfl Try.func5 (by kernel_rfl) rfl #[.agg #[.int .i64 a2_0, .int .i64 a2_1, .int .i64 a2_2, .slice A2_3 l2_3.length c2_3], .int .i64 s1] rfl am_ ?_; (with_reducible refine (laws_szLine.calls a2_0 a2_1 a2_2 _ _ l2_3 s1 s2 _ ?side1 ?side2 F2.out).mono ?_); (case side1 => exact cb_ HR2_3 HB); (case side2 => exact HC2_3.out); rintro e W4_ ⟨rfl, hb⟩; refine ⟨_, rfl, ?_⟩; have hup := Go.Proofs.Ythdnodmidbcgpaa.XWalk.upB (wp := W3_) hb (by repeat (first | (with_reducible first | exact Below.refl _ _ | apply below_alloc | apply pw_below_drewN | apply below_drew1) | exact Below.refl _ _)); have n0_ := Aside0.mk (blk_below (blk_to BKP) hb); have n1_ := Aside0.mk (Nat.le_trans hz_P.out (Nat.le_trans hup.1 hup.2)); have n2_ := Aside0.mk (blk_below (blk_to BKQ) hb); have n3_ := Aside0.mk (Nat.le_trans hz_Q.out (Nat.le_trans hup.1 hup.2)); have nb_ := Aside0.mk (below_step (below_to HB) hb); clear BKP hz_P BKQ hz_Q HB; have BKP := n0_; have hz_P := n1_; have BKQ := n2_; have hz_Q := n3_; have HB := nb_; clear n0_ n1_ n2_ n3_ nb_; clear hb hup; (try clear hczP_0 hczP_1 hczP_2 hczP_3 hfzP_0 hfzP_1 hfzP_2 hfzP_3); have hczP_0 : W4_.cell? ⟨gbP, 0, none⟩ = some (.int .i64 a0_0) := (blk_cell BKP.out 0).trans rfl; have hczP_1 : W4_.cell? ⟨gbP, 1, none⟩ = some (.int .i64 a0_1) := (blk_cell BKP.out 1).trans rfl; have hczP_2 : W4_.cell? ⟨gbP, 2, none⟩ = some (.int .i64 a0_2) := (blk_cell BKP.out 2).trans rfl; have hczP_3 : W4_.cell? ⟨gbP, 3, none⟩ = some (.slice A0_3 l0_3.length c0_3) := (blk_cell BKP.out 3).trans rfl; have hfzP_0 := blk_frozen BKP.out 0; have hfzP_1 := blk_frozen BKP.out 1; have hfzP_2 := blk_frozen BKP.out 2; have hfzP_3 := blk_frozen BKP.out 3; (try clear hczQ_0 hczQ_1 hczQ_2 hczQ_3 hfzQ_0 hfzQ_1 hfzQ_2 hfzQ_3); have hczQ_0 : W4_.cell? ⟨gbQ, 0, none⟩ = some (.int .i64 a2_0) := (blk_cell BKQ.out 0).trans rfl; have hczQ_1 : W4_.cell? ⟨gbQ, 1, none⟩ = some (.int .i64 a2_1) := (blk_cell BKQ.out 1).trans rfl; have hczQ_2 : W4_.cell? ⟨gbQ, 2, none⟩ = some (.int .i64 a2_2) := (blk_cell BKQ.out 2).trans rfl; have hczQ_3 : W4_.cell? ⟨gbQ, 3, none⟩ = some (.slice A2_3 l2_3.length c2_3) := (blk_cell BKQ.out 3).trans rfl; have hfzQ_0 := blk_frozen BKQ.out 0; have hfzQ_1 := blk_frozen BKQ.out 1; have hfzQ_2 := blk_frozen BKQ.out 2; have hfzQ_3 := blk_frozen BKQ.out 3))
  go_ret
  exact ⟨rt_, below_to HB⟩
 rw [if_neg cs_] at h
 have b2 : decide (s2 < 0) = false := decide_eq_false cs_
 clear cs_
 obtain ⟨s3, F3, h⟩ := Option.bind_eq_some_iff.mp h
 (try dsimp only at h)
 replace F3 := Aside0.mk F3
 by_cases cs_ : s3 < 0
 ·rw [if_pos cs_] at h
  obtain rfl := Option.some.inj h
  have b3 : decide (s3 < 0) = true := decide_eq_true cs_
  clear cs_ h
  go_enter Try.func3, Try.ntmps3
  go_wp2_with (first | ((with_reducible refine gate_dst (N := 6) rfl ?_); refine box_event ?hg (N := 6) ?hd (cs := #[.int .i64 a0_0, .int .i64 a0_1, .int .i64 a0_2, .slice A0_3 l0_3.length c0_3]) (t := 24) ?hr ?_; (case hd => rfl); (case hg => rfl); (case hr => first | (go_simp; done) | (go_simp; rfl)); intro gbP hg W1_ hbox hb; have hup := Go.Proofs.Ythdnodmidbcgpaa.XWalk.upB (wp := w) hb (by repeat (first | (with_reducible first | exact Below.refl _ _ | apply below_alloc | apply pw_below_drewN | apply below_drew1) | exact Below.refl _ _)); have hz_P := Aside0.mk (show (gbP + 1) ≤ W1_.heap.size from blk_lt hbox); have GEP := Aside0.mk (show w.heap.size ≤ gbP from by rw [hg]; exact below_size (below_to HB)); have nb_ := Aside0.mk (below_step (below_to HB) hb); clear HB; have HB := nb_; clear nb_; have BKP := Aside0.mk hbox; clear hb hup hg hbox; (try clear hczP_0 hczP_1 hczP_2 hczP_3 hfzP_0 hfzP_1 hfzP_2 hfzP_3); have hczP_0 : W1_.cell? ⟨gbP, 0, none⟩ = some (.int .i64 a0_0) := (blk_cell BKP.out 0).trans rfl; have hczP_1 : W1_.cell? ⟨gbP, 1, none⟩ = some (.int .i64 a0_1) := (blk_cell BKP.out 1).trans rfl; have hczP_2 : W1_.cell? ⟨gbP, 2, none⟩ = some (.int .i64 a0_2) := (blk_cell BKP.out 2).trans rfl; have hczP_3 : W1_.cell? ⟨gbP, 3, none⟩ = some (.slice A0_3 l0_3.length c0_3) := (blk_cell BKP.out 3).trans rfl; have hfzP_0 := blk_frozen BKP.out 0; have hfzP_1 := blk_frozen BKP.out 1; have hfzP_2 := blk_frozen BKP.out 2; have hfzP_3 := blk_frozen BKP.out 3) | ((with_reducible refine gate_dst (N := 8) rfl ?_); refine box_event ?hg (N := 8) ?hd (cs := #[.int .i64 a2_0, .int .i64 a2_1, .int .i64 a2_2, .slice A2_3 l2_3.length c2_3]) (t := 24) ?hr ?_; (case hd => rfl); (case hg => rfl); (case hr => first | (go_simp; done) | (go_simp; rfl)); intro gbQ hg W2_ hbox hb; have hup := Go.Proofs.Ythdnodmidbcgpaa.XWalk.upB (wp := W1_) hb (by repeat (first | (with_reducible first | exact Below.refl _ _ | apply below_alloc | apply pw_below_drewN | apply below_drew1) | exact Below.refl _ _)); have ord_P_Q := Aside0.mk (show (gbP + 1) ≤ gbQ from by rw [hg]; exact Nat.le_trans hz_P.out hup.1); have hz_Q := Aside0.mk (show (gbQ + 1) ≤ W2_.heap.size from blk_lt hbox); have GEQ := Aside0.mk (show w.heap.size ≤ gbQ from by rw [hg]; exact below_size (below_to HB)); have n0_ := Aside0.mk (blk_below (blk_to BKP) hb); have n1_ := Aside0.mk (Nat.le_trans hz_P.out (Nat.le_trans hup.1 hup.2)); have nb_ := Aside0.mk (below_step (below_to HB) hb); clear BKP hz_P HB; have BKP := n0_; have hz_P := n1_; have HB := nb_; clear n0_ n1_ nb_; have BKQ := Aside0.mk hbox; clear hb hup hg hbox; (try clear hczP_0 hczP_1 hczP_2 hczP_3 hfzP_0 hfzP_1 hfzP_2 hfzP_3); have hczP_0 : W2_.cell? ⟨gbP, 0, none⟩ = some (.int .i64 a0_0) := (blk_cell BKP.out 0).trans rfl; have hczP_1 : W2_.cell? ⟨gbP, 1, none⟩ = some (.int .i64 a0_1) := (blk_cell BKP.out 1).trans rfl; have hczP_2 : W2_.cell? ⟨gbP, 2, none⟩ = some (.int .i64 a0_2) := (blk_cell BKP.out 2).trans rfl; have hczP_3 : W2_.cell? ⟨gbP, 3, none⟩ = some (.slice A0_3 l0_3.length c0_3) := (blk_cell BKP.out 3).trans rfl; have hfzP_0 := blk_frozen BKP.out 0; have hfzP_1 := blk_frozen BKP.out 1; have hfzP_2 := blk_frozen BKP.out 2; have hfzP_3 := blk_frozen BKP.out 3; (try clear hczQ_0 hczQ_1 hczQ_2 hczQ_3 hfzQ_0 hfzQ_1 hfzQ_2 hfzQ_3); have hczQ_0 : W2_.cell? ⟨gbQ, 0, none⟩ = some (.int .i64 a2_0) := (blk_cell BKQ.out 0).trans rfl; have hczQ_1 : W2_.cell? ⟨gbQ, 1, none⟩ = some (.int .i64 a2_1) := (blk_cell BKQ.out 1).trans rfl; have hczQ_2 : W2_.cell? ⟨gbQ, 2, none⟩ = some (.int .i64 a2_2) := (blk_cell BKQ.out 2).trans rfl; have hczQ_3 : W2_.cell? ⟨gbQ, 3, none⟩ = some (.slice A2_3 l2_3.length c2_3) := (blk_cell BKQ.out 3).trans rfl; have hfzQ_0 := blk_frozen BKQ.out 0; have hfzQ_1 := blk_frozen BKQ.out 1; have hfzQ_2 := blk_frozen BKQ.out 2; have hfzQ_3 := blk_frozen BKQ.out 3) | ((with_reducible refine gate_callee (f := 5) rfl ?_); refine goesL_ (some 31) rfl rfl Try.func5 (by kernel_rfl) rfl #[.agg #[.int .i64 a0_0, .int .i64 a0_1, .int .i64 a0_2, .slice A0_3 l0_3.length c0_3], .int .i64 1048576] rfl am_ ?_; (with_reducible refine (laws_szLine.calls a0_0 a0_1 a0_2 _ _ l0_3 1048576 s1 _ ?side1 ?side2 F1.out).mono ?_); (case side1 => exact cb_ HR0_3 HB); (case side2 => exact HC0_3.out); rintro e W3_ ⟨rfl, hb⟩; refine ⟨_, rfl, ?_⟩; have hup := Go.Proofs.Ythdnodmidbcgpaa.XWalk.upB (wp := W2_) hb (by repeat (first | (with_reducible first | exact Below.refl _ _ | apply below_alloc | apply pw_below_drewN | apply below_drew1) | exact Below.refl _ _)); have n0_ := Aside0.mk (blk_below (blk_to BKP) hb); have n1_ := Aside0.mk (Nat.le_trans hz_P.out (Nat.le_trans hup.1 hup.2)); have n2_ := Aside0.mk (blk_below (blk_to BKQ) hb); have n3_ := Aside0.mk (Nat.le_trans hz_Q.out (Nat.le_trans hup.1 hup.2)); have nb_ := Aside0.mk (below_step (below_to HB) hb); clear BKP hz_P BKQ hz_Q HB; have BKP := n0_; have hz_P := n1_; have BKQ := n2_; have hz_Q := n3_; have HB := nb_; clear n0_ n1_ n2_ n3_ nb_; clear hb hup; (try clear hczP_0 hczP_1 hczP_2 hczP_3 hfzP_0 hfzP_1 hfzP_2 hfzP_3); have hczP_0 : W3_.cell? ⟨gbP, 0, none⟩ = some (.int .i64 a0_0) := (blk_cell BKP.out 0).trans rfl; have hczP_1 : W3_.cell? ⟨gbP, 1, none⟩ = some (.int .i64 a0_1) := (blk_cell BKP.out 1).trans rfl; have hczP_2 : W3_.cell? ⟨gbP, 2, none⟩ = some (.int .i64 a0_2) := (blk_cell BKP.out 2).trans rfl; have hczP_3 : W3_.cell? ⟨gbP, 3, none⟩ = some (.slice A0_3 l0_3.length c0_3) := (blk_cell BKP.out 3).trans rfl; have hfzP_0 := blk_frozen BKP.out 0; have hfzP_1 := blk_frozen BKP.out 1; have hfzP_2 := blk_frozen BKP.out 2; have hfzP_3 := blk_frozen BKP.out 3; (try clear hczQ_0 hczQ_1 hczQ_2 hczQ_3 hfzQ_0 hfzQ_1 hfzQ_2 hfzQ_3); have hczQ_0 : W3_.cell? ⟨gbQ, 0, none⟩ = some (.int .i64 a2_0) := (blk_cell BKQ.out 0).trans rfl; have hczQ_1 : W3_.cell? ⟨gbQ, 1, none⟩ = some (.int .i64 a2_1) := (blk_cell BKQ.out 1).trans rfl; have hczQ_2 : W3_.cell? ⟨gbQ, 2, none⟩ = some (.int .i64 a2_2) := (blk_cell BKQ.out 2).trans rfl; have hczQ_3 : W3_.cell? ⟨gbQ, 3, none⟩ = some (.slice A2_3 l2_3.length c2_3) := (blk_cell BKQ.out 3).trans rfl; have hfzQ_0 := blk_frozen BKQ.out 0; have hfzQ_1 := blk_frozen BKQ.out 1; have hfzQ_2 := blk_frozen BKQ.out 2; have hfzQ_3 := blk_frozen BKQ.out 3) | ((with_reducible refine gate_callee (f := 5) rfl ?_); refine goesL_ (some 36) rfl rfl Try.func5 (by kernel_rfl) rfl #[.agg #[.int .i64 a2_0, .int .i64 a2_1, .int .i64 a2_2, .slice A2_3 l2_3.length c2_3], .int .i64 s1] rfl am_ ?_; (with_reducible refine (laws_szLine.calls a2_0 a2_1 a2_2 _ _ l2_3 s1 s2 _ ?side1 ?side2 F2.out).mono ?_); (case side1 => exact cb_ HR2_3 HB); (case side2 => exact HC2_3.out); rintro e W4_ ⟨rfl, hb⟩; refine ⟨_, rfl, ?_⟩; have hup := Go.Proofs.Ythdnodmidbcgpaa.XWalk.upB (wp := W3_) hb (by repeat (first | (with_reducible first | exact Below.refl _ _ | apply below_alloc | apply pw_below_drewN | apply below_drew1) | exact Below.refl _ _)); have n0_ := Aside0.mk (blk_below (blk_to BKP) hb); have n1_ := Aside0.mk (Nat.le_trans hz_P.out (Nat.le_trans hup.1 hup.2)); have n2_ := Aside0.mk (blk_below (blk_to BKQ) hb); have n3_ := Aside0.mk (Nat.le_trans hz_Q.out (Nat.le_trans hup.1 hup.2)); have nb_ := Aside0.mk (below_step (below_to HB) hb); clear BKP hz_P BKQ hz_Q HB; have BKP := n0_; have hz_P := n1_; have BKQ := n2_; have hz_Q := n3_; have HB := nb_; clear n0_ n1_ n2_ n3_ nb_; clear hb hup; (try clear hczP_0 hczP_1 hczP_2 hczP_3 hfzP_0 hfzP_1 hfzP_2 hfzP_3); have hczP_0 : W4_.cell? ⟨gbP, 0, none⟩ = some (.int .i64 a0_0) := (blk_cell BKP.out 0).trans rfl; have hczP_1 : W4_.cell? ⟨gbP, 1, none⟩ = some (.int .i64 a0_1) := (blk_cell BKP.out 1).trans rfl; have hczP_2 : W4_.cell? ⟨gbP, 2, none⟩ = some (.int .i64 a0_2) := (blk_cell BKP.out 2).trans rfl; have hczP_3 : W4_.cell? ⟨gbP, 3, none⟩ = some (.slice A0_3 l0_3.length c0_3) := (blk_cell BKP.out 3).trans rfl; have hfzP_0 := blk_frozen BKP.out 0; have hfzP_1 := blk_frozen BKP.out 1; have hfzP_2 := blk_frozen BKP.out 2; have hfzP_3 := blk_frozen BKP.out 3; (try clear hczQ_0 hczQ_1 hczQ_2 hczQ_3 hfzQ_0 hfzQ_1 hfzQ_2 hfzQ_3); have hczQ_0 : W4_.cell? ⟨gbQ, 0, none⟩ = some (.int .i64 a2_0) := (blk_cell BKQ.out 0).trans rfl; have hczQ_1 : W4_.cell? ⟨gbQ, 1, none⟩ = some (.int .i64 a2_1) := (blk_cell BKQ.out 1).trans rfl; have hczQ_2 : W4_.cell? ⟨gbQ, 2, none⟩ = some (.int .i64 a2_2) := (blk_cell BKQ.out 2).trans rfl; have hczQ_3 : W4_.cell? ⟨gbQ, 3, none⟩ = some (.slice A2_3 l2_3.length c2_3) := (blk_cell BKQ.out 3).trans rfl; have hfzQ_0 := blk_frozen BKQ.out 0; have hfzQ_1 := blk_frozen BKQ.out 1; have hfzQ_2 := blk_frozen BKQ.out 2; have hfzQ_3 := blk_frozen BKQ.out 3) | ((with_reducible refine gate_callee (f := 6) rfl ?_); refine goesL_ (some 41) rfl rfl Try.func6 (by kernel_rfl) rfl #[.slice A4 l4.length c4, .int .i64 s2] rfl am_ ?_; (with_reducible refine (laws_szIntSS.calls k _ _ l4 s2 s3 _ ?side1 ?side2 F3.out).mono ?_); (case side1 => exact cb_ HR4 HB); (case side2 => exact HC4.out); rintro e w' ⟨rfl, ⟨nd, rfl⟩⟩; refine ⟨_, rfl, ?_⟩))
  go_ret
  exact ⟨rt_, below_to HB⟩
 rw [if_neg cs_] at h
 have b3 : decide (s3 < 0) = false := decide_eq_false cs_
 clear cs_
 obtain ⟨⟨u1, u2, u3, x1⟩, F4, h⟩ := Option.bind_eq_some_iff.mp h
 (try dsimp only at h)
 obtain ⟨⟨y1, y2, y3, x2⟩, F5, h⟩ := Option.bind_eq_some_iff.mp h
 (try dsimp only at h)
 obtain ⟨x3, F6, h⟩ := Option.bind_eq_some_iff.mp h
 (try dsimp only at h)
 obtain ⟨⟨w1, q1, q2⟩, F7, h⟩ := Option.bind_eq_some_iff.mp h
 (try dsimp only at h)
 obtain ⟨⟨g1, q3, q4⟩, F8, h⟩ := Option.bind_eq_some_iff.mp h
 (try dsimp only at h)
 by_cases c_ : (g1, q3, q4) = (w1, q1, q2)
 rotate_left
 ·rw [if_neg c_] at h
  cases h
 rw [if_pos c_] at h
 rw [c_] at F8
 clear c_
 obtain ⟨t1, F9, h⟩ := Option.bind_eq_some_iff.mp h
 (try dsimp only at h)
 by_cases c_ : t1 = true
 rotate_left
 ·rw [if_neg c_] at h
  cases h
 rw [if_pos c_] at h
 subst c_
 obtain ⟨t2, F10, h⟩ := Option.bind_eq_some_iff.mp h
 (try dsimp only at h)
 by_cases c_ : t2 = true
 rotate_left
 ·rw [if_neg c_] at h
  cases h
 rw [if_pos c_] at h
 subst c_
 obtain ⟨t3, F11, h⟩ := Option.bind_eq_some_iff.mp h
 (try dsimp only at h)
 by_cases c_ : t3 = true
 rotate_left
 ·rw [if_neg c_] at h
  cases h
 rw [if_pos c_] at h
 subst c_
 obtain ⟨t4, F12, h⟩ := Option.bind_eq_some_iff.mp h
 (try dsimp only at h)
 by_cases c_ : t4 = true
 rotate_left
 ·rw [if_neg c_] at h
  cases h
 rw [if_pos c_] at h
 subst c_
 obtain ⟨⟨m1, z1⟩, F13, h⟩ := Option.bind_eq_some_iff.mp h
 (try dsimp only at h)
 obtain ⟨⟨m2, z2⟩, F14, h⟩ := Option.bind_eq_some_iff.mp h
 (try dsimp only at h)
 obtain ⟨⟨m3, z3⟩, F15, h⟩ := Option.bind_eq_some_iff.mp h
 (try dsimp only at h)
 by_cases c_ : 0 ≤ m3
 rotate_left
 ·rw [if_neg c_] at h
  cases h
 rw [if_pos c_] at h
 have b7 : decide (m3 < 0) = false := decide_eq_false (by omega)
 clear c_
 obtain ⟨⟨m4, r4⟩, F16, h⟩ := Option.bind_eq_some_iff.mp h
 (try dsimp only at h)
 by_cases c_ : 0 ≤ m4
 rotate_left
 ·rw [if_neg c_] at h
  cases h
 rw [if_pos c_] at h
 have b8 : decide (m4 < 0) = false := decide_eq_false (by omega)
 clear c_
 obtain ⟨h2, F17, h⟩ := Option.bind_eq_some_iff.mp h
 (try dsimp only at h)
 by_cases c_ : h2 = m4
 rotate_left
 ·rw [if_neg c_] at h
  cases h
 rw [if_pos c_] at h
 rw [c_] at F17
 clear c_
 obtain rfl := Option.some.inj h
 clear h
 have hq1 : (q1 != q1) = false := bne_self_eq_false q1
 have hq2 : (q2 != q2) = false := bne_self_eq_false q2
 replace F4 := Aside0.mk F4
 replace F5 := Aside0.mk F5
 replace F6 := Aside0.mk F6
 replace F7 := Aside0.mk F7
 replace F8 := Aside0.mk F8
 replace F9 := Aside0.mk F9
 replace F10 := Aside0.mk F10
 replace F11 := Aside0.mk F11
 replace F12 := Aside0.mk F12
 replace F13 := Aside0.mk F13
 replace F14 := Aside0.mk F14
 replace F15 := Aside0.mk F15
 replace F16 := Aside0.mk F16
 replace F17 := Aside0.mk F17
 go_enter Try.func3, Try.ntmps3
 try go_wp2_with (first | ((with_reducible refine gate_dst (N := 6) rfl ?_); refine box_event ?hg (N := 6) ?hd (cs := #[.int .i64 a0_0, .int .i64 a0_1, .int .i64 a0_2, .slice A0_3 l0_3.length c0_3]) (t := 24) ?hr ?_; (case hd => rfl); (case hg => rfl); (case hr => first | (go_simp; done) | (go_simp; rfl)); intro gbP hg W1_ hbox hb; have hup := Go.Proofs.Ythdnodmidbcgpaa.XWalk.upB (wp := w) hb (by repeat (first | (with_reducible first | exact Below.refl _ _ | apply below_alloc | apply pw_below_drewN | apply below_drew1) | exact Below.refl _ _)); have hz_P := Aside0.mk (show (gbP + 1) ≤ W1_.heap.size from blk_lt hbox); have GEP := Aside0.mk (show w.heap.size ≤ gbP from by rw [hg]; exact below_size (below_to HB)); have nb_ := Aside0.mk (below_step (below_to HB) hb); clear HB; have HB := nb_; clear nb_; have BKP := Aside0.mk hbox; clear hb hup hg hbox; (try clear hczP_0 hczP_1 hczP_2 hczP_3 hfzP_0 hfzP_1 hfzP_2 hfzP_3); have hczP_0 : W1_.cell? ⟨gbP, 0, none⟩ = some (.int .i64 a0_0) := (blk_cell BKP.out 0).trans rfl; have hczP_1 : W1_.cell? ⟨gbP, 1, none⟩ = some (.int .i64 a0_1) := (blk_cell BKP.out 1).trans rfl; have hczP_2 : W1_.cell? ⟨gbP, 2, none⟩ = some (.int .i64 a0_2) := (blk_cell BKP.out 2).trans rfl; have hczP_3 : W1_.cell? ⟨gbP, 3, none⟩ = some (.slice A0_3 l0_3.length c0_3) := (blk_cell BKP.out 3).trans rfl; have hfzP_0 := blk_frozen BKP.out 0; have hfzP_1 := blk_frozen BKP.out 1; have hfzP_2 := blk_frozen BKP.out 2; have hfzP_3 := blk_frozen BKP.out 3) | ((with_reducible refine gate_dst (N := 8) rfl ?_); refine box_event ?hg (N := 8) ?hd (cs := #[.int .i64 a2_0, .int .i64 a2_1, .int .i64 a2_2, .slice A2_3 l2_3.length c2_3]) (t := 24) ?hr ?_; (case hd => rfl); (case hg => rfl); (case hr => first | (go_simp; done) | (go_simp; rfl)); intro gbQ hg W2_ hbox hb; have hup := Go.Proofs.Ythdnodmidbcgpaa.XWalk.upB (wp := W1_) hb (by repeat (first | (with_reducible first | exact Below.refl _ _ | apply below_alloc | apply pw_below_drewN | apply below_drew1) | exact Below.refl _ _)); have ord_P_Q := Aside0.mk (show (gbP + 1) ≤ gbQ from by rw [hg]; exact Nat.le_trans hz_P.out hup.1); have hz_Q := Aside0.mk (show (gbQ + 1) ≤ W2_.heap.size from blk_lt hbox); have GEQ := Aside0.mk (show w.heap.size ≤ gbQ from by rw [hg]; exact below_size (below_to HB)); have n0_ := Aside0.mk (blk_below (blk_to BKP) hb); have n1_ := Aside0.mk (Nat.le_trans hz_P.out (Nat.le_trans hup.1 hup.2)); have nb_ := Aside0.mk (below_step (below_to HB) hb); clear BKP hz_P HB; have BKP := n0_; have hz_P := n1_; have HB := nb_; clear n0_ n1_ nb_; have BKQ := Aside0.mk hbox; clear hb hup hg hbox; (try clear hczP_0 hczP_1 hczP_2 hczP_3 hfzP_0 hfzP_1 hfzP_2 hfzP_3); have hczP_0 : W2_.cell? ⟨gbP, 0, none⟩ = some (.int .i64 a0_0) := (blk_cell BKP.out 0).trans rfl; have hczP_1 : W2_.cell? ⟨gbP, 1, none⟩ = some (.int .i64 a0_1) := (blk_cell BKP.out 1).trans rfl; have hczP_2 : W2_.cell? ⟨gbP, 2, none⟩ = some (.int .i64 a0_2) := (blk_cell BKP.out 2).trans rfl; have hczP_3 : W2_.cell? ⟨gbP, 3, none⟩ = some (.slice A0_3 l0_3.length c0_3) := (blk_cell BKP.out 3).trans rfl; have hfzP_0 := blk_frozen BKP.out 0; have hfzP_1 := blk_frozen BKP.out 1; have hfzP_2 := blk_frozen BKP.out 2; have hfzP_3 := blk_frozen BKP.out 3; (try clear hczQ_0 hczQ_1 hczQ_2 hczQ_3 hfzQ_0 hfzQ_1 hfzQ_2 hfzQ_3); have hczQ_0 : W2_.cell? ⟨gbQ, 0, none⟩ = some (.int .i64 a2_0) := (blk_cell BKQ.out 0).trans rfl; have hczQ_1 : W2_.cell? ⟨gbQ, 1, none⟩ = some (.int .i64 a2_1) := (blk_cell BKQ.out 1).trans rfl; have hczQ_2 : W2_.cell? ⟨gbQ, 2, none⟩ = some (.int .i64 a2_2) := (blk_cell BKQ.out 2).trans rfl; have hczQ_3 : W2_.cell? ⟨gbQ, 3, none⟩ = some (.slice A2_3 l2_3.length c2_3) := (blk_cell BKQ.out 3).trans rfl; have hfzQ_0 := blk_frozen BKQ.out 0; have hfzQ_1 := blk_frozen BKQ.out 1; have hfzQ_2 := blk_frozen BKQ.out 2; have hfzQ_3 := blk_frozen BKQ.out 3) | ((with_reducible refine gate_callee (f := 5) rfl ?_); refine goesL_ (some 31) rfl rfl Try.func5 (by kernel_rfl) rfl #[.agg #[.int .i64 a0_0, .int .i64 a0_1, .int .i64 a0_2, .slice A0_3 l0_3.length c0_3], .int .i64 1048576] rfl am_ ?_; (with_reducible refine (laws_szLine.calls a0_0 a0_1 a0_2 _ _ l0_3 1048576 s1 _ ?side1 ?side2 F1.out).mono ?_); (case side1 => exact cb_ HR0_3 HB); (case side2 => exact HC0_3.out); rintro e W3_ ⟨rfl, hb⟩; refine ⟨_, rfl, ?_⟩; have hup := Go.Proofs.Ythdnodmidbcgpaa.XWalk.upB (wp := W2_) hb (by repeat (first | (with_reducible first | exact Below.refl _ _ | apply below_alloc | apply pw_below_drewN | apply below_drew1) | exact Below.refl _ _)); have n0_ := Aside0.mk (blk_below (blk_to BKP) hb); have n1_ := Aside0.mk (Nat.le_trans hz_P.out (Nat.le_trans hup.1 hup.2)); have n2_ := Aside0.mk (blk_below (blk_to BKQ) hb); have n3_ := Aside0.mk (Nat.le_trans hz_Q.out (Nat.le_trans hup.1 hup.2)); have nb_ := Aside0.mk (below_step (below_to HB) hb); clear BKP hz_P BKQ hz_Q HB; have BKP := n0_; have hz_P := n1_; have BKQ := n2_; have hz_Q := n3_; have HB := nb_; clear n0_ n1_ n2_ n3_ nb_; clear hb hup; (try clear hczP_0 hczP_1 hczP_2 hczP_3 hfzP_0 hfzP_1 hfzP_2 hfzP_3); have hczP_0 : W3_.cell? ⟨gbP, 0, none⟩ = some (.int .i64 a0_0) := (blk_cell BKP.out 0).trans rfl; have hczP_1 : W3_.cell? ⟨gbP, 1, none⟩ = some (.int .i64 a0_1) := (blk_cell BKP.out 1).trans rfl; have hczP_2 : W3_.cell? ⟨gbP, 2, none⟩ = some (.int .i64 a0_2) := (blk_cell BKP.out 2).trans rfl; have hczP_3 : W3_.cell? ⟨gbP, 3, none⟩ = some (.slice A0_3 l0_3.length c0_3) := (blk_cell BKP.out 3).trans rfl; have hfzP_0 := blk_frozen BKP.out 0; have hfzP_1 := blk_frozen BKP.out 1; have hfzP_2 := blk_frozen BKP.out 2; have hfzP_3 := blk_frozen BKP.out 3; (try clear hczQ_0 hczQ_1 hczQ_2 hczQ_3 hfzQ_0 hfzQ_1 hfzQ_2 hfzQ_3); have hczQ_0 : W3_.cell? ⟨gbQ, 0, none⟩ = some (.int .i64 a2_0) := (blk_cell BKQ.out 0).trans rfl; have hczQ_1 : W3_.cell? ⟨gbQ, 1, none⟩ = some (.int .i64 a2_1) := (blk_cell BKQ.out 1).trans rfl; have hczQ_2 : W3_.cell? ⟨gbQ, 2, none⟩ = some (.int .i64 a2_2) := (blk_cell BKQ.out 2).trans rfl; have hczQ_3 : W3_.cell? ⟨gbQ, 3, none⟩ = some (.slice A2_3 l2_3.length c2_3) := (blk_cell BKQ.out 3).trans rfl; have hfzQ_0 := blk_frozen BKQ.out 0; have hfzQ_1 := blk_frozen BKQ.out 1; have hfzQ_2 := blk_frozen BKQ.out 2; have hfzQ_3 := blk_frozen BKQ.out 3) | ((with_reducible refine gate_callee (f := 5) rfl ?_); refine goesL_ (some 36) rfl rfl Try.func5 (by kernel_rfl) rfl #[.agg #[.int .i64 a2_0, .int .i64 a2_1, .int .i64 a2_2, .slice A2_3 l2_3.length c2_3], .int .i64 s1] rfl am_ ?_; (with_reducible refine (laws_szLine.calls a2_0 a2_1 a2_2 _ _ l2_3 s1 s2 _ ?side1 ?side2 F2.out).mono ?_); (case side1 => exact cb_ HR2_3 HB); (case side2 => exact HC2_3.out); rintro e W4_ ⟨rfl, hb⟩; refine ⟨_, rfl, ?_⟩; have hup := Go.Proofs.Ythdnodmidbcgpaa.XWalk.upB (wp := W3_) hb (by repeat (first | (with_reducible first | exact Below.refl _ _ | apply below_alloc | apply pw_below_drewN | apply below_drew1) | exact Below.refl _ _)); have n0_ := Aside0.mk (blk_below (blk_to BKP) hb); have n1_ := Aside0.mk (Nat.le_trans hz_P.out (Nat.le_trans hup.1 hup.2)); have n2_ := Aside0.mk (blk_below (blk_to BKQ) hb); have n3_ := Aside0.mk (Nat.le_trans hz_Q.out (Nat.le_trans hup.1 hup.2)); have nb_ := Aside0.mk (below_step (below_to HB) hb); clear BKP hz_P BKQ hz_Q HB; have BKP := n0_; have hz_P := n1_; have BKQ := n2_; have hz_Q := n3_; have HB := nb_; clear n0_ n1_ n2_ n3_ nb_; clear hb hup; (try clear hczP_0 hczP_1 hczP_2 hczP_3 hfzP_0 hfzP_1 hfzP_2 hfzP_3); have hczP_0 : W4_.cell? ⟨gbP, 0, none⟩ = some (.int .i64 a0_0) := (blk_cell BKP.out 0).trans rfl; have hczP_1 : W4_.cell? ⟨gbP, 1, none⟩ = some (.int .i64 a0_1) := (blk_cell BKP.out 1).trans rfl; have hczP_2 : W4_.cell? ⟨gbP, 2, none⟩ = some (.int .i64 a0_2) := (blk_cell BKP.out 2).trans rfl; have hczP_3 : W4_.cell? ⟨gbP, 3, none⟩ = some (.slice A0_3 l0_3.length c0_3) := (blk_cell BKP.out 3).trans rfl; have hfzP_0 := blk_frozen BKP.out 0; have hfzP_1 := blk_frozen BKP.out 1; have hfzP_2 := blk_frozen BKP.out 2; have hfzP_3 := blk_frozen BKP.out 3; (try clear hczQ_0 hczQ_1 hczQ_2 hczQ_3 hfzQ_0 hfzQ_1 hfzQ_2 hfzQ_3); have hczQ_0 : W4_.cell? ⟨gbQ, 0, none⟩ = some (.int .i64 a2_0) := (blk_cell BKQ.out 0).trans rfl; have hczQ_1 : W4_.cell? ⟨gbQ, 1, none⟩ = some (.int .i64 a2_1) := (blk_cell BKQ.out 1).trans rfl; have hczQ_2 : W4_.cell? ⟨gbQ, 2, none⟩ = some (.int .i64 a2_2) := (blk_cell BKQ.out 2).trans rfl; have hczQ_3 : W4_.cell? ⟨gbQ, 3, none⟩ = some (.slice A2_3 l2_3.length c2_3) := (blk_cell BKQ.out 3).trans rfl; have hfzQ_0 := blk_frozen BKQ.out 0; have hfzQ_1 := blk_frozen BKQ.out 1; have hfzQ_2 := blk_frozen BKQ.out 2; have hfzQ_3 := blk_frozen BKQ.out 3) | ((with_reducible refine gate_callee (f := 6) rfl ?_); refine goesL_ (some 41) rfl rfl Try.func6 (by kernel_rfl) rfl #[.slice A4 l4.length c4, .int .i64 s2] rfl am_ ?_; (with_reducible refine (laws_szIntSS.calls k _ _ l4 s2 s3 _ ?side1 ?side2 F3.out).mono ?_); (case side1 => exact cb_ HR4 HB); (case side2 => exact HC4.out); rintro e w' ⟨rfl, ⟨nd, rfl⟩⟩; refine ⟨_, rfl, ?_⟩))
 refine start_ (n := 17) (S := fun w' => w'.cell? ⟨gbP, 0, none⟩ = some (.int .i64 a0_0) ∧ w'.cell? ⟨gbP, 1, none⟩ = some (.int .i64 a0_1) ∧ w'.cell? ⟨gbP, 2, none⟩ = some (.int .i64 a0_2) ∧ w'.cell? ⟨gbP, 3, none⟩ = some (.slice A0_3 l0_3.length c0_3) ∧ w'.cell? ⟨gbQ, 0, none⟩ = some (.int .i64 a2_0) ∧ w'.cell? ⟨gbQ, 1, none⟩ = some (.int .i64 a2_1) ∧ w'.cell? ⟨gbQ, 2, none⟩ = some (.int .i64 a2_2) ∧ w'.cell? ⟨gbQ, 3, none⟩ = some (.slice A2_3 l2_3.length c2_3)) (ds := []) (fr_ [0, 17]) (by kernel_rfl) rfl rfl ⟨(blk_cell (g := gbP) (cs := #[.int .i64 a0_0, .int .i64 a0_1, .int .i64 a0_2, .slice A0_3 l0_3.length c0_3]) (t := 24) (blk_to BKP) 0).trans rfl, (blk_cell (g := gbP) (cs := #[.int .i64 a0_0, .int .i64 a0_1, .int .i64 a0_2, .slice A0_3 l0_3.length c0_3]) (t := 24) (blk_to BKP) 1).trans rfl, (blk_cell (g := gbP) (cs := #[.int .i64 a0_0, .int .i64 a0_1, .int .i64 a0_2, .slice A0_3 l0_3.length c0_3]) (t := 24) (blk_to BKP) 2).trans rfl, (blk_cell (g := gbP) (cs := #[.int .i64 a0_0, .int .i64 a0_1, .int .i64 a0_2, .slice A0_3 l0_3.length c0_3]) (t := 24) (blk_to BKP) 3).trans rfl, (blk_cell (g := gbQ) (cs := #[.int .i64 a2_0, .int .i64 a2_1, .int .i64 a2_2, .slice A2_3 l2_3.length c2_3]) (t := 24) (blk_to BKQ) 0).trans rfl, (blk_cell (g := gbQ) (cs := #[.int .i64 a2_0, .int .i64 a2_1, .int .i64 a2_2, .slice A2_3 l2_3.length c2_3]) (t := 24) (blk_to BKQ) 1).trans rfl, (blk_cell (g := gbQ) (cs := #[.int .i64 a2_0, .int .i64 a2_1, .int .i64 a2_2, .slice A2_3 l2_3.length c2_3]) (t := 24) (blk_to BKQ) 2).trans rfl, (blk_cell (g := gbQ) (cs := #[.int .i64 a2_0, .int .i64 a2_1, .int .i64 a2_2, .slice A2_3 l2_3.length c2_3]) (t := 24) (blk_to BKQ) 3).trans rfl⟩ (fun hHeld => ?_); refine with_tabW lw_.tab11 lw_.bits11 (fun HT_ HW_ => ?_)
 refine purS_ (i := 2) (N := some 47) (fr_ [0, 2, 1, 14]) HT_.out ?_
 refine purS_ (i := 5) (N := some 50) (fr_ [0, 2, 1, 2, 1, 11]) HT_.out ?_
 refine purS_ (i := 6) (N := some 51) (fr_ [0, 2, 1, 2, 2, 10]) HT_.out ?_
 refine purS_ (i := 8) (N := some 53) (fr_ [0, 2, 1, 2, 2, 1, 1, 8]) HT_.out ?_
 refine take_ (i := 0) (N := some 45) (v := ?_) (a' := ?_) (fr_ [1, 1, 1, 2, 2, 1, 1, 8]) rfl rfl (take_ofW HT_.out HW_.out (by kernel_rfl)) (fun _ _ _ h => h) (Or.inl ⟨by rfl, ?_⟩) hHeld ?_ ?_
 rotate_left
 ·rintro w' ⟨s0, s1, s2, s3, s4, s5, s6, s7⟩
  go_simp
  with_reducible rfl
 rotate_left
 ·simp only [Act.put, List.setIfInBounds_toArray, List.set_cons_zero, List.set_cons_succ, i64_w, i32_w]
  rfl
 refine take_ (i := 3) (N := some 48) (v := ?_) (a' := ?_) (fr_ [1, 1, 2, 1, 2, 1, 1, 8]) rfl rfl (take_ofW HT_.out HW_.out (by kernel_rfl)) (fun _ _ _ h => h) (Or.inl ⟨by rfl, ?_⟩) hHeld ?_ ?_
 rotate_left
 ·rintro w' ⟨s0, s1, s2, s3, s4, s5, s6, s7⟩
  go_simp
  with_reducible rfl
 rotate_left
 ·simp only [Act.put, List.setIfInBounds_toArray, List.set_cons_zero, List.set_cons_succ, i64_w, i32_w]
  rfl
 refine one_ (i := 1) (N := some 46) (fr_ [4, 1, 2, 1, 1, 8]) rfl rfl (one_of HT_.out (by kernel_rfl)) (by decide) (fun K hK => ?_)
 refine goes_ Try.func8 (by kernel_rfl) rfl #[.agg #[.int .i64 a0_0, .int .i64 a0_1, .int .i64 a0_2, .slice A0_3 l0_3.length c0_3]] (by rfl) rfl rfl am_ ?_
 (with_reducible refine (laws_toLine.calls k a0_0 a0_1 a0_2 _ _ l0_3 u1 u2 u3 x1 _ ?side1 ?side2 F4.out).mono ?_)
 (case side1 => exact cb_ HR0_3 HB)
 (case side2 => exact HC0_3.out)
 rintro e W5_ ⟨v5, rfl, ho0, hb⟩
 refine ⟨_, rfl, ?_⟩
 have hup := Go.Proofs.Ythdnodmidbcgpaa.XWalk.upB (wp := W4_) hb (by repeat (first | (with_reducible first | exact Below.refl _ _ | apply below_alloc | apply pw_below_drewN | apply below_drew1) | exact Below.refl _ _))
 obtain ⟨Axa, cxa, rfl⟩ := Kd.R_slice ho0
 obtain ⟨nxa, mxa, en_, em_, hs_⟩ := Go.Proofs.Ythdnodmidbcgpaa.XWalk.bornR (w := w) hb ho0 (below_size (below_to HB))
 have ord_P_a := Aside0.mk (show (gbP + 1) ≤ nxa from by rw [en_]; exact Nat.le_trans hz_P.out hup.1)
 have ord_Q_a := Aside0.mk (show (gbQ + 1) ≤ nxa from by rw [en_]; exact Nat.le_trans hz_Q.out hup.1)
 have hz_a := Aside0.mk (show mxa ≤ W5_.heap.size from by rw [em_]; exact Nat.le_refl _)
 have HOxa := Aside0.mk hs_
 clear en_ em_ hs_ ho0
 have n0_ := Aside0.mk (blk_below (blk_to BKP) hb)
 have n1_ := Aside0.mk (Nat.le_trans hz_P.out (Nat.le_trans hup.1 hup.2))
 have n2_ := Aside0.mk (blk_below (blk_to BKQ) hb)
 have n3_ := Aside0.mk (Nat.le_trans hz_Q.out (Nat.le_trans hup.1 hup.2))
 have nb_ := Aside0.mk (below_step (below_to HB) hb)
 clear BKP hz_P BKQ hz_Q HB
 have BKP := n0_
 have hz_P := n1_
 have BKQ := n2_
 have hz_Q := n3_
 have HB := nb_
 clear n0_ n1_ n2_ n3_ nb_
 clear hb hup
 (try clear hczP_0 hczP_1 hczP_2 hczP_3 hfzP_0 hfzP_1 hfzP_2 hfzP_3)
 have hczP_0 : W5_.cell? ⟨gbP, 0, none⟩ = some (.int .i64 a0_0) := (blk_cell BKP.out 0).trans rfl
 have hczP_1 : W5_.cell? ⟨gbP, 1, none⟩ = some (.int .i64 a0_1) := (blk_cell BKP.out 1).trans rfl
 have hczP_2 : W5_.cell? ⟨gbP, 2, none⟩ = some (.int .i64 a0_2) := (blk_cell BKP.out 2).trans rfl
 have hczP_3 : W5_.cell? ⟨gbP, 3, none⟩ = some (.slice A0_3 l0_3.length c0_3) := (blk_cell BKP.out 3).trans rfl
 have hfzP_0 := blk_frozen BKP.out 0
 have hfzP_1 := blk_frozen BKP.out 1
 have hfzP_2 := blk_frozen BKP.out 2
 have hfzP_3 := blk_frozen BKP.out 3
 (try clear hczQ_0 hczQ_1 hczQ_2 hczQ_3 hfzQ_0 hfzQ_1 hfzQ_2 hfzQ_3)
 have hczQ_0 : W5_.cell? ⟨gbQ, 0, none⟩ = some (.int .i64 a2_0) := (blk_cell BKQ.out 0).trans rfl
 have hczQ_1 : W5_.cell? ⟨gbQ, 1, none⟩ = some (.int .i64 a2_1) := (blk_cell BKQ.out 1).trans rfl
 have hczQ_2 : W5_.cell? ⟨gbQ, 2, none⟩ = some (.int .i64 a2_2) := (blk_cell BKQ.out 2).trans rfl
 have hczQ_3 : W5_.cell? ⟨gbQ, 3, none⟩ = some (.slice A2_3 l2_3.length c2_3) := (blk_cell BKQ.out 3).trans rfl
 have hfzQ_0 := blk_frozen BKQ.out 0
 have hfzQ_1 := blk_frozen BKQ.out 1
 have hfzQ_2 := blk_frozen BKQ.out 2
 have hfzQ_3 := blk_frozen BKQ.out 3
 refine hK.out _ _ ⟨(blk_cell BKP.out 0).trans rfl, (blk_cell BKP.out 1).trans rfl, (blk_cell BKP.out 2).trans rfl, (blk_cell BKP.out 3).trans rfl, (blk_cell BKQ.out 0).trans rfl, (blk_cell BKQ.out 1).trans rfl, (blk_cell BKQ.out 2).trans rfl, (blk_cell BKQ.out 3).trans rfl⟩ (fun hHeld => ?_)
 clear hK K
 refine norm_ (a' := ?_) ?_ ?_
 rotate_left
 ·show Act.put _ (some 46) _ = _
  simp only [Act.put, List.setIfInBounds_toArray, List.set_cons_zero, List.set_cons_succ, i64_w, i32_w]
  rfl
 refine one_ (i := 4) (N := some 49) (fr_ [7, 1, 1, 8]) rfl rfl (one_of HT_.out (by kernel_rfl)) (by decide) (fun K hK => ?_)
 refine goes_ Try.func8 (by kernel_rfl) rfl #[.agg #[.int .i64 a2_0, .int .i64 a2_1, .int .i64 a2_2, .slice A2_3 l2_3.length c2_3]] (by rfl) rfl rfl am_ ?_
 (with_reducible refine (laws_toLine.calls k a2_0 a2_1 a2_2 _ _ l2_3 y1 y2 y3 x2 _ ?side1 ?side2 F5.out).mono ?_)
 (case side1 => exact cb_ HR2_3 HB)
 (case side2 => exact HC2_3.out)
 rintro e W6_ ⟨v6, rfl, ho0, hb⟩
 refine ⟨_, rfl, ?_⟩
 have hup := Go.Proofs.Ythdnodmidbcgpaa.XWalk.upB (wp := W5_) hb (by repeat (first | (with_reducible first | exact Below.refl _ _ | apply below_alloc | apply pw_below_drewN | apply below_drew1) | exact Below.refl _ _))
 obtain ⟨Axb, cxb, rfl⟩ := Kd.R_slice ho0
 obtain ⟨nxb, mxb, en_, em_, hs_⟩ := Go.Proofs.Ythdnodmidbcgpaa.XWalk.bornR (w := w) hb ho0 (below_size (below_to HB))
 have ord_P_b := Aside0.mk (show (gbP + 1) ≤ nxb from by rw [en_]; exact Nat.le_trans hz_P.out hup.1)
 have ord_Q_b := Aside0.mk (show (gbQ + 1) ≤ nxb from by rw [en_]; exact Nat.le_trans hz_Q.out hup.1)
 have ord_a_b := Aside0.mk (show mxa ≤ nxb from by rw [en_]; exact Nat.le_trans hz_a.out hup.1)
 have hz_b := Aside0.mk (show mxb ≤ W6_.heap.size from by rw [em_]; exact Nat.le_refl _)
 have HOxb := Aside0.mk hs_
 clear en_ em_ hs_ ho0
 have n0_ := Aside0.mk (blk_below (blk_to BKP) hb)
 have n1_ := Aside0.mk (Nat.le_trans hz_P.out (Nat.le_trans hup.1 hup.2))
 have n2_ := Aside0.mk (blk_below (blk_to BKQ) hb)
 have n3_ := Aside0.mk (Nat.le_trans hz_Q.out (Nat.le_trans hup.1 hup.2))
 have n4_ := Aside0.mk (Kd.R_below (kd_to HOxa) hb)
 have n5_ := Aside0.mk (Nat.le_trans hz_a.out (Nat.le_trans hup.1 hup.2))
 have nb_ := Aside0.mk (below_step (below_to HB) hb)
 clear BKP hz_P BKQ hz_Q HOxa hz_a HB
 have BKP := n0_
 have hz_P := n1_
 have BKQ := n2_
 have hz_Q := n3_
 have HOxa := n4_
 have hz_a := n5_
 have HB := nb_
 clear n0_ n1_ n2_ n3_ n4_ n5_ nb_
 clear hb hup
 (try clear hczP_0 hczP_1 hczP_2 hczP_3 hfzP_0 hfzP_1 hfzP_2 hfzP_3)
 have hczP_0 : W6_.cell? ⟨gbP, 0, none⟩ = some (.int .i64 a0_0) := (blk_cell BKP.out 0).trans rfl
 have hczP_1 : W6_.cell? ⟨gbP, 1, none⟩ = some (.int .i64 a0_1) := (blk_cell BKP.out 1).trans rfl
 have hczP_2 : W6_.cell? ⟨gbP, 2, none⟩ = some (.int .i64 a0_2) := (blk_cell BKP.out 2).trans rfl
 have hczP_3 : W6_.cell? ⟨gbP, 3, none⟩ = some (.slice A0_3 l0_3.length c0_3) := (blk_cell BKP.out 3).trans rfl
 have hfzP_0 := blk_frozen BKP.out 0
 have hfzP_1 := blk_frozen BKP.out 1
 have hfzP_2 := blk_frozen BKP.out 2
 have hfzP_3 := blk_frozen BKP.out 3
 (try clear hczQ_0 hczQ_1 hczQ_2 hczQ_3 hfzQ_0 hfzQ_1 hfzQ_2 hfzQ_3)
 have hczQ_0 : W6_.cell? ⟨gbQ, 0, none⟩ = some (.int .i64 a2_0) := (blk_cell BKQ.out 0).trans rfl
 have hczQ_1 : W6_.cell? ⟨gbQ, 1, none⟩ = some (.int .i64 a2_1) := (blk_cell BKQ.out 1).trans rfl
 have hczQ_2 : W6_.cell? ⟨gbQ, 2, none⟩ = some (.int .i64 a2_2) := (blk_cell BKQ.out 2).trans rfl
 have hczQ_3 : W6_.cell? ⟨gbQ, 3, none⟩ = some (.slice A2_3 l2_3.length c2_3) := (blk_cell BKQ.out 3).trans rfl
 have hfzQ_0 := blk_frozen BKQ.out 0
 have hfzQ_1 := blk_frozen BKQ.out 1
 have hfzQ_2 := blk_frozen BKQ.out 2
 have hfzQ_3 := blk_frozen BKQ.out 3
 refine hK.out _ _ ⟨(blk_cell BKP.out 0).trans rfl, (blk_cell BKP.out 1).trans rfl, (blk_cell BKP.out 2).trans rfl, (blk_cell BKP.out 3).trans rfl, (blk_cell BKQ.out 0).trans rfl, (blk_cell BKQ.out 1).trans rfl, (blk_cell BKQ.out 2).trans rfl, (blk_cell BKQ.out 3).trans rfl⟩ (fun hHeld => ?_)
 clear hK K
 refine norm_ (a' := ?_) ?_ ?_
 rotate_left
 ·show Act.put _ (some 49) _ = _
  simp only [Act.put, List.setIfInBounds_toArray, List.set_cons_zero, List.set_cons_succ, i64_w, i32_w]
  rfl
 refine one_ (i := 7) (N := some 52) (fr_ [9, 8]) rfl rfl (one_of HT_.out (by kernel_rfl)) (by decide) (fun K hK => ?_)
 refine goes_ Try.func9 (by kernel_rfl) rfl #[.slice A4 l4.length c4] (by rfl) rfl rfl am_ ?_
 (with_reducible refine (laws_toIntSS.calls k _ _ l4 x3 _ ?side1 ?side2 F6.out).mono ?_)
 (case side1 => exact cb_ HR4 HB)
 (case side2 => exact HC4.out)
 rintro e W7_ ⟨v7, rfl, ho0, hb⟩
 refine ⟨_, rfl, ?_⟩
 have hup := Go.Proofs.Ythdnodmidbcgpaa.XWalk.upB (wp := W6_) hb (by repeat (first | (with_reducible first | exact Below.refl _ _ | apply below_alloc | apply pw_below_drewN | apply below_drew1) | exact Below.refl _ _))
 obtain ⟨Axc, cxc, rfl⟩ := Kd.S_slice ho0
 obtain ⟨nxc, mxc, en_, em_, hs_⟩ := Go.Proofs.Ythdnodmidbcgpaa.XWalk.bornS (w := w) hb ho0 (below_size (below_to HB))
 have ord_P_c := Aside0.mk (show (gbP + 1) ≤ nxc from by rw [en_]; exact Nat.le_trans hz_P.out hup.1)
 have ord_Q_c := Aside0.mk (show (gbQ + 1) ≤ nxc from by rw [en_]; exact Nat.le_trans hz_Q.out hup.1)
 have ord_a_c := Aside0.mk (show mxa ≤ nxc from by rw [en_]; exact Nat.le_trans hz_a.out hup.1)
 have ord_b_c := Aside0.mk (show mxb ≤ nxc from by rw [en_]; exact Nat.le_trans hz_b.out hup.1)
 have hz_c := Aside0.mk (show mxc ≤ W7_.heap.size from by rw [em_]; exact Nat.le_refl _)
 have HOxc := Aside0.mk hs_
 clear en_ em_ hs_ ho0
 have n0_ := Aside0.mk (blk_below (blk_to BKP) hb)
 have n1_ := Aside0.mk (Nat.le_trans hz_P.out (Nat.le_trans hup.1 hup.2))
 have n2_ := Aside0.mk (blk_below (blk_to BKQ) hb)
 have n3_ := Aside0.mk (Nat.le_trans hz_Q.out (Nat.le_trans hup.1 hup.2))
 have n4_ := Aside0.mk (Kd.R_below (kd_to HOxa) hb)
 have n5_ := Aside0.mk (Nat.le_trans hz_a.out (Nat.le_trans hup.1 hup.2))
 have n6_ := Aside0.mk (Kd.R_below (kd_to HOxb) hb)
 have n7_ := Aside0.mk (Nat.le_trans hz_b.out (Nat.le_trans hup.1 hup.2))
 have nb_ := Aside0.mk (below_step (below_to HB) hb)
 clear BKP hz_P BKQ hz_Q HOxa hz_a HOxb hz_b HB
 have BKP := n0_
 have hz_P := n1_
 have BKQ := n2_
 have hz_Q := n3_
 have HOxa := n4_
 have hz_a := n5_
 have HOxb := n6_
 have hz_b := n7_
 have HB := nb_
 clear n0_ n1_ n2_ n3_ n4_ n5_ n6_ n7_ nb_
 clear hb hup
 (try clear hczP_0 hczP_1 hczP_2 hczP_3 hfzP_0 hfzP_1 hfzP_2 hfzP_3)
 have hczP_0 : W7_.cell? ⟨gbP, 0, none⟩ = some (.int .i64 a0_0) := (blk_cell BKP.out 0).trans rfl
 have hczP_1 : W7_.cell? ⟨gbP, 1, none⟩ = some (.int .i64 a0_1) := (blk_cell BKP.out 1).trans rfl
 have hczP_2 : W7_.cell? ⟨gbP, 2, none⟩ = some (.int .i64 a0_2) := (blk_cell BKP.out 2).trans rfl
 have hczP_3 : W7_.cell? ⟨gbP, 3, none⟩ = some (.slice A0_3 l0_3.length c0_3) := (blk_cell BKP.out 3).trans rfl
 have hfzP_0 := blk_frozen BKP.out 0
 have hfzP_1 := blk_frozen BKP.out 1
 have hfzP_2 := blk_frozen BKP.out 2
 have hfzP_3 := blk_frozen BKP.out 3
 (try clear hczQ_0 hczQ_1 hczQ_2 hczQ_3 hfzQ_0 hfzQ_1 hfzQ_2 hfzQ_3)
 have hczQ_0 : W7_.cell? ⟨gbQ, 0, none⟩ = some (.int .i64 a2_0) := (blk_cell BKQ.out 0).trans rfl
 have hczQ_1 : W7_.cell? ⟨gbQ, 1, none⟩ = some (.int .i64 a2_1) := (blk_cell BKQ.out 1).trans rfl
 have hczQ_2 : W7_.cell? ⟨gbQ, 2, none⟩ = some (.int .i64 a2_2) := (blk_cell BKQ.out 2).trans rfl
 have hczQ_3 : W7_.cell? ⟨gbQ, 3, none⟩ = some (.slice A2_3 l2_3.length c2_3) := (blk_cell BKQ.out 3).trans rfl
 have hfzQ_0 := blk_frozen BKQ.out 0
 have hfzQ_1 := blk_frozen BKQ.out 1
 have hfzQ_2 := blk_frozen BKQ.out 2
 have hfzQ_3 := blk_frozen BKQ.out 3
 refine hK.out _ _ ⟨(blk_cell BKP.out 0).trans rfl, (blk_cell BKP.out 1).trans rfl, (blk_cell BKP.out 2).trans rfl, (blk_cell BKP.out 3).trans rfl, (blk_cell BKQ.out 0).trans rfl, (blk_cell BKQ.out 1).trans rfl, (blk_cell BKQ.out 2).trans rfl, (blk_cell BKQ.out 3).trans rfl⟩ (fun hHeld => ?_)
 clear hK K
 refine norm_ (a' := ?_) ?_ ?_
 rotate_left
 ·show Act.put _ (some 52) _ = _
  simp only [Act.put, List.setIfInBounds_toArray, List.set_cons_zero, List.set_cons_succ, i64_w, i32_w]
  rfl
 refine one_ (i := 9) (N := some 54) (fr_ [10, 7]) rfl rfl (one_of HT_.out (by kernel_rfl)) (by decide) (fun K hK => ?_)
 refine goes_ Try.func7 (by kernel_rfl) rfl #[.agg #[.int .i64 u1, .int .i64 u2, .int .i64 u3, .slice Axa x1.length cxa], .int .i64 a1, .agg #[.int .i64 y1, .int .i64 y2, .int .i64 y3, .slice Axb x2.length cxb], .int .i64 a3, .slice Axc x3.length cxc, .int .i64 a5] (by rfl) rfl rfl am_ ?_
 (with_reducible refine (spec_BestChange.calls k u1 u2 u3 _ _ x1 a1 y1 y2 y3 _ _ x2 a3 _ _ x3 a5 w1 q1 q2 _ ?side1 ?side2 ?side3 ?side4 ?side5 ?side6 F7.out).mono ?_)
 (case side1 => exact cR_ HOxa)
 (case side2 => exact (Kd.R_reads' HOxa.out).2.1)
 (case side3 => exact cR_ HOxb)
 (case side4 => exact (Kd.R_reads' HOxb.out).2.1)
 (case side5 => exact cS_ HOxc)
 (case side6 => exact (Kd.S_reads' HOxc.out).2.1)
 rintro e W8_ ⟨v8, rfl, ho0, hb⟩
 refine ⟨_, rfl, ?_⟩
 have hup := Go.Proofs.Ythdnodmidbcgpaa.XWalk.upB (wp := W7_) hb (by repeat (first | (with_reducible first | exact Below.refl _ _ | apply below_alloc | apply pw_below_drewN | apply below_drew1) | exact Below.refl _ _))
 obtain ⟨Axw, cxw, rfl⟩ := Kd.R_slice ho0
 obtain ⟨nxw, mxw, en_, em_, hs_⟩ := Go.Proofs.Ythdnodmidbcgpaa.XWalk.bornR (w := w) hb ho0 (below_size (below_to HB))
 have ord_P_w := Aside0.mk (show (gbP + 1) ≤ nxw from by rw [en_]; exact Nat.le_trans hz_P.out hup.1)
 have ord_Q_w := Aside0.mk (show (gbQ + 1) ≤ nxw from by rw [en_]; exact Nat.le_trans hz_Q.out hup.1)
 have ord_a_w := Aside0.mk (show mxa ≤ nxw from by rw [en_]; exact Nat.le_trans hz_a.out hup.1)
 have ord_b_w := Aside0.mk (show mxb ≤ nxw from by rw [en_]; exact Nat.le_trans hz_b.out hup.1)
 have ord_c_w := Aside0.mk (show mxc ≤ nxw from by rw [en_]; exact Nat.le_trans hz_c.out hup.1)
 have hz_w := Aside0.mk (show mxw ≤ W8_.heap.size from by rw [em_]; exact Nat.le_refl _)
 have HOxw := Aside0.mk hs_
 clear en_ em_ hs_ ho0
 have n0_ := Aside0.mk (blk_below (blk_to BKP) hb)
 have n1_ := Aside0.mk (Nat.le_trans hz_P.out (Nat.le_trans hup.1 hup.2))
 have n2_ := Aside0.mk (blk_below (blk_to BKQ) hb)
 have n3_ := Aside0.mk (Nat.le_trans hz_Q.out (Nat.le_trans hup.1 hup.2))
 have n4_ := Aside0.mk (Kd.R_below (kd_to HOxa) hb)
 have n5_ := Aside0.mk (Nat.le_trans hz_a.out (Nat.le_trans hup.1 hup.2))
 have n6_ := Aside0.mk (Kd.R_below (kd_to HOxb) hb)
 have n7_ := Aside0.mk (Nat.le_trans hz_b.out (Nat.le_trans hup.1 hup.2))
 have n8_ := Aside0.mk (Kd.S_below (sd_to HOxc) hb)
 have n9_ := Aside0.mk (Nat.le_trans hz_c.out (Nat.le_trans hup.1 hup.2))
 have nb_ := Aside0.mk (below_step (below_to HB) hb)
 clear BKP hz_P BKQ hz_Q HOxa hz_a HOxb hz_b HOxc hz_c HB
 have BKP := n0_
 have hz_P := n1_
 have BKQ := n2_
 have hz_Q := n3_
 have HOxa := n4_
 have hz_a := n5_
 have HOxb := n6_
 have hz_b := n7_
 have HOxc := n8_
 have hz_c := n9_
 have HB := nb_
 clear n0_ n1_ n2_ n3_ n4_ n5_ n6_ n7_ n8_ n9_ nb_
 clear hb hup
 clear HOxa hz_a
 clear HOxb hz_b
 clear HOxc hz_c
 (try clear hczP_0 hczP_1 hczP_2 hczP_3 hfzP_0 hfzP_1 hfzP_2 hfzP_3)
 have hczP_0 : W8_.cell? ⟨gbP, 0, none⟩ = some (.int .i64 a0_0) := (blk_cell BKP.out 0).trans rfl
 have hczP_1 : W8_.cell? ⟨gbP, 1, none⟩ = some (.int .i64 a0_1) := (blk_cell BKP.out 1).trans rfl
 have hczP_2 : W8_.cell? ⟨gbP, 2, none⟩ = some (.int .i64 a0_2) := (blk_cell BKP.out 2).trans rfl
 have hczP_3 : W8_.cell? ⟨gbP, 3, none⟩ = some (.slice A0_3 l0_3.length c0_3) := (blk_cell BKP.out 3).trans rfl
 have hfzP_0 := blk_frozen BKP.out 0
 have hfzP_1 := blk_frozen BKP.out 1
 have hfzP_2 := blk_frozen BKP.out 2
 have hfzP_3 := blk_frozen BKP.out 3
 (try clear hczQ_0 hczQ_1 hczQ_2 hczQ_3 hfzQ_0 hfzQ_1 hfzQ_2 hfzQ_3)
 have hczQ_0 : W8_.cell? ⟨gbQ, 0, none⟩ = some (.int .i64 a2_0) := (blk_cell BKQ.out 0).trans rfl
 have hczQ_1 : W8_.cell? ⟨gbQ, 1, none⟩ = some (.int .i64 a2_1) := (blk_cell BKQ.out 1).trans rfl
 have hczQ_2 : W8_.cell? ⟨gbQ, 2, none⟩ = some (.int .i64 a2_2) := (blk_cell BKQ.out 2).trans rfl
 have hczQ_3 : W8_.cell? ⟨gbQ, 3, none⟩ = some (.slice A2_3 l2_3.length c2_3) := (blk_cell BKQ.out 3).trans rfl
 have hfzQ_0 := blk_frozen BKQ.out 0
 have hfzQ_1 := blk_frozen BKQ.out 1
 have hfzQ_2 := blk_frozen BKQ.out 2
 have hfzQ_3 := blk_frozen BKQ.out 3
 refine hK.out _ _ ⟨(blk_cell BKP.out 0).trans rfl, (blk_cell BKP.out 1).trans rfl, (blk_cell BKP.out 2).trans rfl, (blk_cell BKP.out 3).trans rfl, (blk_cell BKQ.out 0).trans rfl, (blk_cell BKQ.out 1).trans rfl, (blk_cell BKQ.out 2).trans rfl, (blk_cell BKQ.out 3).trans rfl⟩ (fun hHeld => ?_)
 clear hK K
 refine norm_ (a' := ?_) ?_ ?_
 rotate_left
 ·show Act.put _ (some 54) _ = _
  simp only [Act.put, List.setIfInBounds_toArray, List.set_cons_zero, List.set_cons_succ, i64_w, i32_w]
  rfl
 refine purS_ (i := 10) (N := some 44) (fl_ 17 11) HT_.out ?_
 refine purS_ (i := 11) (N := some 55) (fl_ 17 12) HT_.out ?_
 refine purS_ (i := 12) (N := some 56) (fl_ 17 13) HT_.out ?_
 refine purS_ (i := 13) (N := some 57) (fl_ 17 14) HT_.out ?_
 refine purS_ (i := 14) (N := some 14) (fl_ 17 15) HT_.out ?_
 refine purS_ (i := 15) (N := some 15) (fl_ 17 16) HT_.out ?_
 refine purS_ (i := 16) (N := some 16) (fl_ 17 17) HT_.out ?_
 refine done_ (done_of HT_.out (by kernel_rfl)) ?_
 try go_wp2_with (first | ((with_reducible refine gate_callee (f := 8) rfl ?_); refine goesL_ (some 59) rfl rfl Try.func8 (by kernel_rfl) rfl #[.agg #[.int .i64 a0_0, .int .i64 a0_1, .int .i64 a0_2, .slice A0_3 l0_3.length c0_3]] rfl am_ ?_; (with_reducible refine (laws_toLine.calls k a0_0 a0_1 a0_2 _ _ l0_3 u1 u2 u3 x1 _ ?side1 ?side2 F4.out).mono ?_); (case side1 => exact cb_ HR0_3 HB); (case side2 => exact HC0_3.out); rintro e W9_ ⟨v9, rfl, ho0, hb⟩; refine ⟨_, rfl, ?_⟩; have hup := Go.Proofs.Ythdnodmidbcgpaa.XWalk.upB (wp := W8_) hb (by repeat (first | (with_reducible first | exact Below.refl _ _ | apply below_alloc | apply pw_below_drewN | apply below_drew1) | exact Below.refl _ _)); obtain ⟨Axd, cxd, rfl⟩ := Kd.R_slice ho0; obtain ⟨nxd, mxd, en_, em_, hs_⟩ := Go.Proofs.Ythdnodmidbcgpaa.XWalk.bornR (w := w) hb ho0 (below_size (below_to HB)); have ord_P_d := Aside0.mk (show (gbP + 1) ≤ nxd from by rw [en_]; exact Nat.le_trans hz_P.out hup.1); have ord_Q_d := Aside0.mk (show (gbQ + 1) ≤ nxd from by rw [en_]; exact Nat.le_trans hz_Q.out hup.1); have ord_w_d := Aside0.mk (show mxw ≤ nxd from by rw [en_]; exact Nat.le_trans hz_w.out hup.1); have hz_d := Aside0.mk (show mxd ≤ W9_.heap.size from by rw [em_]; exact Nat.le_refl _); have HOxd := Aside0.mk hs_; clear en_ em_ hs_ ho0; have n0_ := Aside0.mk (blk_below (blk_to BKP) hb); have n1_ := Aside0.mk (Nat.le_trans hz_P.out (Nat.le_trans hup.1 hup.2)); have n2_ := Aside0.mk (blk_below (blk_to BKQ) hb); have n3_ := Aside0.mk (Nat.le_trans hz_Q.out (Nat.le_trans hup.1 hup.2)); have n4_ := Aside0.mk (Kd.R_below (kd_to HOxw) hb); have n5_ := Aside0.mk (Nat.le_trans hz_w.out (Nat.le_trans hup.1 hup.2)); have nb_ := Aside0.mk (below_step (below_to HB) hb); clear BKP hz_P BKQ hz_Q HOxw hz_w HB; have BKP := n0_; have hz_P := n1_; have BKQ := n2_; have hz_Q := n3_; have HOxw := n4_; have hz_w := n5_; have HB := nb_; clear n0_ n1_ n2_ n3_ n4_ n5_ nb_; clear hb hup; (try clear hczP_0 hczP_1 hczP_2 hczP_3 hfzP_0 hfzP_1 hfzP_2 hfzP_3); have hczP_0 : W9_.cell? ⟨gbP, 0, none⟩ = some (.int .i64 a0_0) := (blk_cell BKP.out 0).trans rfl; have hczP_1 : W9_.cell? ⟨gbP, 1, none⟩ = some (.int .i64 a0_1) := (blk_cell BKP.out 1).trans rfl; have hczP_2 : W9_.cell? ⟨gbP, 2, none⟩ = some (.int .i64 a0_2) := (blk_cell BKP.out 2).trans rfl; have hczP_3 : W9_.cell? ⟨gbP, 3, none⟩ = some (.slice A0_3 l0_3.length c0_3) := (blk_cell BKP.out 3).trans rfl; have hfzP_0 := blk_frozen BKP.out 0; have hfzP_1 := blk_frozen BKP.out 1; have hfzP_2 := blk_frozen BKP.out 2; have hfzP_3 := blk_frozen BKP.out 3; (try clear hczQ_0 hczQ_1 hczQ_2 hczQ_3 hfzQ_0 hfzQ_1 hfzQ_2 hfzQ_3); have hczQ_0 : W9_.cell? ⟨gbQ, 0, none⟩ = some (.int .i64 a2_0) := (blk_cell BKQ.out 0).trans rfl; have hczQ_1 : W9_.cell? ⟨gbQ, 1, none⟩ = some (.int .i64 a2_1) := (blk_cell BKQ.out 1).trans rfl; have hczQ_2 : W9_.cell? ⟨gbQ, 2, none⟩ = some (.int .i64 a2_2) := (blk_cell BKQ.out 2).trans rfl; have hczQ_3 : W9_.cell? ⟨gbQ, 3, none⟩ = some (.slice A2_3 l2_3.length c2_3) := (blk_cell BKQ.out 3).trans rfl; have hfzQ_0 := blk_frozen BKQ.out 0; have hfzQ_1 := blk_frozen BKQ.out 1; have hfzQ_2 := blk_frozen BKQ.out 2; have hfzQ_3 := blk_frozen BKQ.out 3) | ((with_reducible refine gate_dst (N := 17) rfl ?_); refine box_event ?hg (N := 17) ?hd (cs := #[.int .i64 0, .int .i64 0, .int .i64 0, .slice none 0 0]) (t := 30) ?hr ?_; (case hd => rfl); (case hg => rfl); (case hr => first | (go_simp; done) | (go_simp; rfl)); intro gbX hg W10_ hbox hb; have hup := Go.Proofs.Ythdnodmidbcgpaa.XWalk.upB (wp := W9_) hb (by repeat (first | (with_reducible first | exact Below.refl _ _ | apply below_alloc | apply pw_below_drewN | apply below_drew1) | exact Below.refl _ _)); have ord_P_X := Aside0.mk (show (gbP + 1) ≤ gbX from by rw [hg]; exact Nat.le_trans hz_P.out hup.1); have ord_Q_X := Aside0.mk (show (gbQ + 1) ≤ gbX from by rw [hg]; exact Nat.le_trans hz_Q.out hup.1); have ord_w_X := Aside0.mk (show mxw ≤ gbX from by rw [hg]; exact Nat.le_trans hz_w.out hup.1); have ord_d_X := Aside0.mk (show mxd ≤ gbX from by rw [hg]; exact Nat.le_trans hz_d.out hup.1); have hz_X := Aside0.mk (show (gbX + 1) ≤ W10_.heap.size from blk_lt hbox); have GEX := Aside0.mk (show w.heap.size ≤ gbX from by rw [hg]; exact below_size (below_to HB)); have n0_ := Aside0.mk (blk_below (blk_to BKP) hb); have n1_ := Aside0.mk (Nat.le_trans hz_P.out (Nat.le_trans hup.1 hup.2)); have n2_ := Aside0.mk (blk_below (blk_to BKQ) hb); have n3_ := Aside0.mk (Nat.le_trans hz_Q.out (Nat.le_trans hup.1 hup.2)); have n4_ := Aside0.mk (Kd.R_below (kd_to HOxw) hb); have n5_ := Aside0.mk (Nat.le_trans hz_w.out (Nat.le_trans hup.1 hup.2)); have n6_ := Aside0.mk (Kd.R_below (kd_to HOxd) hb); have n7_ := Aside0.mk (Nat.le_trans hz_d.out (Nat.le_trans hup.1 hup.2)); have nb_ := Aside0.mk (below_step (below_to HB) hb); clear BKP hz_P BKQ hz_Q HOxw hz_w HOxd hz_d HB; have BKP := n0_; have hz_P := n1_; have BKQ := n2_; have hz_Q := n3_; have HOxw := n4_; have hz_w := n5_; have HOxd := n6_; have hz_d := n7_; have HB := nb_; clear n0_ n1_ n2_ n3_ n4_ n5_ n6_ n7_ nb_; have BKX := Aside0.mk hbox; clear hb hup hg hbox; (try clear hczP_0 hczP_1 hczP_2 hczP_3 hfzP_0 hfzP_1 hfzP_2 hfzP_3); have hczP_0 : W10_.cell? ⟨gbP, 0, none⟩ = some (.int .i64 a0_0) := (blk_cell BKP.out 0).trans rfl; have hczP_1 : W10_.cell? ⟨gbP, 1, none⟩ = some (.int .i64 a0_1) := (blk_cell BKP.out 1).trans rfl; have hczP_2 : W10_.cell? ⟨gbP, 2, none⟩ = some (.int .i64 a0_2) := (blk_cell BKP.out 2).trans rfl; have hczP_3 : W10_.cell? ⟨gbP, 3, none⟩ = some (.slice A0_3 l0_3.length c0_3) := (blk_cell BKP.out 3).trans rfl; have hfzP_0 := blk_frozen BKP.out 0; have hfzP_1 := blk_frozen BKP.out 1; have hfzP_2 := blk_frozen BKP.out 2; have hfzP_3 := blk_frozen BKP.out 3; (try clear hczQ_0 hczQ_1 hczQ_2 hczQ_3 hfzQ_0 hfzQ_1 hfzQ_2 hfzQ_3); have hczQ_0 : W10_.cell? ⟨gbQ, 0, none⟩ = some (.int .i64 a2_0) := (blk_cell BKQ.out 0).trans rfl; have hczQ_1 : W10_.cell? ⟨gbQ, 1, none⟩ = some (.int .i64 a2_1) := (blk_cell BKQ.out 1).trans rfl; have hczQ_2 : W10_.cell? ⟨gbQ, 2, none⟩ = some (.int .i64 a2_2) := (blk_cell BKQ.out 2).trans rfl; have hczQ_3 : W10_.cell? ⟨gbQ, 3, none⟩ = some (.slice A2_3 l2_3.length c2_3) := (blk_cell BKQ.out 3).trans rfl; have hfzQ_0 := blk_frozen BKQ.out 0; have hfzQ_1 := blk_frozen BKQ.out 1; have hfzQ_2 := blk_frozen BKQ.out 2; have hfzQ_3 := blk_frozen BKQ.out 3; (try clear hczX_0 hczX_1 hczX_2 hczX_3 hfzX_0 hfzX_1 hfzX_2 hfzX_3); have hczX_0 : W10_.cell? ⟨gbX, 0, none⟩ = some (.int .i64 0) := (blk_cell BKX.out 0).trans rfl; have hczX_1 : W10_.cell? ⟨gbX, 1, none⟩ = some (.int .i64 0) := (blk_cell BKX.out 1).trans rfl; have hczX_2 : W10_.cell? ⟨gbX, 2, none⟩ = some (.int .i64 0) := (blk_cell BKX.out 2).trans rfl; have hczX_3 : W10_.cell? ⟨gbX, 3, none⟩ = some (.slice none 0 0) := (blk_cell BKX.out 3).trans rfl; have hfzX_0 := blk_frozen BKX.out 0; have hfzX_1 := blk_frozen BKX.out 1; have hfzX_2 := blk_frozen BKX.out 2; have hfzX_3 := blk_frozen BKX.out 3) | ((with_reducible refine gate_store (t := 30) (p := 17) rfl ?_); refine store_event (t := 30) (p := 17) (v := ?vo_) (w1 := ((((W10_.setCell ⟨gbX, 0, none⟩ (.int .i64 u1)).setCell ⟨gbX, 1, none⟩ (.int .i64 u2)).setCell ⟨gbX, 2, none⟩ (.int .i64 u3)).setCell ⟨gbX, 3, none⟩ (.slice Axd x1.length cxd))) ?hg ?ho ?hn ?hr ?_; (case ho => rfl); (case hg => rfl); (case hn => rfl); (case hr => first | (go_simp; done) | (go_simp; rfl)); intro W11_ hw; have n0_ := Aside0.mk (Go.Proofs.Ythdnodmidbcgpaa.XWalk.far4B BKP.out hw (by have h_ := ord_P_X.out; omega)); have n1_ := Aside0.mk (Go.Proofs.Ythdnodmidbcgpaa.XWalk.size4 hz_P.out hw); have n2_ := Aside0.mk (Go.Proofs.Ythdnodmidbcgpaa.XWalk.far4B BKQ.out hw (by have h_ := ord_Q_X.out; omega)); have n3_ := Aside0.mk (Go.Proofs.Ythdnodmidbcgpaa.XWalk.size4 hz_Q.out hw); have n4_ := Aside0.mk (Go.Proofs.Ythdnodmidbcgpaa.XWalk.far4R HOxw.out hw (fun k_ h_ => Go.Proofs.Ythdnodmidbcgpaa.XWalk.ne4 (show nxw ≤ k_ ∧ k_ < mxw from h_) (.inl ord_w_X.out))); have n5_ := Aside0.mk (Go.Proofs.Ythdnodmidbcgpaa.XWalk.size4 hz_w.out hw); have n6_ := Aside0.mk (Go.Proofs.Ythdnodmidbcgpaa.XWalk.far4R HOxd.out hw (fun k_ h_ => Go.Proofs.Ythdnodmidbcgpaa.XWalk.ne4 (show nxd ≤ k_ ∧ k_ < mxd from h_) (.inl ord_d_X.out))); have n7_ := Aside0.mk (Go.Proofs.Ythdnodmidbcgpaa.XWalk.size4 hz_d.out hw); have n8_ := Aside0.mk (Go.Proofs.Ythdnodmidbcgpaa.XWalk.put4 (BKX).out hw); have n9_ := Aside0.mk (Go.Proofs.Ythdnodmidbcgpaa.XWalk.size4 hz_X.out hw); have nb_ := Aside0.mk (Go.Proofs.Ythdnodmidbcgpaa.XWalk.below4 (below_to HB) GEX.out hw); clear BKP hz_P BKQ hz_Q HOxw hz_w HOxd hz_d BKX hz_X HB; have BKP := n0_; have hz_P := n1_; have BKQ := n2_; have hz_Q := n3_; have HOxw := n4_; have hz_w := n5_; have HOxd := n6_; have hz_d := n7_; have BKX := n8_; have hz_X := n9_; have HB := nb_; clear n0_ n1_ n2_ n3_ n4_ n5_ n6_ n7_ n8_ n9_ nb_; clear hw; (try clear hczP_0 hczP_1 hczP_2 hczP_3 hfzP_0 hfzP_1 hfzP_2 hfzP_3); have hczP_0 : W11_.cell? ⟨gbP, 0, none⟩ = some (.int .i64 a0_0) := (blk_cell BKP.out 0).trans rfl; have hczP_1 : W11_.cell? ⟨gbP, 1, none⟩ = some (.int .i64 a0_1) := (blk_cell BKP.out 1).trans rfl; have hczP_2 : W11_.cell? ⟨gbP, 2, none⟩ = some (.int .i64 a0_2) := (blk_cell BKP.out 2).trans rfl; have hczP_3 : W11_.cell? ⟨gbP, 3, none⟩ = some (.slice A0_3 l0_3.length c0_3) := (blk_cell BKP.out 3).trans rfl; have hfzP_0 := blk_frozen BKP.out 0; have hfzP_1 := blk_frozen BKP.out 1; have hfzP_2 := blk_frozen BKP.out 2; have hfzP_3 := blk_frozen BKP.out 3; (try clear hczQ_0 hczQ_1 hczQ_2 hczQ_3 hfzQ_0 hfzQ_1 hfzQ_2 hfzQ_3); have hczQ_0 : W11_.cell? ⟨gbQ, 0, none⟩ = some (.int .i64 a2_0) := (blk_cell BKQ.out 0).trans rfl; have hczQ_1 : W11_.cell? ⟨gbQ, 1, none⟩ = some (.int .i64 a2_1) := (blk_cell BKQ.out 1).trans rfl; have hczQ_2 : W11_.cell? ⟨gbQ, 2, none⟩ = some (.int .i64 a2_2) := (blk_cell BKQ.out 2).trans rfl; have hczQ_3 : W11_.cell? ⟨gbQ, 3, none⟩ = some (.slice A2_3 l2_3.length c2_3) := (blk_cell BKQ.out 3).trans rfl; have hfzQ_0 := blk_frozen BKQ.out 0; have hfzQ_1 := blk_frozen BKQ.out 1; have hfzQ_2 := blk_frozen BKQ.out 2; have hfzQ_3 := blk_frozen BKQ.out 3; (try clear hczX_0 hczX_1 hczX_2 hczX_3 hfzX_0 hfzX_1 hfzX_2 hfzX_3); have hczX_0 : W11_.cell? ⟨gbX, 0, none⟩ = some (.int .i64 u1) := (blk_cell BKX.out 0).trans rfl; have hczX_1 : W11_.cell? ⟨gbX, 1, none⟩ = some (.int .i64 u2) := (blk_cell BKX.out 1).trans rfl; have hczX_2 : W11_.cell? ⟨gbX, 2, none⟩ = some (.int .i64 u3) := (blk_cell BKX.out 2).trans rfl; have hczX_3 : W11_.cell? ⟨gbX, 3, none⟩ = some (.slice Axd x1.length cxd) := (blk_cell BKX.out 3).trans rfl; have hfzX_0 := blk_frozen BKX.out 0; have hfzX_1 := blk_frozen BKX.out 1; have hfzX_2 := blk_frozen BKX.out 2; have hfzX_3 := blk_frozen BKX.out 3) | ((with_reducible refine gate_callee (f := 8) rfl ?_); refine goesL_ (some 61) rfl rfl Try.func8 (by kernel_rfl) rfl #[.agg #[.int .i64 a2_0, .int .i64 a2_1, .int .i64 a2_2, .slice A2_3 l2_3.length c2_3]] rfl am_ ?_; (with_reducible refine (laws_toLine.calls k a2_0 a2_1 a2_2 _ _ l2_3 y1 y2 y3 x2 _ ?side1 ?side2 F5.out).mono ?_); (case side1 => exact cb_ HR2_3 HB); (case side2 => exact HC2_3.out); rintro e W12_ ⟨v12, rfl, ho0, hb⟩; refine ⟨_, rfl, ?_⟩; have hup := Go.Proofs.Ythdnodmidbcgpaa.XWalk.upB (wp := W11_) hb (by repeat (first | (with_reducible first | exact Below.refl _ _ | apply below_alloc | apply pw_below_drewN | apply below_drew1) | exact Below.refl _ _)); obtain ⟨Axe, cxe, rfl⟩ := Kd.R_slice ho0; obtain ⟨nxe, mxe, en_, em_, hs_⟩ := Go.Proofs.Ythdnodmidbcgpaa.XWalk.bornR (w := w) hb ho0 (below_size (below_to HB)); have ord_P_e := Aside0.mk (show (gbP + 1) ≤ nxe from by rw [en_]; exact Nat.le_trans hz_P.out hup.1); have ord_Q_e := Aside0.mk (show (gbQ + 1) ≤ nxe from by rw [en_]; exact Nat.le_trans hz_Q.out hup.1); have ord_w_e := Aside0.mk (show mxw ≤ nxe from by rw [en_]; exact Nat.le_trans hz_w.out hup.1); have ord_d_e := Aside0.mk (show mxd ≤ nxe from by rw [en_]; exact Nat.le_trans hz_d.out hup.1); have ord_X_e := Aside0.mk (show (gbX + 1) ≤ nxe from by rw [en_]; exact Nat.le_trans hz_X.out hup.1); have hz_e := Aside0.mk (show mxe ≤ W12_.heap.size from by rw [em_]; exact Nat.le_refl _); have HOxe := Aside0.mk hs_; clear en_ em_ hs_ ho0; have n0_ := Aside0.mk (blk_below (blk_to BKP) hb); have n1_ := Aside0.mk (Nat.le_trans hz_P.out (Nat.le_trans hup.1 hup.2)); have n2_ := Aside0.mk (blk_below (blk_to BKQ) hb); have n3_ := Aside0.mk (Nat.le_trans hz_Q.out (Nat.le_trans hup.1 hup.2)); have n4_ := Aside0.mk (Kd.R_below (kd_to HOxw) hb); have n5_ := Aside0.mk (Nat.le_trans hz_w.out (Nat.le_trans hup.1 hup.2)); have n6_ := Aside0.mk (Kd.R_below (kd_to HOxd) hb); have n7_ := Aside0.mk (Nat.le_trans hz_d.out (Nat.le_trans hup.1 hup.2)); have n8_ := Aside0.mk (blk_below (blk_to BKX) hb); have n9_ := Aside0.mk (Nat.le_trans hz_X.out (Nat.le_trans hup.1 hup.2)); have nb_ := Aside0.mk (below_step (below_to HB) hb); clear BKP hz_P BKQ hz_Q HOxw hz_w HOxd hz_d BKX hz_X HB; have BKP := n0_; have hz_P := n1_; have BKQ := n2_; have hz_Q := n3_; have HOxw := n4_; have hz_w := n5_; have HOxd := n6_; have hz_d := n7_; have BKX := n8_; have hz_X := n9_; have HB := nb_; clear n0_ n1_ n2_ n3_ n4_ n5_ n6_ n7_ n8_ n9_ nb_; clear hb hup; (try clear hczP_0 hczP_1 hczP_2 hczP_3 hfzP_0 hfzP_1 hfzP_2 hfzP_3); have hczP_0 : W12_.cell? ⟨gbP, 0, none⟩ = some (.int .i64 a0_0) := (blk_cell BKP.out 0).trans rfl; have hczP_1 : W12_.cell? ⟨gbP, 1, none⟩ = some (.int .i64 a0_1) := (blk_cell BKP.out 1).trans rfl; have hczP_2 : W12_.cell? ⟨gbP, 2, none⟩ = some (.int .i64 a0_2) := (blk_cell BKP.out 2).trans rfl; have hczP_3 : W12_.cell? ⟨gbP, 3, none⟩ = some (.slice A0_3 l0_3.length c0_3) := (blk_cell BKP.out 3).trans rfl; have hfzP_0 := blk_frozen BKP.out 0; have hfzP_1 := blk_frozen BKP.out 1; have hfzP_2 := blk_frozen BKP.out 2; have hfzP_3 := blk_frozen BKP.out 3; (try clear hczQ_0 hczQ_1 hczQ_2 hczQ_3 hfzQ_0 hfzQ_1 hfzQ_2 hfzQ_3); have hczQ_0 : W12_.cell? ⟨gbQ, 0, none⟩ = some (.int .i64 a2_0) := (blk_cell BKQ.out 0).trans rfl; have hczQ_1 : W12_.cell? ⟨gbQ, 1, none⟩ = some (.int .i64 a2_1) := (blk_cell BKQ.out 1).trans rfl; have hczQ_2 : W12_.cell? ⟨gbQ, 2, none⟩ = some (.int .i64 a2_2) := (blk_cell BKQ.out 2).trans rfl; have hczQ_3 : W12_.cell? ⟨gbQ, 3, none⟩ = some (.slice A2_3 l2_3.length c2_3) := (blk_cell BKQ.out 3).trans rfl; have hfzQ_0 := blk_frozen BKQ.out 0; have hfzQ_1 := blk_frozen BKQ.out 1; have hfzQ_2 := blk_frozen BKQ.out 2; have hfzQ_3 := blk_frozen BKQ.out 3; (try clear hczX_0 hczX_1 hczX_2 hczX_3 hfzX_0 hfzX_1 hfzX_2 hfzX_3); have hczX_0 : W12_.cell? ⟨gbX, 0, none⟩ = some (.int .i64 u1) := (blk_cell BKX.out 0).trans rfl; have hczX_1 : W12_.cell? ⟨gbX, 1, none⟩ = some (.int .i64 u2) := (blk_cell BKX.out 1).trans rfl; have hczX_2 : W12_.cell? ⟨gbX, 2, none⟩ = some (.int .i64 u3) := (blk_cell BKX.out 2).trans rfl; have hczX_3 : W12_.cell? ⟨gbX, 3, none⟩ = some (.slice Axd x1.length cxd) := (blk_cell BKX.out 3).trans rfl; have hfzX_0 := blk_frozen BKX.out 0; have hfzX_1 := blk_frozen BKX.out 1; have hfzX_2 := blk_frozen BKX.out 2; have hfzX_3 := blk_frozen BKX.out 3) | ((with_reducible refine gate_dst (N := 18) rfl ?_); refine box_event ?hg (N := 18) ?hd (cs := #[.int .i64 0, .int .i64 0, .int .i64 0, .slice none 0 0]) (t := 30) ?hr ?_; (case hd => rfl); (case hg => rfl); (case hr => first | (go_simp; done) | (go_simp; rfl)); intro gbY hg W13_ hbox hb; have hup := Go.Proofs.Ythdnodmidbcgpaa.XWalk.upB (wp := W12_) hb (by repeat (first | (with_reducible first | exact Below.refl _ _ | apply below_alloc | apply pw_below_drewN | apply below_drew1) | exact Below.refl _ _)); have ord_P_Y := Aside0.mk (show (gbP + 1) ≤ gbY from by rw [hg]; exact Nat.le_trans hz_P.out hup.1); have ord_Q_Y := Aside0.mk (show (gbQ + 1) ≤ gbY from by rw [hg]; exact Nat.le_trans hz_Q.out hup.1); have ord_w_Y := Aside0.mk (show mxw ≤ gbY from by rw [hg]; exact Nat.le_trans hz_w.out hup.1); have ord_d_Y := Aside0.mk (show mxd ≤ gbY from by rw [hg]; exact Nat.le_trans hz_d.out hup.1); have ord_X_Y := Aside0.mk (show (gbX + 1) ≤ gbY from by rw [hg]; exact Nat.le_trans hz_X.out hup.1); have ord_e_Y := Aside0.mk (show mxe ≤ gbY from by rw [hg]; exact Nat.le_trans hz_e.out hup.1); have hz_Y := Aside0.mk (show (gbY + 1) ≤ W13_.heap.size from blk_lt hbox); have GEY := Aside0.mk (show w.heap.size ≤ gbY from by rw [hg]; exact below_size (below_to HB)); have n0_ := Aside0.mk (blk_below (blk_to BKP) hb); have n1_ := Aside0.mk (Nat.le_trans hz_P.out (Nat.le_trans hup.1 hup.2)); have n2_ := Aside0.mk (blk_below (blk_to BKQ) hb); have n3_ := Aside0.mk (Nat.le_trans hz_Q.out (Nat.le_trans hup.1 hup.2)); have n4_ := Aside0.mk (Kd.R_below (kd_to HOxw) hb); have n5_ := Aside0.mk (Nat.le_trans hz_w.out (Nat.le_trans hup.1 hup.2)); have n6_ := Aside0.mk (Kd.R_below (kd_to HOxd) hb); have n7_ := Aside0.mk (Nat.le_trans hz_d.out (Nat.le_trans hup.1 hup.2)); have n8_ := Aside0.mk (blk_below (blk_to BKX) hb); have n9_ := Aside0.mk (Nat.le_trans hz_X.out (Nat.le_trans hup.1 hup.2)); have n10_ := Aside0.mk (Kd.R_below (kd_to HOxe) hb); have n11_ := Aside0.mk (Nat.le_trans hz_e.out (Nat.le_trans hup.1 hup.2)); have nb_ := Aside0.mk (below_step (below_to HB) hb); clear BKP hz_P BKQ hz_Q HOxw hz_w HOxd hz_d BKX hz_X HOxe hz_e HB; have BKP := n0_; have hz_P := n1_; have BKQ := n2_; have hz_Q := n3_; have HOxw := n4_; have hz_w := n5_; have HOxd := n6_; have hz_d := n7_; have BKX := n8_; have hz_X := n9_; have HOxe := n10_; have hz_e := n11_; have HB := nb_; clear n0_ n1_ n2_ n3_ n4_ n5_ n6_ n7_ n8_ n9_ n10_ n11_ nb_; have BKY := Aside0.mk hbox; clear hb hup hg hbox; (try clear hczP_0 hczP_1 hczP_2 hczP_3 hfzP_0 hfzP_1 hfzP_2 hfzP_3); have hczP_0 : W13_.cell? ⟨gbP, 0, none⟩ = some (.int .i64 a0_0) := (blk_cell BKP.out 0).trans rfl; have hczP_1 : W13_.cell? ⟨gbP, 1, none⟩ = some (.int .i64 a0_1) := (blk_cell BKP.out 1).trans rfl; have hczP_2 : W13_.cell? ⟨gbP, 2, none⟩ = some (.int .i64 a0_2) := (blk_cell BKP.out 2).trans rfl; have hczP_3 : W13_.cell? ⟨gbP, 3, none⟩ = some (.slice A0_3 l0_3.length c0_3) := (blk_cell BKP.out 3).trans rfl; have hfzP_0 := blk_frozen BKP.out 0; have hfzP_1 := blk_frozen BKP.out 1; have hfzP_2 := blk_frozen BKP.out 2; have hfzP_3 := blk_frozen BKP.out 3; (try clear hczQ_0 hczQ_1 hczQ_2 hczQ_3 hfzQ_0 hfzQ_1 hfzQ_2 hfzQ_3); have hczQ_0 : W13_.cell? ⟨gbQ, 0, none⟩ = some (.int .i64 a2_0) := (blk_cell BKQ.out 0).trans rfl; have hczQ_1 : W13_.cell? ⟨gbQ, 1, none⟩ = some (.int .i64 a2_1) := (blk_cell BKQ.out 1).trans rfl; have hczQ_2 : W13_.cell? ⟨gbQ, 2, none⟩ = some (.int .i64 a2_2) := (blk_cell BKQ.out 2).trans rfl; have hczQ_3 : W13_.cell? ⟨gbQ, 3, none⟩ = some (.slice A2_3 l2_3.length c2_3) := (blk_cell BKQ.out 3).trans rfl; have hfzQ_0 := blk_frozen BKQ.out 0; have hfzQ_1 := blk_frozen BKQ.out 1; have hfzQ_2 := blk_frozen BKQ.out 2; have hfzQ_3 := blk_frozen BKQ.out 3; (try clear hczX_0 hczX_1 hczX_2 hczX_3 hfzX_0 hfzX_1 hfzX_2 hfzX_3); have hczX_0 : W13_.cell? ⟨gbX, 0, none⟩ = some (.int .i64 u1) := (blk_cell BKX.out 0).trans rfl; have hczX_1 : W13_.cell? ⟨gbX, 1, none⟩ = some (.int .i64 u2) := (blk_cell BKX.out 1).trans rfl; have hczX_2 : W13_.cell? ⟨gbX, 2, none⟩ = some (.int .i64 u3) := (blk_cell BKX.out 2).trans rfl; have hczX_3 : W13_.cell? ⟨gbX, 3, none⟩ = some (.slice Axd x1.length cxd) := (blk_cell BKX.out 3).trans rfl; have hfzX_0 := blk_frozen BKX.out 0; have hfzX_1 := blk_frozen BKX.out 1; have hfzX_2 := blk_frozen BKX.out 2; have hfzX_3 := blk_frozen BKX.out 3; (try clear hczY_0 hczY_1 hczY_2 hczY_3 hfzY_0 hfzY_1 hfzY_2 hfzY_3); have hczY_0 : W13_.cell? ⟨gbY, 0, none⟩ = some (.int .i64 0) := (blk_cell BKY.out 0).trans rfl; have hczY_1 : W13_.cell? ⟨gbY, 1, none⟩ = some (.int .i64 0) := (blk_cell BKY.out 1).trans rfl; have hczY_2 : W13_.cell? ⟨gbY, 2, none⟩ = some (.int .i64 0) := (blk_cell BKY.out 2).trans rfl; have hczY_3 : W13_.cell? ⟨gbY, 3, none⟩ = some (.slice none 0 0) := (blk_cell BKY.out 3).trans rfl; have hfzY_0 := blk_frozen BKY.out 0; have hfzY_1 := blk_frozen BKY.out 1; have hfzY_2 := blk_frozen BKY.out 2; have hfzY_3 := blk_frozen BKY.out 3) | ((with_reducible refine gate_callee (f := 9) rfl ?_); obtain ⟨W14_, hw⟩ : ∃ x_, x_ = ((((W13_.setCell ⟨gbY, 0, none⟩ (.int .i64 y1)).setCell ⟨gbY, 1, none⟩ (.int .i64 y2)).setCell ⟨gbY, 2, none⟩ (.int .i64 y3)).setCell ⟨gbY, 3, none⟩ (.slice Axe x2.length cxe)) := ⟨_, rfl⟩; rw [← hw]; have n0_ := Aside0.mk (Go.Proofs.Ythdnodmidbcgpaa.XWalk.far4B BKP.out hw (by have h_ := ord_P_Y.out; omega)); have n1_ := Aside0.mk (Go.Proofs.Ythdnodmidbcgpaa.XWalk.size4 hz_P.out hw); have n2_ := Aside0.mk (Go.Proofs.Ythdnodmidbcgpaa.XWalk.far4B BKQ.out hw (by have h_ := ord_Q_Y.out; omega)); have n3_ := Aside0.mk (Go.Proofs.Ythdnodmidbcgpaa.XWalk.size4 hz_Q.out hw); have n4_ := Aside0.mk (Go.Proofs.Ythdnodmidbcgpaa.XWalk.far4R HOxw.out hw (fun k_ h_ => Go.Proofs.Ythdnodmidbcgpaa.XWalk.ne4 (show nxw ≤ k_ ∧ k_ < mxw from h_) (.inl ord_w_Y.out))); have n5_ := Aside0.mk (Go.Proofs.Ythdnodmidbcgpaa.XWalk.size4 hz_w.out hw); have n6_ := Aside0.mk (Go.Proofs.Ythdnodmidbcgpaa.XWalk.far4R HOxd.out hw (fun k_ h_ => Go.Proofs.Ythdnodmidbcgpaa.XWalk.ne4 (show nxd ≤ k_ ∧ k_ < mxd from h_) (.inl ord_d_Y.out))); have n7_ := Aside0.mk (Go.Proofs.Ythdnodmidbcgpaa.XWalk.size4 hz_d.out hw); have n8_ := Aside0.mk (Go.Proofs.Ythdnodmidbcgpaa.XWalk.far4B BKX.out hw (by have h_ := ord_X_Y.out; omega)); have n9_ := Aside0.mk (Go.Proofs.Ythdnodmidbcgpaa.XWalk.size4 hz_X.out hw); have n10_ := Aside0.mk (Go.Proofs.Ythdnodmidbcgpaa.XWalk.far4R HOxe.out hw (fun k_ h_ => Go.Proofs.Ythdnodmidbcgpaa.XWalk.ne4 (show nxe ≤ k_ ∧ k_ < mxe from h_) (.inl ord_e_Y.out))); have n11_ := Aside0.mk (Go.Proofs.Ythdnodmidbcgpaa.XWalk.size4 hz_e.out hw); have n12_ := Aside0.mk (Go.Proofs.Ythdnodmidbcgpaa.XWalk.put4 (BKY).out hw); have n13_ := Aside0.mk (Go.Proofs.Ythdnodmidbcgpaa.XWalk.size4 hz_Y.out hw); have nb_ := Aside0.mk (Go.Proofs.Ythdnodmidbcgpaa.XWalk.below4 (below_to HB) GEY.out hw); clear BKP hz_P BKQ hz_Q HOxw hz_w HOxd hz_d BKX hz_X HOxe hz_e BKY hz_Y HB; have BKP := n0_; have hz_P := n1_; have BKQ := n2_; have hz_Q := n3_; have HOxw := n4_; have hz_w := n5_; have HOxd := n6_; have hz_d := n7_; have BKX := n8_; have hz_X := n9_; have HOxe := n10_; have hz_e := n11_; have BKY := n12_; have hz_Y := n13_; have HB := nb_; clear n0_ n1_ n2_ n3_ n4_ n5_ n6_ n7_ n8_ n9_ n10_ n11_ n12_ n13_ nb_; clear hw; refine goesL_ (some 63) rfl rfl Try.func9 (by kernel_rfl) rfl #[.slice A4 l4.length c4] rfl am_ ?_; (with_reducible refine (laws_toIntSS.calls k _ _ l4 x3 _ ?side1 ?side2 F6.out).mono ?_); (case side1 => exact cb_ HR4 HB); (case side2 => exact HC4.out); rintro e W15_ ⟨v15, rfl, ho0, hb⟩; refine ⟨_, rfl, ?_⟩; have hup := Go.Proofs.Ythdnodmidbcgpaa.XWalk.upB (wp := W14_) hb (by repeat (first | (with_reducible first | exact Below.refl _ _ | apply below_alloc | apply pw_below_drewN | apply below_drew1) | exact Below.refl _ _)); obtain ⟨Axf, cxf, rfl⟩ := Kd.S_slice ho0; obtain ⟨nxf, mxf, en_, em_, hs_⟩ := Go.Proofs.Ythdnodmidbcgpaa.XWalk.bornS (w := w) hb ho0 (below_size (below_to HB)); have ord_P_f := Aside0.mk (show (gbP + 1) ≤ nxf from by rw [en_]; exact Nat.le_trans hz_P.out hup.1); have ord_Q_f := Aside0.mk (show (gbQ + 1) ≤ nxf from by rw [en_]; exact Nat.le_trans hz_Q.out hup.1); have ord_w_f := Aside0.mk (show mxw ≤ nxf from by rw [en_]; exact Nat.le_trans hz_w.out hup.1); have ord_d_f := Aside0.mk (show mxd ≤ nxf from by rw [en_]; exact Nat.le_trans hz_d.out hup.1); have ord_X_f := Aside0.mk (show (gbX + 1) ≤ nxf from by rw [en_]; exact Nat.le_trans hz_X.out hup.1); have ord_e_f := Aside0.mk (show mxe ≤ nxf from by rw [en_]; exact Nat.le_trans hz_e.out hup.1); have ord_Y_f := Aside0.mk (show (gbY + 1) ≤ nxf from by rw [en_]; exact Nat.le_trans hz_Y.out hup.1); have hz_f := Aside0.mk (show mxf ≤ W15_.heap.size from by rw [em_]; exact Nat.le_refl _); have HOxf := Aside0.mk hs_; clear en_ em_ hs_ ho0; have n0_ := Aside0.mk (blk_below (blk_to BKP) hb); have n1_ := Aside0.mk (Nat.le_trans hz_P.out (Nat.le_trans hup.1 hup.2)); have n2_ := Aside0.mk (blk_below (blk_to BKQ) hb); have n3_ := Aside0.mk (Nat.le_trans hz_Q.out (Nat.le_trans hup.1 hup.2)); have n4_ := Aside0.mk (Kd.R_below (kd_to HOxw) hb); have n5_ := Aside0.mk (Nat.le_trans hz_w.out (Nat.le_trans hup.1 hup.2)); have n6_ := Aside0.mk (Kd.R_below (kd_to HOxd) hb); have n7_ := Aside0.mk (Nat.le_trans hz_d.out (Nat.le_trans hup.1 hup.2)); have n8_ := Aside0.mk (blk_below (blk_to BKX) hb); have n9_ := Aside0.mk (Nat.le_trans hz_X.out (Nat.le_trans hup.1 hup.2)); have n10_ := Aside0.mk (Kd.R_below (kd_to HOxe) hb); have n11_ := Aside0.mk (Nat.le_trans hz_e.out (Nat.le_trans hup.1 hup.2)); have n12_ := Aside0.mk (blk_below (blk_to BKY) hb); have n13_ := Aside0.mk (Nat.le_trans hz_Y.out (Nat.le_trans hup.1 hup.2)); have nb_ := Aside0.mk (below_step (below_to HB) hb); clear BKP hz_P BKQ hz_Q HOxw hz_w HOxd hz_d BKX hz_X HOxe hz_e BKY hz_Y HB; have BKP := n0_; have hz_P := n1_; have BKQ := n2_; have hz_Q := n3_; have HOxw := n4_; have hz_w := n5_; have HOxd := n6_; have hz_d := n7_; have BKX := n8_; have hz_X := n9_; have HOxe := n10_; have hz_e := n11_; have BKY := n12_; have hz_Y := n13_; have HB := nb_; clear n0_ n1_ n2_ n3_ n4_ n5_ n6_ n7_ n8_ n9_ n10_ n11_ n12_ n13_ nb_; clear hb hup; (try clear hczP_0 hczP_1 hczP_2 hczP_3 hfzP_0 hfzP_1 hfzP_2 hfzP_3); have hczP_0 : W15_.cell? ⟨gbP, 0, none⟩ = some (.int .i64 a0_0) := (blk_cell BKP.out 0).trans rfl; have hczP_1 : W15_.cell? ⟨gbP, 1, none⟩ = some (.int .i64 a0_1) := (blk_cell BKP.out 1).trans rfl; have hczP_2 : W15_.cell? ⟨gbP, 2, none⟩ = some (.int .i64 a0_2) := (blk_cell BKP.out 2).trans rfl; have hczP_3 : W15_.cell? ⟨gbP, 3, none⟩ = some (.slice A0_3 l0_3.length c0_3) := (blk_cell BKP.out 3).trans rfl; have hfzP_0 := blk_frozen BKP.out 0; have hfzP_1 := blk_frozen BKP.out 1; have hfzP_2 := blk_frozen BKP.out 2; have hfzP_3 := blk_frozen BKP.out 3; (try clear hczQ_0 hczQ_1 hczQ_2 hczQ_3 hfzQ_0 hfzQ_1 hfzQ_2 hfzQ_3); have hczQ_0 : W15_.cell? ⟨gbQ, 0, none⟩ = some (.int .i64 a2_0) := (blk_cell BKQ.out 0).trans rfl; have hczQ_1 : W15_.cell? ⟨gbQ, 1, none⟩ = some (.int .i64 a2_1) := (blk_cell BKQ.out 1).trans rfl; have hczQ_2 : W15_.cell? ⟨gbQ, 2, none⟩ = some (.int .i64 a2_2) := (blk_cell BKQ.out 2).trans rfl; have hczQ_3 : W15_.cell? ⟨gbQ, 3, none⟩ = some (.slice A2_3 l2_3.length c2_3) := (blk_cell BKQ.out 3).trans rfl; have hfzQ_0 := blk_frozen BKQ.out 0; have hfzQ_1 := blk_frozen BKQ.out 1; have hfzQ_2 := blk_frozen BKQ.out 2; have hfzQ_3 := blk_frozen BKQ.out 3; (try clear hczX_0 hczX_1 hczX_2 hczX_3 hfzX_0 hfzX_1 hfzX_2 hfzX_3); have hczX_0 : W15_.cell? ⟨gbX, 0, none⟩ = some (.int .i64 u1) := (blk_cell BKX.out 0).trans rfl; have hczX_1 : W15_.cell? ⟨gbX, 1, none⟩ = some (.int .i64 u2) := (blk_cell BKX.out 1).trans rfl; have hczX_2 : W15_.cell? ⟨gbX, 2, none⟩ = some (.int .i64 u3) := (blk_cell BKX.out 2).trans rfl; have hczX_3 : W15_.cell? ⟨gbX, 3, none⟩ = some (.slice Axd x1.length cxd) := (blk_cell BKX.out 3).trans rfl; have hfzX_0 := blk_frozen BKX.out 0; have hfzX_1 := blk_frozen BKX.out 1; have hfzX_2 := blk_frozen BKX.out 2; have hfzX_3 := blk_frozen BKX.out 3; (try clear hczY_0 hczY_1 hczY_2 hczY_3 hfzY_0 hfzY_1 hfzY_2 hfzY_3); have hczY_0 : W15_.cell? ⟨gbY, 0, none⟩ = some (.int .i64 y1) := (blk_cell BKY.out 0).trans rfl; have hczY_1 : W15_.cell? ⟨gbY, 1, none⟩ = some (.int .i64 y2) := (blk_cell BKY.out 1).trans rfl; have hczY_2 : W15_.cell? ⟨gbY, 2, none⟩ = some (.int .i64 y3) := (blk_cell BKY.out 2).trans rfl; have hczY_3 : W15_.cell? ⟨gbY, 3, none⟩ = some (.slice Axe x2.length cxe) := (blk_cell BKY.out 3).trans rfl; have hfzY_0 := blk_frozen BKY.out 0; have hfzY_1 := blk_frozen BKY.out 1; have hfzY_2 := blk_frozen BKY.out 2; have hfzY_3 := blk_frozen BKY.out 3) | ((with_reducible refine gate_callee (f := 10) rfl ?_); refine goesL_ (some 71) rfl rfl Try.func10 (by kernel_rfl) rfl #[.agg #[.int .i64 u1, .int .i64 u2, .int .i64 u3, .slice Axd x1.length cxd], .int .i64 a1, .agg #[.int .i64 y1, .int .i64 y2, .int .i64 y3, .slice Axe x2.length cxe], .int .i64 a3, .slice Axf x3.length cxf, .int .i64 a5] rfl am_ ?_; (with_reducible refine (impl_BestChange.calls k u1 u2 u3 _ _ x1 a1 y1 y2 y3 _ _ x2 a3 (fun k_ => nxf ≤ k_ ∧ k_ < mxf) _ _ x3 a5 w1 q1 q2 _ ?side1 ?side2 ?side3 ?side4 ?side5 F8.out).mono ?_); (case side1 => exact cR_ HOxd); (case side2 => exact (Kd.R_reads' HOxd.out).2.1); (case side3 => exact cR_ HOxe); (case side4 => exact (Kd.R_reads' HOxe.out).2.1); (case side5 => exact Kd.S_V (sd_to HOxf)); rintro e W16_ ⟨v16, rfl, ho0, hb⟩; refine ⟨_, rfl, ?_⟩; have hup := Go.Proofs.Ythdnodmidbcgpaa.XWalk.upB (wp := W15_) hb (by repeat (first | (with_reducible first | exact Below.refl _ _ | apply below_alloc | apply pw_below_drewN | apply below_drew1) | exact Below.refl _ _)); replace ho0 := Kd.R_mono (ok' := fun _ => True) ho0 (fun _ _ => True.intro); obtain ⟨Axg, cxg, rfl⟩ := Kd.R_slice ho0; obtain ⟨nxg, mxg, en_, em_, hs_⟩ := Go.Proofs.Ythdnodmidbcgpaa.XWalk.bornR (w := w) hb ho0 (below_size (below_to HB)); have ord_P_g := Aside0.mk (show (gbP + 1) ≤ nxg from by rw [en_]; exact Nat.le_trans hz_P.out hup.1); have ord_Q_g := Aside0.mk (show (gbQ + 1) ≤ nxg from by rw [en_]; exact Nat.le_trans hz_Q.out hup.1); have ord_w_g := Aside0.mk (show mxw ≤ nxg from by rw [en_]; exact Nat.le_trans hz_w.out hup.1); have ord_d_g := Aside0.mk (show mxd ≤ nxg from by rw [en_]; exact Nat.le_trans hz_d.out hup.1); have ord_X_g := Aside0.mk (show (gbX + 1) ≤ nxg from by rw [en_]; exact Nat.le_trans hz_X.out hup.1); have ord_e_g := Aside0.mk (show mxe ≤ nxg from by rw [en_]; exact Nat.le_trans hz_e.out hup.1); have ord_Y_g := Aside0.mk (show (gbY + 1) ≤ nxg from by rw [en_]; exact Nat.le_trans hz_Y.out hup.1); have ord_f_g := Aside0.mk (show mxf ≤ nxg from by rw [en_]; exact Nat.le_trans hz_f.out hup.1); have hz_g := Aside0.mk (show mxg ≤ W16_.heap.size from by rw [em_]; exact Nat.le_refl _); have HOxg := Aside0.mk hs_; clear en_ em_ hs_ ho0; have n0_ := Aside0.mk (blk_below (blk_to BKP) hb); have n1_ := Aside0.mk (Nat.le_trans hz_P.out (Nat.le_trans hup.1 hup.2)); have n2_ := Aside0.mk (blk_below (blk_to BKQ) hb); have n3_ := Aside0.mk (Nat.le_trans hz_Q.out (Nat.le_trans hup.1 hup.2)); have n4_ := Aside0.mk (Kd.R_below (kd_to HOxw) hb); have n5_ := Aside0.mk (Nat.le_trans hz_w.out (Nat.le_trans hup.1 hup.2)); have n6_ := Aside0.mk (Kd.R_below (kd_to HOxd) hb); have n7_ := Aside0.mk (Nat.le_trans hz_d.out (Nat.le_trans hup.1 hup.2)); have n8_ := Aside0.mk (blk_below (blk_to BKX) hb); have n9_ := Aside0.mk (Nat.le_trans hz_X.out (Nat.le_trans hup.1 hup.2)); have n10_ := Aside0.mk (Kd.R_below (kd_to HOxe) hb); have n11_ := Aside0.mk (Nat.le_trans hz_e.out (Nat.le_trans hup.1 hup.2)); have n12_ := Aside0.mk (blk_below (blk_to BKY) hb); have n13_ := Aside0.mk (Nat.le_trans hz_Y.out (Nat.le_trans hup.1 hup.2)); have n14_ := Aside0.mk (Kd.S_below (sd_to HOxf) hb); have n15_ := Aside0.mk (Nat.le_trans hz_f.out (Nat.le_trans hup.1 hup.2)); have nb_ := Aside0.mk (below_step (below_to HB) hb); clear BKP hz_P BKQ hz_Q HOxw hz_w HOxd hz_d BKX hz_X HOxe hz_e BKY hz_Y HOxf hz_f HB; have BKP := n0_; have hz_P := n1_; have BKQ := n2_; have hz_Q := n3_; have HOxw := n4_; have hz_w := n5_; have HOxd := n6_; have hz_d := n7_; have BKX := n8_; have hz_X := n9_; have HOxe := n10_; have hz_e := n11_; have BKY := n12_; have hz_Y := n13_; have HOxf := n14_; have hz_f := n15_; have HB := nb_; clear n0_ n1_ n2_ n3_ n4_ n5_ n6_ n7_ n8_ n9_ n10_ n11_ n12_ n13_ n14_ n15_ nb_; clear hb hup; (try clear hczP_0 hczP_1 hczP_2 hczP_3 hfzP_0 hfzP_1 hfzP_2 hfzP_3); have hczP_0 : W16_.cell? ⟨gbP, 0, none⟩ = some (.int .i64 a0_0) := (blk_cell BKP.out 0).trans rfl; have hczP_1 : W16_.cell? ⟨gbP, 1, none⟩ = some (.int .i64 a0_1) := (blk_cell BKP.out 1).trans rfl; have hczP_2 : W16_.cell? ⟨gbP, 2, none⟩ = some (.int .i64 a0_2) := (blk_cell BKP.out 2).trans rfl; have hczP_3 : W16_.cell? ⟨gbP, 3, none⟩ = some (.slice A0_3 l0_3.length c0_3) := (blk_cell BKP.out 3).trans rfl; have hfzP_0 := blk_frozen BKP.out 0; have hfzP_1 := blk_frozen BKP.out 1; have hfzP_2 := blk_frozen BKP.out 2; have hfzP_3 := blk_frozen BKP.out 3; (try clear hczQ_0 hczQ_1 hczQ_2 hczQ_3 hfzQ_0 hfzQ_1 hfzQ_2 hfzQ_3); have hczQ_0 : W16_.cell? ⟨gbQ, 0, none⟩ = some (.int .i64 a2_0) := (blk_cell BKQ.out 0).trans rfl; have hczQ_1 : W16_.cell? ⟨gbQ, 1, none⟩ = some (.int .i64 a2_1) := (blk_cell BKQ.out 1).trans rfl; have hczQ_2 : W16_.cell? ⟨gbQ, 2, none⟩ = some (.int .i64 a2_2) := (blk_cell BKQ.out 2).trans rfl; have hczQ_3 : W16_.cell? ⟨gbQ, 3, none⟩ = some (.slice A2_3 l2_3.length c2_3) := (blk_cell BKQ.out 3).trans rfl; have hfzQ_0 := blk_frozen BKQ.out 0; have hfzQ_1 := blk_frozen BKQ.out 1; have hfzQ_2 := blk_frozen BKQ.out 2; have hfzQ_3 := blk_frozen BKQ.out 3; (try clear hczX_0 hczX_1 hczX_2 hczX_3 hfzX_0 hfzX_1 hfzX_2 hfzX_3); have hczX_0 : W16_.cell? ⟨gbX, 0, none⟩ = some (.int .i64 u1) := (blk_cell BKX.out 0).trans rfl; have hczX_1 : W16_.cell? ⟨gbX, 1, none⟩ = some (.int .i64 u2) := (blk_cell BKX.out 1).trans rfl; have hczX_2 : W16_.cell? ⟨gbX, 2, none⟩ = some (.int .i64 u3) := (blk_cell BKX.out 2).trans rfl; have hczX_3 : W16_.cell? ⟨gbX, 3, none⟩ = some (.slice Axd x1.length cxd) := (blk_cell BKX.out 3).trans rfl; have hfzX_0 := blk_frozen BKX.out 0; have hfzX_1 := blk_frozen BKX.out 1; have hfzX_2 := blk_frozen BKX.out 2; have hfzX_3 := blk_frozen BKX.out 3; (try clear hczY_0 hczY_1 hczY_2 hczY_3 hfzY_0 hfzY_1 hfzY_2 hfzY_3); have hczY_0 : W16_.cell? ⟨gbY, 0, none⟩ = some (.int .i64 y1) := (blk_cell BKY.out 0).trans rfl; have hczY_1 : W16_.cell? ⟨gbY, 1, none⟩ = some (.int .i64 y2) := (blk_cell BKY.out 1).trans rfl; have hczY_2 : W16_.cell? ⟨gbY, 2, none⟩ = some (.int .i64 y3) := (blk_cell BKY.out 2).trans rfl; have hczY_3 : W16_.cell? ⟨gbY, 3, none⟩ = some (.slice Axe x2.length cxe) := (blk_cell BKY.out 3).trans rfl; have hfzY_0 := blk_frozen BKY.out 0; have hfzY_1 := blk_frozen BKY.out 1; have hfzY_2 := blk_frozen BKY.out 2; have hfzY_3 := blk_frozen BKY.out 3) | ((with_reducible refine gate_callee (f := 11) rfl ?_); refine goesL_ (some 77) rfl rfl Try.func11 (by kernel_rfl) rfl #[.slice Axg w1.length cxg, .slice Axw w1.length cxw] rfl am_ ?_; (with_reducible refine (laws_eqIntS.calls k _ _ w1 _ _ w1 true _ ?side1 ?side2 ?side3 ?side4 F9.out).mono ?_); (case side1 => exact cR_ HOxg); (case side2 => exact (Kd.R_reads' HOxg.out).2.1); (case side3 => exact cR_ HOxw); (case side4 => exact (Kd.R_reads' HOxw.out).2.1); rintro e w' ⟨rfl, ⟨nd, rfl⟩⟩; refine ⟨_, rfl, ?_⟩))
 refine start_ (n := 5) (S := fun w' => w'.cell? ⟨gbP, 0, none⟩ = some (.int .i64 a0_0) ∧ w'.cell? ⟨gbP, 1, none⟩ = some (.int .i64 a0_1) ∧ w'.cell? ⟨gbP, 2, none⟩ = some (.int .i64 a0_2) ∧ w'.cell? ⟨gbP, 3, none⟩ = some (.slice A0_3 l0_3.length c0_3) ∧ w'.cell? ⟨gbQ, 0, none⟩ = some (.int .i64 a2_0) ∧ w'.cell? ⟨gbQ, 1, none⟩ = some (.int .i64 a2_1) ∧ w'.cell? ⟨gbQ, 2, none⟩ = some (.int .i64 a2_2) ∧ w'.cell? ⟨gbQ, 3, none⟩ = some (.slice A2_3 l2_3.length c2_3) ∧ w'.cell? ⟨gbX, 0, none⟩ = some (.int .i64 u1) ∧ w'.cell? ⟨gbX, 1, none⟩ = some (.int .i64 u2) ∧ w'.cell? ⟨gbX, 2, none⟩ = some (.int .i64 u3) ∧ w'.cell? ⟨gbX, 3, none⟩ = some (.slice Axd x1.length cxd) ∧ w'.cell? ⟨gbY, 0, none⟩ = some (.int .i64 y1) ∧ w'.cell? ⟨gbY, 1, none⟩ = some (.int .i64 y2) ∧ w'.cell? ⟨gbY, 2, none⟩ = some (.int .i64 y3) ∧ w'.cell? ⟨gbY, 3, none⟩ = some (.slice Axe x2.length cxe)) (ds := []) #[false, false, false, false, false] (by kernel_rfl) rfl rfl ⟨(blk_cell (g := gbP) (cs := #[.int .i64 a0_0, .int .i64 a0_1, .int .i64 a0_2, .slice A0_3 l0_3.length c0_3]) (t := 24) (blk_to BKP) 0).trans rfl, (blk_cell (g := gbP) (cs := #[.int .i64 a0_0, .int .i64 a0_1, .int .i64 a0_2, .slice A0_3 l0_3.length c0_3]) (t := 24) (blk_to BKP) 1).trans rfl, (blk_cell (g := gbP) (cs := #[.int .i64 a0_0, .int .i64 a0_1, .int .i64 a0_2, .slice A0_3 l0_3.length c0_3]) (t := 24) (blk_to BKP) 2).trans rfl, (blk_cell (g := gbP) (cs := #[.int .i64 a0_0, .int .i64 a0_1, .int .i64 a0_2, .slice A0_3 l0_3.length c0_3]) (t := 24) (blk_to BKP) 3).trans rfl, (blk_cell (g := gbQ) (cs := #[.int .i64 a2_0, .int .i64 a2_1, .int .i64 a2_2, .slice A2_3 l2_3.length c2_3]) (t := 24) (blk_to BKQ) 0).trans rfl, (blk_cell (g := gbQ) (cs := #[.int .i64 a2_0, .int .i64 a2_1, .int .i64 a2_2, .slice A2_3 l2_3.length c2_3]) (t := 24) (blk_to BKQ) 1).trans rfl, (blk_cell (g := gbQ) (cs := #[.int .i64 a2_0, .int .i64 a2_1, .int .i64 a2_2, .slice A2_3 l2_3.length c2_3]) (t := 24) (blk_to BKQ) 2).trans rfl, (blk_cell (g := gbQ) (cs := #[.int .i64 a2_0, .int .i64 a2_1, .int .i64 a2_2, .slice A2_3 l2_3.length c2_3]) (t := 24) (blk_to BKQ) 3).trans rfl, (blk_cell (g := gbX) (cs := #[.int .i64 u1, .int .i64 u2, .int .i64 u3, .slice Axd x1.length cxd]) (t := 30) (blk_to BKX) 0).trans rfl, (blk_cell (g := gbX) (cs := #[.int .i64 u1, .int .i64 u2, .int .i64 u3, .slice Axd x1.length cxd]) (t := 30) (blk_to BKX) 1).trans rfl, (blk_cell (g := gbX) (cs := #[.int .i64 u1, .int .i64 u2, .int .i64 u3, .slice Axd x1.length cxd]) (t := 30) (blk_to BKX) 2).trans rfl, (blk_cell (g := gbX) (cs := #[.int .i64 u1, .int .i64 u2, .int .i64 u3, .slice Axd x1.length cxd]) (t := 30) (blk_to BKX) 3).trans rfl, (blk_cell (g := gbY) (cs := #[.int .i64 y1, .int .i64 y2, .int .i64 y3, .slice Axe x2.length cxe]) (t := 30) (blk_to BKY) 0).trans rfl, (blk_cell (g := gbY) (cs := #[.int .i64 y1, .int .i64 y2, .int .i64 y3, .slice Axe x2.length cxe]) (t := 30) (blk_to BKY) 1).trans rfl, (blk_cell (g := gbY) (cs := #[.int .i64 y1, .int .i64 y2, .int .i64 y3, .slice Axe x2.length cxe]) (t := 30) (blk_to BKY) 2).trans rfl, (blk_cell (g := gbY) (cs := #[.int .i64 y1, .int .i64 y2, .int .i64 y3, .slice Axe x2.length cxe]) (t := 30) (blk_to BKY) 3).trans rfl⟩ (fun hHeld => ?_); refine with_tabW lw_.tab18 lw_.bits18 (fun HT_ HW_ => ?_)
 refine take_ (i := 0) (N := some 89) (v := ?_) (a' := ?_) #[true, false, false, false, false] rfl rfl (take_ofW HT_.out HW_.out (by kernel_rfl)) (fun _ _ _ h => h) (Or.inl ⟨by rfl, ?_⟩) hHeld ?_ ?_
 rotate_left
 ·rintro w' ⟨s0, s1, s2, s3, s4, s5, s6, s7, s8, s9, s10, s11, s12, s13, s14, s15⟩
  go_simp
  with_reducible rfl
 rotate_left
 ·simp only [Act.put, List.setIfInBounds_toArray, List.set_cons_zero, List.set_cons_succ, i64_w, i32_w]
  rfl
 refine take_ (i := 1) (N := some 90) (v := ?_) (a' := ?_) #[true, true, false, false, false] rfl rfl (take_ofW HT_.out HW_.out (by kernel_rfl)) (fun _ _ _ h => h) (Or.inl ⟨by rfl, ?_⟩) hHeld ?_ ?_
 rotate_left
 ·rintro w' ⟨s0, s1, s2, s3, s4, s5, s6, s7, s8, s9, s10, s11, s12, s13, s14, s15⟩
  go_simp
  with_reducible rfl
 rotate_left
 ·simp only [Act.put, List.setIfInBounds_toArray, List.set_cons_zero, List.set_cons_succ, i64_w, i32_w]
  rfl
 refine one_ (i := 2) (N := some 91) #[true, true, true, false, false] rfl rfl (one_of HT_.out (by kernel_rfl)) (by decide) (fun K hK => ?_)
 refine goes_ Try.func8 (by kernel_rfl) rfl #[.agg #[.int .i64 a0_0, .int .i64 a0_1, .int .i64 a0_2, .slice A0_3 l0_3.length c0_3]] (by rfl) rfl rfl am_ ?_
 (with_reducible refine (laws_toLine.calls k a0_0 a0_1 a0_2 _ _ l0_3 u1 u2 u3 x1 _ ?side1 ?side2 F4.out).mono ?_)
 (case side1 => exact cb_ HR0_3 HB)
 (case side2 => exact HC0_3.out)
 rintro e W17_ ⟨v17, rfl, ho0, hb⟩
 refine ⟨_, rfl, ?_⟩
 have hup := Go.Proofs.Ythdnodmidbcgpaa.XWalk.upB (wp := W16_) hb (by repeat (first | (with_reducible first | exact Below.refl _ _ | apply below_alloc | apply pw_below_drewN | apply below_drew1) | exact Below.refl _ _))
 obtain ⟨Axh, cxh, rfl⟩ := Kd.R_slice ho0
 obtain ⟨nxh, mxh, en_, em_, hs_⟩ := Go.Proofs.Ythdnodmidbcgpaa.XWalk.bornR (w := w) hb ho0 (below_size (below_to HB))
 have ord_P_h := Aside0.mk (show (gbP + 1) ≤ nxh from by rw [en_]; exact Nat.le_trans hz_P.out hup.1)
 have ord_Q_h := Aside0.mk (show (gbQ + 1) ≤ nxh from by rw [en_]; exact Nat.le_trans hz_Q.out hup.1)
 have ord_w_h := Aside0.mk (show mxw ≤ nxh from by rw [en_]; exact Nat.le_trans hz_w.out hup.1)
 have ord_d_h := Aside0.mk (show mxd ≤ nxh from by rw [en_]; exact Nat.le_trans hz_d.out hup.1)
 have ord_X_h := Aside0.mk (show (gbX + 1) ≤ nxh from by rw [en_]; exact Nat.le_trans hz_X.out hup.1)
 have ord_e_h := Aside0.mk (show mxe ≤ nxh from by rw [en_]; exact Nat.le_trans hz_e.out hup.1)
 have ord_Y_h := Aside0.mk (show (gbY + 1) ≤ nxh from by rw [en_]; exact Nat.le_trans hz_Y.out hup.1)
 have ord_f_h := Aside0.mk (show mxf ≤ nxh from by rw [en_]; exact Nat.le_trans hz_f.out hup.1)
 have ord_g_h := Aside0.mk (show mxg ≤ nxh from by rw [en_]; exact Nat.le_trans hz_g.out hup.1)
 have hz_h := Aside0.mk (show mxh ≤ W17_.heap.size from by rw [em_]; exact Nat.le_refl _)
 have HOxh := Aside0.mk hs_
 clear en_ em_ hs_ ho0
 have n0_ := Aside0.mk (blk_below (blk_to BKP) hb)
 have n1_ := Aside0.mk (Nat.le_trans hz_P.out (Nat.le_trans hup.1 hup.2))
 have n2_ := Aside0.mk (blk_below (blk_to BKQ) hb)
 have n3_ := Aside0.mk (Nat.le_trans hz_Q.out (Nat.le_trans hup.1 hup.2))
 have n4_ := Aside0.mk (Kd.R_below (kd_to HOxw) hb)
 have n5_ := Aside0.mk (Nat.le_trans hz_w.out (Nat.le_trans hup.1 hup.2))
 have n6_ := Aside0.mk (Kd.R_below (kd_to HOxd) hb)
 have n7_ := Aside0.mk (Nat.le_trans hz_d.out (Nat.le_trans hup.1 hup.2))
 have n8_ := Aside0.mk (blk_below (blk_to BKX) hb)
 have n9_ := Aside0.mk (Nat.le_trans hz_X.out (Nat.le_trans hup.1 hup.2))
 have n10_ := Aside0.mk (Kd.R_below (kd_to HOxe) hb)
 have n11_ := Aside0.mk (Nat.le_trans hz_e.out (Nat.le_trans hup.1 hup.2))
 have n12_ := Aside0.mk (blk_below (blk_to BKY) hb)
 have n13_ := Aside0.mk (Nat.le_trans hz_Y.out (Nat.le_trans hup.1 hup.2))
 have n14_ := Aside0.mk (Kd.S_below (sd_to HOxf) hb)
 have n15_ := Aside0.mk (Nat.le_trans hz_f.out (Nat.le_trans hup.1 hup.2))
 have n16_ := Aside0.mk (Kd.R_below (kd_to HOxg) hb)
 have n17_ := Aside0.mk (Nat.le_trans hz_g.out (Nat.le_trans hup.1 hup.2))
 have nb_ := Aside0.mk (below_step (below_to HB) hb)
 clear BKP hz_P BKQ hz_Q HOxw hz_w HOxd hz_d BKX hz_X HOxe hz_e BKY hz_Y HOxf hz_f HOxg hz_g HB
 have BKP := n0_
 have hz_P := n1_
 have BKQ := n2_
 have hz_Q := n3_
 have HOxw := n4_
 have hz_w := n5_
 have HOxd := n6_
 have hz_d := n7_
 have BKX := n8_
 have hz_X := n9_
 have HOxe := n10_
 have hz_e := n11_
 have BKY := n12_
 have hz_Y := n13_
 have HOxf := n14_
 have hz_f := n15_
 have HOxg := n16_
 have hz_g := n17_
 have HB := nb_
 clear n0_ n1_ n2_ n3_ n4_ n5_ n6_ n7_ n8_ n9_ n10_ n11_ n12_ n13_ n14_ n15_ n16_ n17_ nb_
 clear hb hup
 (try clear hczP_0 hczP_1 hczP_2 hczP_3 hfzP_0 hfzP_1 hfzP_2 hfzP_3)
 have hczP_0 : W17_.cell? ⟨gbP, 0, none⟩ = some (.int .i64 a0_0) := (blk_cell BKP.out 0).trans rfl
 have hczP_1 : W17_.cell? ⟨gbP, 1, none⟩ = some (.int .i64 a0_1) := (blk_cell BKP.out 1).trans rfl
 have hczP_2 : W17_.cell? ⟨gbP, 2, none⟩ = some (.int .i64 a0_2) := (blk_cell BKP.out 2).trans rfl
 have hczP_3 : W17_.cell? ⟨gbP, 3, none⟩ = some (.slice A0_3 l0_3.length c0_3) := (blk_cell BKP.out 3).trans rfl
 have hfzP_0 := blk_frozen BKP.out 0
 have hfzP_1 := blk_frozen BKP.out 1
 have hfzP_2 := blk_frozen BKP.out 2
 have hfzP_3 := blk_frozen BKP.out 3
 (try clear hczQ_0 hczQ_1 hczQ_2 hczQ_3 hfzQ_0 hfzQ_1 hfzQ_2 hfzQ_3)
 have hczQ_0 : W17_.cell? ⟨gbQ, 0, none⟩ = some (.int .i64 a2_0) := (blk_cell BKQ.out 0).trans rfl
 have hczQ_1 : W17_.cell? ⟨gbQ, 1, none⟩ = some (.int .i64 a2_1) := (blk_cell BKQ.out 1).trans rfl
 have hczQ_2 : W17_.cell? ⟨gbQ, 2, none⟩ = some (.int .i64 a2_2) := (blk_cell BKQ.out 2).trans rfl
 have hczQ_3 : W17_.cell? ⟨gbQ, 3, none⟩ = some (.slice A2_3 l2_3.length c2_3) := (blk_cell BKQ.out 3).trans rfl
 have hfzQ_0 := blk_frozen BKQ.out 0
 have hfzQ_1 := blk_frozen BKQ.out 1
 have hfzQ_2 := blk_frozen BKQ.out 2
 have hfzQ_3 := blk_frozen BKQ.out 3
 (try clear hczX_0 hczX_1 hczX_2 hczX_3 hfzX_0 hfzX_1 hfzX_2 hfzX_3)
 have hczX_0 : W17_.cell? ⟨gbX, 0, none⟩ = some (.int .i64 u1) := (blk_cell BKX.out 0).trans rfl
 have hczX_1 : W17_.cell? ⟨gbX, 1, none⟩ = some (.int .i64 u2) := (blk_cell BKX.out 1).trans rfl
 have hczX_2 : W17_.cell? ⟨gbX, 2, none⟩ = some (.int .i64 u3) := (blk_cell BKX.out 2).trans rfl
 have hczX_3 : W17_.cell? ⟨gbX, 3, none⟩ = some (.slice Axd x1.length cxd) := (blk_cell BKX.out 3).trans rfl
 have hfzX_0 := blk_frozen BKX.out 0
 have hfzX_1 := blk_frozen BKX.out 1
 have hfzX_2 := blk_frozen BKX.out 2
 have hfzX_3 := blk_frozen BKX.out 3
 (try clear hczY_0 hczY_1 hczY_2 hczY_3 hfzY_0 hfzY_1 hfzY_2 hfzY_3)
 have hczY_0 : W17_.cell? ⟨gbY, 0, none⟩ = some (.int .i64 y1) := (blk_cell BKY.out 0).trans rfl
 have hczY_1 : W17_.cell? ⟨gbY, 1, none⟩ = some (.int .i64 y2) := (blk_cell BKY.out 1).trans rfl
 have hczY_2 : W17_.cell? ⟨gbY, 2, none⟩ = some (.int .i64 y3) := (blk_cell BKY.out 2).trans rfl
 have hczY_3 : W17_.cell? ⟨gbY, 3, none⟩ = some (.slice Axe x2.length cxe) := (blk_cell BKY.out 3).trans rfl
 have hfzY_0 := blk_frozen BKY.out 0
 have hfzY_1 := blk_frozen BKY.out 1
 have hfzY_2 := blk_frozen BKY.out 2
 have hfzY_3 := blk_frozen BKY.out 3
 refine hK.out _ _ ⟨(blk_cell BKP.out 0).trans rfl, (blk_cell BKP.out 1).trans rfl, (blk_cell BKP.out 2).trans rfl, (blk_cell BKP.out 3).trans rfl, (blk_cell BKQ.out 0).trans rfl, (blk_cell BKQ.out 1).trans rfl, (blk_cell BKQ.out 2).trans rfl, (blk_cell BKQ.out 3).trans rfl, (blk_cell BKX.out 0).trans rfl, (blk_cell BKX.out 1).trans rfl, (blk_cell BKX.out 2).trans rfl, (blk_cell BKX.out 3).trans rfl, (blk_cell BKY.out 0).trans rfl, (blk_cell BKY.out 1).trans rfl, (blk_cell BKY.out 2).trans rfl, (blk_cell BKY.out 3).trans rfl⟩ (fun hHeld => ?_)
 clear hK K
 refine norm_ (a' := ?_) ?_ ?_
 rotate_left
 ·show Act.put _ (some 91) _ = _
  simp only [Act.put, List.setIfInBounds_toArray, List.set_cons_zero, List.set_cons_succ, i64_w, i32_w]
  rfl
 refine one_ (i := 3) (N := some 92) #[true, true, true, true, false] rfl rfl (one_of HT_.out (by kernel_rfl)) (by decide) (fun K hK => ?_)
 refine goes_ Try.func12 (by kernel_rfl) rfl #[.agg #[.int .i64 u1, .int .i64 u2, .int .i64 u3, .slice Axd x1.length cxd], .agg #[.int .i64 u1, .int .i64 u2, .int .i64 u3, .slice Axh x1.length cxh]] (by rfl) rfl rfl am_ ?_
 (with_reducible refine (laws_eqLine.calls k u1 u2 u3 _ _ x1 u1 u2 u3 _ _ x1 true _ ?side1 ?side2 ?side3 ?side4 F10.out).mono ?_)
 (case side1 => exact cR_ HOxd)
 (case side2 => exact (Kd.R_reads' HOxd.out).2.1)
 (case side3 => exact cR_ HOxh)
 (case side4 => exact (Kd.R_reads' HOxh.out).2.1)
 rintro e W18_ ⟨rfl, hb⟩
 refine ⟨_, rfl, ?_⟩
 have hup := Go.Proofs.Ythdnodmidbcgpaa.XWalk.upB (wp := W17_) hb (by repeat (first | (with_reducible first | exact Below.refl _ _ | apply below_alloc | apply pw_below_drewN | apply below_drew1) | exact Below.refl _ _))
 have n0_ := Aside0.mk (blk_below (blk_to BKP) hb)
 have n1_ := Aside0.mk (Nat.le_trans hz_P.out (Nat.le_trans hup.1 hup.2))
 have n2_ := Aside0.mk (blk_below (blk_to BKQ) hb)
 have n3_ := Aside0.mk (Nat.le_trans hz_Q.out (Nat.le_trans hup.1 hup.2))
 have n4_ := Aside0.mk (Kd.R_below (kd_to HOxw) hb)
 have n5_ := Aside0.mk (Nat.le_trans hz_w.out (Nat.le_trans hup.1 hup.2))
 have n6_ := Aside0.mk (Kd.R_below (kd_to HOxd) hb)
 have n7_ := Aside0.mk (Nat.le_trans hz_d.out (Nat.le_trans hup.1 hup.2))
 have n8_ := Aside0.mk (blk_below (blk_to BKX) hb)
 have n9_ := Aside0.mk (Nat.le_trans hz_X.out (Nat.le_trans hup.1 hup.2))
 have n10_ := Aside0.mk (Kd.R_below (kd_to HOxe) hb)
 have n11_ := Aside0.mk (Nat.le_trans hz_e.out (Nat.le_trans hup.1 hup.2))
 have n12_ := Aside0.mk (blk_below (blk_to BKY) hb)
 have n13_ := Aside0.mk (Nat.le_trans hz_Y.out (Nat.le_trans hup.1 hup.2))
 have n14_ := Aside0.mk (Kd.S_below (sd_to HOxf) hb)
 have n15_ := Aside0.mk (Nat.le_trans hz_f.out (Nat.le_trans hup.1 hup.2))
 have n16_ := Aside0.mk (Kd.R_below (kd_to HOxg) hb)
 have n17_ := Aside0.mk (Nat.le_trans hz_g.out (Nat.le_trans hup.1 hup.2))
 have n18_ := Aside0.mk (Kd.R_below (kd_to HOxh) hb)
 have n19_ := Aside0.mk (Nat.le_trans hz_h.out (Nat.le_trans hup.1 hup.2))
 have nb_ := Aside0.mk (below_step (below_to HB) hb)
 clear BKP hz_P BKQ hz_Q HOxw hz_w HOxd hz_d BKX hz_X HOxe hz_e BKY hz_Y HOxf hz_f HOxg hz_g HOxh hz_h HB
 have BKP := n0_
 have hz_P := n1_
 have BKQ := n2_
 have hz_Q := n3_
 have HOxw := n4_
 have hz_w := n5_
 have HOxd := n6_
 have hz_d := n7_
 have BKX := n8_
 have hz_X := n9_
 have HOxe := n10_
 have hz_e := n11_
 have BKY := n12_
 have hz_Y := n13_
 have HOxf := n14_
 have hz_f := n15_
 have HOxg := n16_
 have hz_g := n17_
 have HOxh := n18_
 have hz_h := n19_
 have HB := nb_
 clear n0_ n1_ n2_ n3_ n4_ n5_ n6_ n7_ n8_ n9_ n10_ n11_ n12_ n13_ n14_ n15_ n16_ n17_ n18_ n19_ nb_
 clear hb hup
 clear HOxh hz_h
 (try clear hczP_0 hczP_1 hczP_2 hczP_3 hfzP_0 hfzP_1 hfzP_2 hfzP_3)
 have hczP_0 : W18_.cell? ⟨gbP, 0, none⟩ = some (.int .i64 a0_0) := (blk_cell BKP.out 0).trans rfl
 have hczP_1 : W18_.cell? ⟨gbP, 1, none⟩ = some (.int .i64 a0_1) := (blk_cell BKP.out 1).trans rfl
 have hczP_2 : W18_.cell? ⟨gbP, 2, none⟩ = some (.int .i64 a0_2) := (blk_cell BKP.out 2).trans rfl
 have hczP_3 : W18_.cell? ⟨gbP, 3, none⟩ = some (.slice A0_3 l0_3.length c0_3) := (blk_cell BKP.out 3).trans rfl
 have hfzP_0 := blk_frozen BKP.out 0
 have hfzP_1 := blk_frozen BKP.out 1
 have hfzP_2 := blk_frozen BKP.out 2
 have hfzP_3 := blk_frozen BKP.out 3
 (try clear hczQ_0 hczQ_1 hczQ_2 hczQ_3 hfzQ_0 hfzQ_1 hfzQ_2 hfzQ_3)
 have hczQ_0 : W18_.cell? ⟨gbQ, 0, none⟩ = some (.int .i64 a2_0) := (blk_cell BKQ.out 0).trans rfl
 have hczQ_1 : W18_.cell? ⟨gbQ, 1, none⟩ = some (.int .i64 a2_1) := (blk_cell BKQ.out 1).trans rfl
 have hczQ_2 : W18_.cell? ⟨gbQ, 2, none⟩ = some (.int .i64 a2_2) := (blk_cell BKQ.out 2).trans rfl
 have hczQ_3 : W18_.cell? ⟨gbQ, 3, none⟩ = some (.slice A2_3 l2_3.length c2_3) := (blk_cell BKQ.out 3).trans rfl
 have hfzQ_0 := blk_frozen BKQ.out 0
 have hfzQ_1 := blk_frozen BKQ.out 1
 have hfzQ_2 := blk_frozen BKQ.out 2
 have hfzQ_3 := blk_frozen BKQ.out 3
 (try clear hczX_0 hczX_1 hczX_2 hczX_3 hfzX_0 hfzX_1 hfzX_2 hfzX_3)
 have hczX_0 : W18_.cell? ⟨gbX, 0, none⟩ = some (.int .i64 u1) := (blk_cell BKX.out 0).trans rfl
 have hczX_1 : W18_.cell? ⟨gbX, 1, none⟩ = some (.int .i64 u2) := (blk_cell BKX.out 1).trans rfl
 have hczX_2 : W18_.cell? ⟨gbX, 2, none⟩ = some (.int .i64 u3) := (blk_cell BKX.out 2).trans rfl
 have hczX_3 : W18_.cell? ⟨gbX, 3, none⟩ = some (.slice Axd x1.length cxd) := (blk_cell BKX.out 3).trans rfl
 have hfzX_0 := blk_frozen BKX.out 0
 have hfzX_1 := blk_frozen BKX.out 1
 have hfzX_2 := blk_frozen BKX.out 2
 have hfzX_3 := blk_frozen BKX.out 3
 (try clear hczY_0 hczY_1 hczY_2 hczY_3 hfzY_0 hfzY_1 hfzY_2 hfzY_3)
 have hczY_0 : W18_.cell? ⟨gbY, 0, none⟩ = some (.int .i64 y1) := (blk_cell BKY.out 0).trans rfl
 have hczY_1 : W18_.cell? ⟨gbY, 1, none⟩ = some (.int .i64 y2) := (blk_cell BKY.out 1).trans rfl
 have hczY_2 : W18_.cell? ⟨gbY, 2, none⟩ = some (.int .i64 y3) := (blk_cell BKY.out 2).trans rfl
 have hczY_3 : W18_.cell? ⟨gbY, 3, none⟩ = some (.slice Axe x2.length cxe) := (blk_cell BKY.out 3).trans rfl
 have hfzY_0 := blk_frozen BKY.out 0
 have hfzY_1 := blk_frozen BKY.out 1
 have hfzY_2 := blk_frozen BKY.out 2
 have hfzY_3 := blk_frozen BKY.out 3
 refine hK.out _ _ ⟨(blk_cell BKP.out 0).trans rfl, (blk_cell BKP.out 1).trans rfl, (blk_cell BKP.out 2).trans rfl, (blk_cell BKP.out 3).trans rfl, (blk_cell BKQ.out 0).trans rfl, (blk_cell BKQ.out 1).trans rfl, (blk_cell BKQ.out 2).trans rfl, (blk_cell BKQ.out 3).trans rfl, (blk_cell BKX.out 0).trans rfl, (blk_cell BKX.out 1).trans rfl, (blk_cell BKX.out 2).trans rfl, (blk_cell BKX.out 3).trans rfl, (blk_cell BKY.out 0).trans rfl, (blk_cell BKY.out 1).trans rfl, (blk_cell BKY.out 2).trans rfl, (blk_cell BKY.out 3).trans rfl⟩ (fun hHeld => ?_)
 clear hK K
 refine norm_ (a' := ?_) ?_ ?_
 rotate_left
 ·show Act.put _ (some 92) _ = _
  simp only [Act.put, List.setIfInBounds_toArray, List.set_cons_zero, List.set_cons_succ, i64_w, i32_w]
  rfl
 refine purS_ (i := 4) (N := some 93) #[true, true, true, true, true] HT_.out ?_
 refine done_ (done_of HT_.out (by kernel_rfl)) ?_
 try go_wp2
 refine start_ (n := 5) (S := fun w' => w'.cell? ⟨gbP, 0, none⟩ = some (.int .i64 a0_0) ∧ w'.cell? ⟨gbP, 1, none⟩ = some (.int .i64 a0_1) ∧ w'.cell? ⟨gbP, 2, none⟩ = some (.int .i64 a0_2) ∧ w'.cell? ⟨gbP, 3, none⟩ = some (.slice A0_3 l0_3.length c0_3) ∧ w'.cell? ⟨gbQ, 0, none⟩ = some (.int .i64 a2_0) ∧ w'.cell? ⟨gbQ, 1, none⟩ = some (.int .i64 a2_1) ∧ w'.cell? ⟨gbQ, 2, none⟩ = some (.int .i64 a2_2) ∧ w'.cell? ⟨gbQ, 3, none⟩ = some (.slice A2_3 l2_3.length c2_3) ∧ w'.cell? ⟨gbX, 0, none⟩ = some (.int .i64 u1) ∧ w'.cell? ⟨gbX, 1, none⟩ = some (.int .i64 u2) ∧ w'.cell? ⟨gbX, 2, none⟩ = some (.int .i64 u3) ∧ w'.cell? ⟨gbX, 3, none⟩ = some (.slice Axd x1.length cxd) ∧ w'.cell? ⟨gbY, 0, none⟩ = some (.int .i64 y1) ∧ w'.cell? ⟨gbY, 1, none⟩ = some (.int .i64 y2) ∧ w'.cell? ⟨gbY, 2, none⟩ = some (.int .i64 y3) ∧ w'.cell? ⟨gbY, 3, none⟩ = some (.slice Axe x2.length cxe)) (ds := []) #[false, false, false, false, false] (by kernel_rfl) rfl rfl ⟨(blk_cell (g := gbP) (cs := #[.int .i64 a0_0, .int .i64 a0_1, .int .i64 a0_2, .slice A0_3 l0_3.length c0_3]) (t := 24) (blk_to BKP) 0).trans rfl, (blk_cell (g := gbP) (cs := #[.int .i64 a0_0, .int .i64 a0_1, .int .i64 a0_2, .slice A0_3 l0_3.length c0_3]) (t := 24) (blk_to BKP) 1).trans rfl, (blk_cell (g := gbP) (cs := #[.int .i64 a0_0, .int .i64 a0_1, .int .i64 a0_2, .slice A0_3 l0_3.length c0_3]) (t := 24) (blk_to BKP) 2).trans rfl, (blk_cell (g := gbP) (cs := #[.int .i64 a0_0, .int .i64 a0_1, .int .i64 a0_2, .slice A0_3 l0_3.length c0_3]) (t := 24) (blk_to BKP) 3).trans rfl, (blk_cell (g := gbQ) (cs := #[.int .i64 a2_0, .int .i64 a2_1, .int .i64 a2_2, .slice A2_3 l2_3.length c2_3]) (t := 24) (blk_to BKQ) 0).trans rfl, (blk_cell (g := gbQ) (cs := #[.int .i64 a2_0, .int .i64 a2_1, .int .i64 a2_2, .slice A2_3 l2_3.length c2_3]) (t := 24) (blk_to BKQ) 1).trans rfl, (blk_cell (g := gbQ) (cs := #[.int .i64 a2_0, .int .i64 a2_1, .int .i64 a2_2, .slice A2_3 l2_3.length c2_3]) (t := 24) (blk_to BKQ) 2).trans rfl, (blk_cell (g := gbQ) (cs := #[.int .i64 a2_0, .int .i64 a2_1, .int .i64 a2_2, .slice A2_3 l2_3.length c2_3]) (t := 24) (blk_to BKQ) 3).trans rfl, (blk_cell (g := gbX) (cs := #[.int .i64 u1, .int .i64 u2, .int .i64 u3, .slice Axd x1.length cxd]) (t := 30) (blk_to BKX) 0).trans rfl, (blk_cell (g := gbX) (cs := #[.int .i64 u1, .int .i64 u2, .int .i64 u3, .slice Axd x1.length cxd]) (t := 30) (blk_to BKX) 1).trans rfl, (blk_cell (g := gbX) (cs := #[.int .i64 u1, .int .i64 u2, .int .i64 u3, .slice Axd x1.length cxd]) (t := 30) (blk_to BKX) 2).trans rfl, (blk_cell (g := gbX) (cs := #[.int .i64 u1, .int .i64 u2, .int .i64 u3, .slice Axd x1.length cxd]) (t := 30) (blk_to BKX) 3).trans rfl, (blk_cell (g := gbY) (cs := #[.int .i64 y1, .int .i64 y2, .int .i64 y3, .slice Axe x2.length cxe]) (t := 30) (blk_to BKY) 0).trans rfl, (blk_cell (g := gbY) (cs := #[.int .i64 y1, .int .i64 y2, .int .i64 y3, .slice Axe x2.length cxe]) (t := 30) (blk_to BKY) 1).trans rfl, (blk_cell (g := gbY) (cs := #[.int .i64 y1, .int .i64 y2, .int .i64 y3, .slice Axe x2.length cxe]) (t := 30) (blk_to BKY) 2).trans rfl, (blk_cell (g := gbY) (cs := #[.int .i64 y1, .int .i64 y2, .int .i64 y3, .slice Axe x2.length cxe]) (t := 30) (blk_to BKY) 3).trans rfl⟩ (fun hHeld => ?_); refine with_tabW lw_.tab20 lw_.bits20 (fun HT_ HW_ => ?_)
 refine take_ (i := 0) (N := some 94) (v := ?_) (a' := ?_) #[true, false, false, false, false] rfl rfl (take_ofW HT_.out HW_.out (by kernel_rfl)) (fun _ _ _ h => h) (Or.inl ⟨by rfl, ?_⟩) hHeld ?_ ?_
 rotate_left
 ·rintro w' ⟨s0, s1, s2, s3, s4, s5, s6, s7, s8, s9, s10, s11, s12, s13, s14, s15⟩
  go_simp
  with_reducible rfl
 rotate_left
 ·simp only [Act.put, List.setIfInBounds_toArray, List.set_cons_zero, List.set_cons_succ, i64_w, i32_w]
  rfl
 refine take_ (i := 1) (N := some 95) (v := ?_) (a' := ?_) #[true, true, false, false, false] rfl rfl (take_ofW HT_.out HW_.out (by kernel_rfl)) (fun _ _ _ h => h) (Or.inl ⟨by rfl, ?_⟩) hHeld ?_ ?_
 rotate_left
 ·rintro w' ⟨s0, s1, s2, s3, s4, s5, s6, s7, s8, s9, s10, s11, s12, s13, s14, s15⟩
  go_simp
  with_reducible rfl
 rotate_left
 ·simp only [Act.put, List.setIfInBounds_toArray, List.set_cons_zero, List.set_cons_succ, i64_w, i32_w]
  rfl
 refine one_ (i := 2) (N := some 96) #[true, true, true, false, false] rfl rfl (one_of HT_.out (by kernel_rfl)) (by decide) (fun K hK => ?_)
 refine goes_ Try.func8 (by kernel_rfl) rfl #[.agg #[.int .i64 a2_0, .int .i64 a2_1, .int .i64 a2_2, .slice A2_3 l2_3.length c2_3]] (by rfl) rfl rfl am_ ?_
 (with_reducible refine (laws_toLine.calls k a2_0 a2_1 a2_2 _ _ l2_3 y1 y2 y3 x2 _ ?side1 ?side2 F5.out).mono ?_)
 (case side1 => exact cb_ HR2_3 HB)
 (case side2 => exact HC2_3.out)
 rintro e W19_ ⟨v19, rfl, ho0, hb⟩
 refine ⟨_, rfl, ?_⟩
 have hup := Go.Proofs.Ythdnodmidbcgpaa.XWalk.upB (wp := W18_) hb (by repeat (first | (with_reducible first | exact Below.refl _ _ | apply below_alloc | apply pw_below_drewN | apply below_drew1) | exact Below.refl _ _))
 obtain ⟨Axi, cxi, rfl⟩ := Kd.R_slice ho0
 obtain ⟨nxi, mxi, en_, em_, hs_⟩ := Go.Proofs.Ythdnodmidbcgpaa.XWalk.bornR (w := w) hb ho0 (below_size (below_to HB))
 have ord_P_i := Aside0.mk (show (gbP + 1) ≤ nxi from by rw [en_]; exact Nat.le_trans hz_P.out hup.1)
 have ord_Q_i := Aside0.mk (show (gbQ + 1) ≤ nxi from by rw [en_]; exact Nat.le_trans hz_Q.out hup.1)
 have ord_w_i := Aside0.mk (show mxw ≤ nxi from by rw [en_]; exact Nat.le_trans hz_w.out hup.1)
 have ord_d_i := Aside0.mk (show mxd ≤ nxi from by rw [en_]; exact Nat.le_trans hz_d.out hup.1)
 have ord_X_i := Aside0.mk (show (gbX + 1) ≤ nxi from by rw [en_]; exact Nat.le_trans hz_X.out hup.1)
 have ord_e_i := Aside0.mk (show mxe ≤ nxi from by rw [en_]; exact Nat.le_trans hz_e.out hup.1)
 have ord_Y_i := Aside0.mk (show (gbY + 1) ≤ nxi from by rw [en_]; exact Nat.le_trans hz_Y.out hup.1)
 have ord_f_i := Aside0.mk (show mxf ≤ nxi from by rw [en_]; exact Nat.le_trans hz_f.out hup.1)
 have ord_g_i := Aside0.mk (show mxg ≤ nxi from by rw [en_]; exact Nat.le_trans hz_g.out hup.1)
 have hz_i := Aside0.mk (show mxi ≤ W19_.heap.size from by rw [em_]; exact Nat.le_refl _)
 have HOxi := Aside0.mk hs_
 clear en_ em_ hs_ ho0
 have n0_ := Aside0.mk (blk_below (blk_to BKP) hb)
 have n1_ := Aside0.mk (Nat.le_trans hz_P.out (Nat.le_trans hup.1 hup.2))
 have n2_ := Aside0.mk (blk_below (blk_to BKQ) hb)
 have n3_ := Aside0.mk (Nat.le_trans hz_Q.out (Nat.le_trans hup.1 hup.2))
 have n4_ := Aside0.mk (Kd.R_below (kd_to HOxw) hb)
 have n5_ := Aside0.mk (Nat.le_trans hz_w.out (Nat.le_trans hup.1 hup.2))
 have n6_ := Aside0.mk (Kd.R_below (kd_to HOxd) hb)
 have n7_ := Aside0.mk (Nat.le_trans hz_d.out (Nat.le_trans hup.1 hup.2))
 have n8_ := Aside0.mk (blk_below (blk_to BKX) hb)
 have n9_ := Aside0.mk (Nat.le_trans hz_X.out (Nat.le_trans hup.1 hup.2))
 have n10_ := Aside0.mk (Kd.R_below (kd_to HOxe) hb)
 have n11_ := Aside0.mk (Nat.le_trans hz_e.out (Nat.le_trans hup.1 hup.2))
 have n12_ := Aside0.mk (blk_below (blk_to BKY) hb)
 have n13_ := Aside0.mk (Nat.le_trans hz_Y.out (Nat.le_trans hup.1 hup.2))
 have n14_ := Aside0.mk (Kd.S_below (sd_to HOxf) hb)
 have n15_ := Aside0.mk (Nat.le_trans hz_f.out (Nat.le_trans hup.1 hup.2))
 have n16_ := Aside0.mk (Kd.R_below (kd_to HOxg) hb)
 have n17_ := Aside0.mk (Nat.le_trans hz_g.out (Nat.le_trans hup.1 hup.2))
 have nb_ := Aside0.mk (below_step (below_to HB) hb)
 clear BKP hz_P BKQ hz_Q HOxw hz_w HOxd hz_d BKX hz_X HOxe hz_e BKY hz_Y HOxf hz_f HOxg hz_g HB
 have BKP := n0_
 have hz_P := n1_
 have BKQ := n2_
 have hz_Q := n3_
 have HOxw := n4_
 have hz_w := n5_
 have HOxd := n6_
 have hz_d := n7_
 have BKX := n8_
 have hz_X := n9_
 have HOxe := n10_
 have hz_e := n11_
 have BKY := n12_
 have hz_Y := n13_
 have HOxf := n14_
 have hz_f := n15_
 have HOxg := n16_
 have hz_g := n17_
 have HB := nb_
 clear n0_ n1_ n2_ n3_ n4_ n5_ n6_ n7_ n8_ n9_ n10_ n11_ n12_ n13_ n14_ n15_ n16_ n17_ nb_
 clear hb hup
 (try clear hczP_0 hczP_1 hczP_2 hczP_3 hfzP_0 hfzP_1 hfzP_2 hfzP_3)
 have hczP_0 : W19_.cell? ⟨gbP, 0, none⟩ = some (.int .i64 a0_0) := (blk_cell BKP.out 0).trans rfl
 have hczP_1 : W19_.cell? ⟨gbP, 1, none⟩ = some (.int .i64 a0_1) := (blk_cell BKP.out 1).trans rfl
 have hczP_2 : W19_.cell? ⟨gbP, 2, none⟩ = some (.int .i64 a0_2) := (blk_cell BKP.out 2).trans rfl
 have hczP_3 : W19_.cell? ⟨gbP, 3, none⟩ = some (.slice A0_3 l0_3.length c0_3) := (blk_cell BKP.out 3).trans rfl
 have hfzP_0 := blk_frozen BKP.out 0
 have hfzP_1 := blk_frozen BKP.out 1
 have hfzP_2 := blk_frozen BKP.out 2
 have hfzP_3 := blk_frozen BKP.out 3
 (try clear hczQ_0 hczQ_1 hczQ_2 hczQ_3 hfzQ_0 hfzQ_1 hfzQ_2 hfzQ_3)
 have hczQ_0 : W19_.cell? ⟨gbQ, 0, none⟩ = some (.int .i64 a2_0) := (blk_cell BKQ.out 0).trans rfl
 have hczQ_1 : W19_.cell? ⟨gbQ, 1, none⟩ = some (.int .i64 a2_1) := (blk_cell BKQ.out 1).trans rfl
 have hczQ_2 : W19_.cell? ⟨gbQ, 2, none⟩ = some (.int .i64 a2_2) := (blk_cell BKQ.out 2).trans rfl
 have hczQ_3 : W19_.cell? ⟨gbQ, 3, none⟩ = some (.slice A2_3 l2_3.length c2_3) := (blk_cell BKQ.out 3).trans rfl
 have hfzQ_0 := blk_frozen BKQ.out 0
 have hfzQ_1 := blk_frozen BKQ.out 1
 have hfzQ_2 := blk_frozen BKQ.out 2
 have hfzQ_3 := blk_frozen BKQ.out 3
 (try clear hczX_0 hczX_1 hczX_2 hczX_3 hfzX_0 hfzX_1 hfzX_2 hfzX_3)
 have hczX_0 : W19_.cell? ⟨gbX, 0, none⟩ = some (.int .i64 u1) := (blk_cell BKX.out 0).trans rfl
 have hczX_1 : W19_.cell? ⟨gbX, 1, none⟩ = some (.int .i64 u2) := (blk_cell BKX.out 1).trans rfl
 have hczX_2 : W19_.cell? ⟨gbX, 2, none⟩ = some (.int .i64 u3) := (blk_cell BKX.out 2).trans rfl
 have hczX_3 : W19_.cell? ⟨gbX, 3, none⟩ = some (.slice Axd x1.length cxd) := (blk_cell BKX.out 3).trans rfl
 have hfzX_0 := blk_frozen BKX.out 0
 have hfzX_1 := blk_frozen BKX.out 1
 have hfzX_2 := blk_frozen BKX.out 2
 have hfzX_3 := blk_frozen BKX.out 3
 (try clear hczY_0 hczY_1 hczY_2 hczY_3 hfzY_0 hfzY_1 hfzY_2 hfzY_3)
 have hczY_0 : W19_.cell? ⟨gbY, 0, none⟩ = some (.int .i64 y1) := (blk_cell BKY.out 0).trans rfl
 have hczY_1 : W19_.cell? ⟨gbY, 1, none⟩ = some (.int .i64 y2) := (blk_cell BKY.out 1).trans rfl
 have hczY_2 : W19_.cell? ⟨gbY, 2, none⟩ = some (.int .i64 y3) := (blk_cell BKY.out 2).trans rfl
 have hczY_3 : W19_.cell? ⟨gbY, 3, none⟩ = some (.slice Axe x2.length cxe) := (blk_cell BKY.out 3).trans rfl
 have hfzY_0 := blk_frozen BKY.out 0
 have hfzY_1 := blk_frozen BKY.out 1
 have hfzY_2 := blk_frozen BKY.out 2
 have hfzY_3 := blk_frozen BKY.out 3
 refine hK.out _ _ ⟨(blk_cell BKP.out 0).trans rfl, (blk_cell BKP.out 1).trans rfl, (blk_cell BKP.out 2).trans rfl, (blk_cell BKP.out 3).trans rfl, (blk_cell BKQ.out 0).trans rfl, (blk_cell BKQ.out 1).trans rfl, (blk_cell BKQ.out 2).trans rfl, (blk_cell BKQ.out 3).trans rfl, (blk_cell BKX.out 0).trans rfl, (blk_cell BKX.out 1).trans rfl, (blk_cell BKX.out 2).trans rfl, (blk_cell BKX.out 3).trans rfl, (blk_cell BKY.out 0).trans rfl, (blk_cell BKY.out 1).trans rfl, (blk_cell BKY.out 2).trans rfl, (blk_cell BKY.out 3).trans rfl⟩ (fun hHeld => ?_)
 clear hK K
 refine norm_ (a' := ?_) ?_ ?_
 rotate_left
 ·show Act.put _ (some 96) _ = _
  simp only [Act.put, List.setIfInBounds_toArray, List.set_cons_zero, List.set_cons_succ, i64_w, i32_w]
  rfl
 refine one_ (i := 3) (N := some 97) #[true, true, true, true, false] rfl rfl (one_of HT_.out (by kernel_rfl)) (by decide) (fun K hK => ?_)
 refine goes_ Try.func12 (by kernel_rfl) rfl #[.agg #[.int .i64 y1, .int .i64 y2, .int .i64 y3, .slice Axe x2.length cxe], .agg #[.int .i64 y1, .int .i64 y2, .int .i64 y3, .slice Axi x2.length cxi]] (by rfl) rfl rfl am_ ?_
 (with_reducible refine (laws_eqLine.calls k y1 y2 y3 _ _ x2 y1 y2 y3 _ _ x2 true _ ?side1 ?side2 ?side3 ?side4 F11.out).mono ?_)
 (case side1 => exact cR_ HOxe)
 (case side2 => exact (Kd.R_reads' HOxe.out).2.1)
 (case side3 => exact cR_ HOxi)
 (case side4 => exact (Kd.R_reads' HOxi.out).2.1)
 rintro e W20_ ⟨rfl, hb⟩
 refine ⟨_, rfl, ?_⟩
 have hup := Go.Proofs.Ythdnodmidbcgpaa.XWalk.upB (wp := W19_) hb (by repeat (first | (with_reducible first | exact Below.refl _ _ | apply below_alloc | apply pw_below_drewN | apply below_drew1) | exact Below.refl _ _))
 have n0_ := Aside0.mk (blk_below (blk_to BKP) hb)
 have n1_ := Aside0.mk (Nat.le_trans hz_P.out (Nat.le_trans hup.1 hup.2))
 have n2_ := Aside0.mk (blk_below (blk_to BKQ) hb)
 have n3_ := Aside0.mk (Nat.le_trans hz_Q.out (Nat.le_trans hup.1 hup.2))
 have n4_ := Aside0.mk (Kd.R_below (kd_to HOxw) hb)
 have n5_ := Aside0.mk (Nat.le_trans hz_w.out (Nat.le_trans hup.1 hup.2))
 have n6_ := Aside0.mk (Kd.R_below (kd_to HOxd) hb)
 have n7_ := Aside0.mk (Nat.le_trans hz_d.out (Nat.le_trans hup.1 hup.2))
 have n8_ := Aside0.mk (blk_below (blk_to BKX) hb)
 have n9_ := Aside0.mk (Nat.le_trans hz_X.out (Nat.le_trans hup.1 hup.2))
 have n10_ := Aside0.mk (Kd.R_below (kd_to HOxe) hb)
 have n11_ := Aside0.mk (Nat.le_trans hz_e.out (Nat.le_trans hup.1 hup.2))
 have n12_ := Aside0.mk (blk_below (blk_to BKY) hb)
 have n13_ := Aside0.mk (Nat.le_trans hz_Y.out (Nat.le_trans hup.1 hup.2))
 have n14_ := Aside0.mk (Kd.S_below (sd_to HOxf) hb)
 have n15_ := Aside0.mk (Nat.le_trans hz_f.out (Nat.le_trans hup.1 hup.2))
 have n16_ := Aside0.mk (Kd.R_below (kd_to HOxg) hb)
 have n17_ := Aside0.mk (Nat.le_trans hz_g.out (Nat.le_trans hup.1 hup.2))
 have n18_ := Aside0.mk (Kd.R_below (kd_to HOxi) hb)
 have n19_ := Aside0.mk (Nat.le_trans hz_i.out (Nat.le_trans hup.1 hup.2))
 have nb_ := Aside0.mk (below_step (below_to HB) hb)
 clear BKP hz_P BKQ hz_Q HOxw hz_w HOxd hz_d BKX hz_X HOxe hz_e BKY hz_Y HOxf hz_f HOxg hz_g HOxi hz_i HB
 have BKP := n0_
 have hz_P := n1_
 have BKQ := n2_
 have hz_Q := n3_
 have HOxw := n4_
 have hz_w := n5_
 have HOxd := n6_
 have hz_d := n7_
 have BKX := n8_
 have hz_X := n9_
 have HOxe := n10_
 have hz_e := n11_
 have BKY := n12_
 have hz_Y := n13_
 have HOxf := n14_
 have hz_f := n15_
 have HOxg := n16_
 have hz_g := n17_
 have HOxi := n18_
 have hz_i := n19_
 have HB := nb_
 clear n0_ n1_ n2_ n3_ n4_ n5_ n6_ n7_ n8_ n9_ n10_ n11_ n12_ n13_ n14_ n15_ n16_ n17_ n18_ n19_ nb_
 clear hb hup
 clear HOxi hz_i
 (try clear hczP_0 hczP_1 hczP_2 hczP_3 hfzP_0 hfzP_1 hfzP_2 hfzP_3)
 have hczP_0 : W20_.cell? ⟨gbP, 0, none⟩ = some (.int .i64 a0_0) := (blk_cell BKP.out 0).trans rfl
 have hczP_1 : W20_.cell? ⟨gbP, 1, none⟩ = some (.int .i64 a0_1) := (blk_cell BKP.out 1).trans rfl
 have hczP_2 : W20_.cell? ⟨gbP, 2, none⟩ = some (.int .i64 a0_2) := (blk_cell BKP.out 2).trans rfl
 have hczP_3 : W20_.cell? ⟨gbP, 3, none⟩ = some (.slice A0_3 l0_3.length c0_3) := (blk_cell BKP.out 3).trans rfl
 have hfzP_0 := blk_frozen BKP.out 0
 have hfzP_1 := blk_frozen BKP.out 1
 have hfzP_2 := blk_frozen BKP.out 2
 have hfzP_3 := blk_frozen BKP.out 3
 (try clear hczQ_0 hczQ_1 hczQ_2 hczQ_3 hfzQ_0 hfzQ_1 hfzQ_2 hfzQ_3)
 have hczQ_0 : W20_.cell? ⟨gbQ, 0, none⟩ = some (.int .i64 a2_0) := (blk_cell BKQ.out 0).trans rfl
 have hczQ_1 : W20_.cell? ⟨gbQ, 1, none⟩ = some (.int .i64 a2_1) := (blk_cell BKQ.out 1).trans rfl
 have hczQ_2 : W20_.cell? ⟨gbQ, 2, none⟩ = some (.int .i64 a2_2) := (blk_cell BKQ.out 2).trans rfl
 have hczQ_3 : W20_.cell? ⟨gbQ, 3, none⟩ = some (.slice A2_3 l2_3.length c2_3) := (blk_cell BKQ.out 3).trans rfl
 have hfzQ_0 := blk_frozen BKQ.out 0
 have hfzQ_1 := blk_frozen BKQ.out 1
 have hfzQ_2 := blk_frozen BKQ.out 2
 have hfzQ_3 := blk_frozen BKQ.out 3
 (try clear hczX_0 hczX_1 hczX_2 hczX_3 hfzX_0 hfzX_1 hfzX_2 hfzX_3)
 have hczX_0 : W20_.cell? ⟨gbX, 0, none⟩ = some (.int .i64 u1) := (blk_cell BKX.out 0).trans rfl
 have hczX_1 : W20_.cell? ⟨gbX, 1, none⟩ = some (.int .i64 u2) := (blk_cell BKX.out 1).trans rfl
 have hczX_2 : W20_.cell? ⟨gbX, 2, none⟩ = some (.int .i64 u3) := (blk_cell BKX.out 2).trans rfl
 have hczX_3 : W20_.cell? ⟨gbX, 3, none⟩ = some (.slice Axd x1.length cxd) := (blk_cell BKX.out 3).trans rfl
 have hfzX_0 := blk_frozen BKX.out 0
 have hfzX_1 := blk_frozen BKX.out 1
 have hfzX_2 := blk_frozen BKX.out 2
 have hfzX_3 := blk_frozen BKX.out 3
 (try clear hczY_0 hczY_1 hczY_2 hczY_3 hfzY_0 hfzY_1 hfzY_2 hfzY_3)
 have hczY_0 : W20_.cell? ⟨gbY, 0, none⟩ = some (.int .i64 y1) := (blk_cell BKY.out 0).trans rfl
 have hczY_1 : W20_.cell? ⟨gbY, 1, none⟩ = some (.int .i64 y2) := (blk_cell BKY.out 1).trans rfl
 have hczY_2 : W20_.cell? ⟨gbY, 2, none⟩ = some (.int .i64 y3) := (blk_cell BKY.out 2).trans rfl
 have hczY_3 : W20_.cell? ⟨gbY, 3, none⟩ = some (.slice Axe x2.length cxe) := (blk_cell BKY.out 3).trans rfl
 have hfzY_0 := blk_frozen BKY.out 0
 have hfzY_1 := blk_frozen BKY.out 1
 have hfzY_2 := blk_frozen BKY.out 2
 have hfzY_3 := blk_frozen BKY.out 3
 refine hK.out _ _ ⟨(blk_cell BKP.out 0).trans rfl, (blk_cell BKP.out 1).trans rfl, (blk_cell BKP.out 2).trans rfl, (blk_cell BKP.out 3).trans rfl, (blk_cell BKQ.out 0).trans rfl, (blk_cell BKQ.out 1).trans rfl, (blk_cell BKQ.out 2).trans rfl, (blk_cell BKQ.out 3).trans rfl, (blk_cell BKX.out 0).trans rfl, (blk_cell BKX.out 1).trans rfl, (blk_cell BKX.out 2).trans rfl, (blk_cell BKX.out 3).trans rfl, (blk_cell BKY.out 0).trans rfl, (blk_cell BKY.out 1).trans rfl, (blk_cell BKY.out 2).trans rfl, (blk_cell BKY.out 3).trans rfl⟩ (fun hHeld => ?_)
 clear hK K
 refine norm_ (a' := ?_) ?_ ?_
 rotate_left
 ·show Act.put _ (some 97) _ = _
  simp only [Act.put, List.setIfInBounds_toArray, List.set_cons_zero, List.set_cons_succ, i64_w, i32_w]
  rfl
 refine purS_ (i := 4) (N := some 98) #[true, true, true, true, true] HT_.out ?_
 refine done_ (done_of HT_.out (by kernel_rfl)) ?_
 try go_wp2_with (first | ((with_reducible refine gate_callee (f := 9) rfl ?_); refine goesL_ (some 101) rfl rfl Try.func9 (by kernel_rfl) rfl #[.slice A4 l4.length c4] rfl am_ ?_; (with_reducible refine (laws_toIntSS.calls k _ _ l4 x3 _ ?side1 ?side2 F6.out).mono ?_); (case side1 => exact cb_ HR4 HB); (case side2 => exact HC4.out); rintro e W21_ ⟨v21, rfl, ho0, hb⟩; refine ⟨_, rfl, ?_⟩; have hup := Go.Proofs.Ythdnodmidbcgpaa.XWalk.upB (wp := W20_) hb (by repeat (first | (with_reducible first | exact Below.refl _ _ | apply below_alloc | apply pw_below_drewN | apply below_drew1) | exact Below.refl _ _)); obtain ⟨Axj, cxj, rfl⟩ := Kd.S_slice ho0; obtain ⟨nxj, mxj, en_, em_, hs_⟩ := Go.Proofs.Ythdnodmidbcgpaa.XWalk.bornS (w := w) hb ho0 (below_size (below_to HB)); have ord_P_j := Aside0.mk (show (gbP + 1) ≤ nxj from by rw [en_]; exact Nat.le_trans hz_P.out hup.1); have ord_Q_j := Aside0.mk (show (gbQ + 1) ≤ nxj from by rw [en_]; exact Nat.le_trans hz_Q.out hup.1); have ord_w_j := Aside0.mk (show mxw ≤ nxj from by rw [en_]; exact Nat.le_trans hz_w.out hup.1); have ord_d_j := Aside0.mk (show mxd ≤ nxj from by rw [en_]; exact Nat.le_trans hz_d.out hup.1); have ord_X_j := Aside0.mk (show (gbX + 1) ≤ nxj from by rw [en_]; exact Nat.le_trans hz_X.out hup.1); have ord_e_j := Aside0.mk (show mxe ≤ nxj from by rw [en_]; exact Nat.le_trans hz_e.out hup.1); have ord_Y_j := Aside0.mk (show (gbY + 1) ≤ nxj from by rw [en_]; exact Nat.le_trans hz_Y.out hup.1); have ord_f_j := Aside0.mk (show mxf ≤ nxj from by rw [en_]; exact Nat.le_trans hz_f.out hup.1); have ord_g_j := Aside0.mk (show mxg ≤ nxj from by rw [en_]; exact Nat.le_trans hz_g.out hup.1); have hz_j := Aside0.mk (show mxj ≤ W21_.heap.size from by rw [em_]; exact Nat.le_refl _); have HOxj := Aside0.mk hs_; clear en_ em_ hs_ ho0; have n0_ := Aside0.mk (blk_below (blk_to BKP) hb); have n1_ := Aside0.mk (Nat.le_trans hz_P.out (Nat.le_trans hup.1 hup.2)); have n2_ := Aside0.mk (blk_below (blk_to BKQ) hb); have n3_ := Aside0.mk (Nat.le_trans hz_Q.out (Nat.le_trans hup.1 hup.2)); have n4_ := Aside0.mk (Kd.R_below (kd_to HOxw) hb); have n5_ := Aside0.mk (Nat.le_trans hz_w.out (Nat.le_trans hup.1 hup.2)); have n6_ := Aside0.mk (Kd.R_below (kd_to HOxd) hb); have n7_ := Aside0.mk (Nat.le_trans hz_d.out (Nat.le_trans hup.1 hup.2)); have n8_ := Aside0.mk (blk_below (blk_to BKX) hb); have n9_ := Aside0.mk (Nat.le_trans hz_X.out (Nat.le_trans hup.1 hup.2)); have n10_ := Aside0.mk (Kd.R_below (kd_to HOxe) hb); have n11_ := Aside0.mk (Nat.le_trans hz_e.out (Nat.le_trans hup.1 hup.2)); have n12_ := Aside0.mk (blk_below (blk_to BKY) hb); have n13_ := Aside0.mk (Nat.le_trans hz_Y.out (Nat.le_trans hup.1 hup.2)); have n14_ := Aside0.mk (Kd.S_below (sd_to HOxf) hb); have n15_ := Aside0.mk (Nat.le_trans hz_f.out (Nat.le_trans hup.1 hup.2)); have n16_ := Aside0.mk (Kd.R_below (kd_to HOxg) hb); have n17_ := Aside0.mk (Nat.le_trans hz_g.out (Nat.le_trans hup.1 hup.2)); have nb_ := Aside0.mk (below_step (below_to HB) hb); clear BKP hz_P BKQ hz_Q HOxw hz_w HOxd hz_d BKX hz_X HOxe hz_e BKY hz_Y HOxf hz_f HOxg hz_g HB; have BKP := n0_; have hz_P := n1_; have BKQ := n2_; have hz_Q := n3_; have HOxw := n4_; have hz_w := n5_; have HOxd := n6_; have hz_d := n7_; have BKX := n8_; have hz_X := n9_; have HOxe := n10_; have hz_e := n11_; have BKY := n12_; have hz_Y := n13_; have HOxf := n14_; have hz_f := n15_; have HOxg := n16_; have hz_g := n17_; have HB := nb_; clear n0_ n1_ n2_ n3_ n4_ n5_ n6_ n7_ n8_ n9_ n10_ n11_ n12_ n13_ n14_ n15_ n16_ n17_ nb_; clear hb hup; (try clear hczP_0 hczP_1 hczP_2 hczP_3 hfzP_0 hfzP_1 hfzP_2 hfzP_3); have hczP_0 : W21_.cell? ⟨gbP, 0, none⟩ = some (.int .i64 a0_0) := (blk_cell BKP.out 0).trans rfl; have hczP_1 : W21_.cell? ⟨gbP, 1, none⟩ = some (.int .i64 a0_1) := (blk_cell BKP.out 1).trans rfl; have hczP_2 : W21_.cell? ⟨gbP, 2, none⟩ = some (.int .i64 a0_2) := (blk_cell BKP.out 2).trans rfl; have hczP_3 : W21_.cell? ⟨gbP, 3, none⟩ = some (.slice A0_3 l0_3.length c0_3) := (blk_cell BKP.out 3).trans rfl; have hfzP_0 := blk_frozen BKP.out 0; have hfzP_1 := blk_frozen BKP.out 1; have hfzP_2 := blk_frozen BKP.out 2; have hfzP_3 := blk_frozen BKP.out 3; (try clear hczQ_0 hczQ_1 hczQ_2 hczQ_3 hfzQ_0 hfzQ_1 hfzQ_2 hfzQ_3); have hczQ_0 : W21_.cell? ⟨gbQ, 0, none⟩ = some (.int .i64 a2_0) := (blk_cell BKQ.out 0).trans rfl; have hczQ_1 : W21_.cell? ⟨gbQ, 1, none⟩ = some (.int .i64 a2_1) := (blk_cell BKQ.out 1).trans rfl; have hczQ_2 : W21_.cell? ⟨gbQ, 2, none⟩ = some (.int .i64 a2_2) := (blk_cell BKQ.out 2).trans rfl; have hczQ_3 : W21_.cell? ⟨gbQ, 3, none⟩ = some (.slice A2_3 l2_3.length c2_3) := (blk_cell BKQ.out 3).trans rfl; have hfzQ_0 := blk_frozen BKQ.out 0; have hfzQ_1 := blk_frozen BKQ.out 1; have hfzQ_2 := blk_frozen BKQ.out 2; have hfzQ_3 := blk_frozen BKQ.out 3; (try clear hczX_0 hczX_1 hczX_2 hczX_3 hfzX_0 hfzX_1 hfzX_2 hfzX_3); have hczX_0 : W21_.cell? ⟨gbX, 0, none⟩ = some (.int .i64 u1) := (blk_cell BKX.out 0).trans rfl; have hczX_1 : W21_.cell? ⟨gbX, 1, none⟩ = some (.int .i64 u2) := (blk_cell BKX.out 1).trans rfl; have hczX_2 : W21_.cell? ⟨gbX, 2, none⟩ = some (.int .i64 u3) := (blk_cell BKX.out 2).trans rfl; have hczX_3 : W21_.cell? ⟨gbX, 3, none⟩ = some (.slice Axd x1.length cxd) := (blk_cell BKX.out 3).trans rfl; have hfzX_0 := blk_frozen BKX.out 0; have hfzX_1 := blk_frozen BKX.out 1; have hfzX_2 := blk_frozen BKX.out 2; have hfzX_3 := blk_frozen BKX.out 3; (try clear hczY_0 hczY_1 hczY_2 hczY_3 hfzY_0 hfzY_1 hfzY_2 hfzY_3); have hczY_0 : W21_.cell? ⟨gbY, 0, none⟩ = some (.int .i64 y1) := (blk_cell BKY.out 0).trans rfl; have hczY_1 : W21_.cell? ⟨gbY, 1, none⟩ = some (.int .i64 y2) := (blk_cell BKY.out 1).trans rfl; have hczY_2 : W21_.cell? ⟨gbY, 2, none⟩ = some (.int .i64 y3) := (blk_cell BKY.out 2).trans rfl; have hczY_3 : W21_.cell? ⟨gbY, 3, none⟩ = some (.slice Axe x2.length cxe) := (blk_cell BKY.out 3).trans rfl; have hfzY_0 := blk_frozen BKY.out 0; have hfzY_1 := blk_frozen BKY.out 1; have hfzY_2 := blk_frozen BKY.out 2; have hfzY_3 := blk_frozen BKY.out 3) | ((with_reducible refine gate_callee (f := 13) rfl ?_); refine goesL_ (some 102) rfl rfl Try.func13 (by kernel_rfl) rfl #[.slice Axf x3.length cxf, .slice Axj x3.length cxj] rfl am_ ?_; (with_reducible refine (laws_eqIntSS.calls k _ _ x3 _ _ x3 true _ ?side1 ?side2 ?side3 ?side4 F12.out).mono ?_); (case side1 => exact cS_ HOxf); (case side2 => exact (Kd.S_reads' HOxf.out).2.1); (case side3 => exact cS_ HOxj); (case side4 => exact (Kd.S_reads' HOxj.out).2.1); rintro e w' ⟨rfl, ⟨nd, rfl⟩⟩; refine ⟨_, rfl, ?_⟩) | ((with_reducible refine gate_callee (f := 14) rfl ?_); refine goesL_ (some 106) rfl rfl Try.func14 (by kernel_rfl) rfl #[.agg #[.int .i64 u1, .int .i64 u2, .int .i64 u3, .slice Axd x1.length cxd], .int .i64 1] rfl am_ ?_; (with_reducible refine (laws_markLine.calls k u1 u2 u3 (fun k_ => nxd ≤ k_ ∧ k_ < mxd) (.slice Axd x1.length cxd) x1 1 m1 z1 w _ ?side1 ?side2 F13.out).mono ?_); (case side1 => exact below_to HB); (case side2 => (with_reducible repeat (first | apply Kd.R_alloc | apply Kd.R_drewN | apply Kd.R_drew)); exact HOxd.out); rintro e W22_ ⟨rfl, hy0, hb, hkp⟩; refine ⟨_, rfl, ?_⟩; have hup := Go.Proofs.Ythdnodmidbcgpaa.XWalk.upK (wp := W21_) hkp (by repeat (first | (with_reducible first | exact Below.refl _ _ | apply below_alloc | apply pw_below_drewN | apply below_drew1) | exact Below.refl _ _)); have ny_ := Aside0.mk (Kd.R_reok rfl hy0 (fun k_ e_ => HOxd.out.1 k_ e_)); have n0_ := Aside0.mk (blk_kept (g := gbP) (o := .cells #[.int .i64 a0_0, .int .i64 a0_1, .int .i64 a0_2, .slice A0_3 l0_3.length c0_3] 24 (0, 0)) (blk_to BKP) hkp (fun h2_ => Go.Proofs.Ythdnodmidbcgpaa.XWalk.apart (k := gbP) (show gbP ≤ gbP ∧ gbP < (gbP + 1) from ⟨Nat.le_refl _, Nat.lt_succ_self _⟩) (show nxd ≤ gbP ∧ gbP < mxd from h2_) (.inl ord_P_d.out))); have n1_ := Aside0.mk (Nat.le_trans hz_P.out (Nat.le_trans hup.1 hup.2)); have n2_ := Aside0.mk (blk_kept (g := gbQ) (o := .cells #[.int .i64 a2_0, .int .i64 a2_1, .int .i64 a2_2, .slice A2_3 l2_3.length c2_3] 24 (0, 0)) (blk_to BKQ) hkp (fun h2_ => Go.Proofs.Ythdnodmidbcgpaa.XWalk.apart (k := gbQ) (show gbQ ≤ gbQ ∧ gbQ < (gbQ + 1) from ⟨Nat.le_refl _, Nat.lt_succ_self _⟩) (show nxd ≤ gbQ ∧ gbQ < mxd from h2_) (.inl ord_Q_d.out))); have n3_ := Aside0.mk (Nat.le_trans hz_Q.out (Nat.le_trans hup.1 hup.2)); have n4_ := Aside0.mk (Kd.R_kept (kd_to HOxw) hkp (fun k_ h1_ h2_ => Go.Proofs.Ythdnodmidbcgpaa.XWalk.apart (show nxw ≤ k_ ∧ k_ < mxw from h1_) (show nxd ≤ k_ ∧ k_ < mxd from h2_) (.inl ord_w_d.out))); have n5_ := Aside0.mk (Nat.le_trans hz_w.out (Nat.le_trans hup.1 hup.2)); have n6_ := Aside0.mk (Nat.le_trans hz_d.out (Nat.le_trans hup.1 hup.2)); have n7_ := Aside0.mk (blk_kept (g := gbX) (o := .cells #[.int .i64 u1, .int .i64 u2, .int .i64 u3, .slice Axd x1.length cxd] 30 (0, 0)) (blk_to BKX) hkp (fun h2_ => Go.Proofs.Ythdnodmidbcgpaa.XWalk.apart (k := gbX) (show gbX ≤ gbX ∧ gbX < (gbX + 1) from ⟨Nat.le_refl _, Nat.lt_succ_self _⟩) (show nxd ≤ gbX ∧ gbX < mxd from h2_) (.inr ord_d_X.out))); have n8_ := Aside0.mk (Nat.le_trans hz_X.out (Nat.le_trans hup.1 hup.2)); have n9_ := Aside0.mk (Kd.R_kept (kd_to HOxe) hkp (fun k_ h1_ h2_ => Go.Proofs.Ythdnodmidbcgpaa.XWalk.apart (show nxe ≤ k_ ∧ k_ < mxe from h1_) (show nxd ≤ k_ ∧ k_ < mxd from h2_) (.inr ord_d_e.out))); have n10_ := Aside0.mk (Nat.le_trans hz_e.out (Nat.le_trans hup.1 hup.2)); have n11_ := Aside0.mk (blk_kept (g := gbY) (o := .cells #[.int .i64 y1, .int .i64 y2, .int .i64 y3, .slice Axe x2.length cxe] 30 (0, 0)) (blk_to BKY) hkp (fun h2_ => Go.Proofs.Ythdnodmidbcgpaa.XWalk.apart (k := gbY) (show gbY ≤ gbY ∧ gbY < (gbY + 1) from ⟨Nat.le_refl _, Nat.lt_succ_self _⟩) (show nxd ≤ gbY ∧ gbY < mxd from h2_) (.inr ord_d_Y.out))); have n12_ := Aside0.mk (Nat.le_trans hz_Y.out (Nat.le_trans hup.1 hup.2)); have n13_ := Aside0.mk (Kd.S_kept (sd_to HOxf) hkp (fun k_ h1_ h2_ => Go.Proofs.Ythdnodmidbcgpaa.XWalk.apart (show nxf ≤ k_ ∧ k_ < mxf from h1_) (show nxd ≤ k_ ∧ k_ < mxd from h2_) (.inr ord_d_f.out))); have n14_ := Aside0.mk (Nat.le_trans hz_f.out (Nat.le_trans hup.1 hup.2)); have n15_ := Aside0.mk (Kd.R_kept (kd_to HOxg) hkp (fun k_ h1_ h2_ => Go.Proofs.Ythdnodmidbcgpaa.XWalk.apart (show nxg ≤ k_ ∧ k_ < mxg from h1_) (show nxd ≤ k_ ∧ k_ < mxd from h2_) (.inr ord_d_g.out))); have n16_ := Aside0.mk (Nat.le_trans hz_g.out (Nat.le_trans hup.1 hup.2)); have n17_ := Aside0.mk (Kd.S_kept (sd_to HOxj) hkp (fun k_ h1_ h2_ => Go.Proofs.Ythdnodmidbcgpaa.XWalk.apart (show nxj ≤ k_ ∧ k_ < mxj from h1_) (show nxd ≤ k_ ∧ k_ < mxd from h2_) (.inr ord_d_j.out))); have n18_ := Aside0.mk (Nat.le_trans hz_j.out (Nat.le_trans hup.1 hup.2)); have nb_ := Aside0.mk hb; clear HOxd BKP hz_P BKQ hz_Q HOxw hz_w hz_d BKX hz_X HOxe hz_e BKY hz_Y HOxf hz_f HOxg hz_g HOxj hz_j HB; have HOxd := ny_; have BKP := n0_; have hz_P := n1_; have BKQ := n2_; have hz_Q := n3_; have HOxw := n4_; have hz_w := n5_; have hz_d := n6_; have BKX := n7_; have hz_X := n8_; have HOxe := n9_; have hz_e := n10_; have BKY := n11_; have hz_Y := n12_; have HOxf := n13_; have hz_f := n14_; have HOxg := n15_; have hz_g := n16_; have HOxj := n17_; have hz_j := n18_; have HB := nb_; clear ny_ n0_ n1_ n2_ n3_ n4_ n5_ n6_ n7_ n8_ n9_ n10_ n11_ n12_ n13_ n14_ n15_ n16_ n17_ n18_ nb_; clear hy0 hb hkp hup; clear HOxd hz_d; clear HOxj hz_j; (try clear hczP_0 hczP_1 hczP_2 hczP_3 hfzP_0 hfzP_1 hfzP_2 hfzP_3); have hczP_0 : W22_.cell? ⟨gbP, 0, none⟩ = some (.int .i64 a0_0) := (blk_cell BKP.out 0).trans rfl; have hczP_1 : W22_.cell? ⟨gbP, 1, none⟩ = some (.int .i64 a0_1) := (blk_cell BKP.out 1).trans rfl; have hczP_2 : W22_.cell? ⟨gbP, 2, none⟩ = some (.int .i64 a0_2) := (blk_cell BKP.out 2).trans rfl; have hczP_3 : W22_.cell? ⟨gbP, 3, none⟩ = some (.slice A0_3 l0_3.length c0_3) := (blk_cell BKP.out 3).trans rfl; have hfzP_0 := blk_frozen BKP.out 0; have hfzP_1 := blk_frozen BKP.out 1; have hfzP_2 := blk_frozen BKP.out 2; have hfzP_3 := blk_frozen BKP.out 3; (try clear hczQ_0 hczQ_1 hczQ_2 hczQ_3 hfzQ_0 hfzQ_1 hfzQ_2 hfzQ_3); have hczQ_0 : W22_.cell? ⟨gbQ, 0, none⟩ = some (.int .i64 a2_0) := (blk_cell BKQ.out 0).trans rfl; have hczQ_1 : W22_.cell? ⟨gbQ, 1, none⟩ = some (.int .i64 a2_1) := (blk_cell BKQ.out 1).trans rfl; have hczQ_2 : W22_.cell? ⟨gbQ, 2, none⟩ = some (.int .i64 a2_2) := (blk_cell BKQ.out 2).trans rfl; have hczQ_3 : W22_.cell? ⟨gbQ, 3, none⟩ = some (.slice A2_3 l2_3.length c2_3) := (blk_cell BKQ.out 3).trans rfl; have hfzQ_0 := blk_frozen BKQ.out 0; have hfzQ_1 := blk_frozen BKQ.out 1; have hfzQ_2 := blk_frozen BKQ.out 2; have hfzQ_3 := blk_frozen BKQ.out 3; (try clear hczX_0 hczX_1 hczX_2 hczX_3 hfzX_0 hfzX_1 hfzX_2 hfzX_3); have hczX_0 : W22_.cell? ⟨gbX, 0, none⟩ = some (.int .i64 u1) := (blk_cell BKX.out 0).trans rfl; have hczX_1 : W22_.cell? ⟨gbX, 1, none⟩ = some (.int .i64 u2) := (blk_cell BKX.out 1).trans rfl; have hczX_2 : W22_.cell? ⟨gbX, 2, none⟩ = some (.int .i64 u3) := (blk_cell BKX.out 2).trans rfl; have hczX_3 : W22_.cell? ⟨gbX, 3, none⟩ = some (.slice Axd x1.length cxd) := (blk_cell BKX.out 3).trans rfl; have hfzX_0 := blk_frozen BKX.out 0; have hfzX_1 := blk_frozen BKX.out 1; have hfzX_2 := blk_frozen BKX.out 2; have hfzX_3 := blk_frozen BKX.out 3; (try clear hczY_0 hczY_1 hczY_2 hczY_3 hfzY_0 hfzY_1 hfzY_2 hfzY_3); have hczY_0 : W22_.cell? ⟨gbY, 0, none⟩ = some (.int .i64 y1) := (blk_cell BKY.out 0).trans rfl; have hczY_1 : W22_.cell? ⟨gbY, 1, none⟩ = some (.int .i64 y2) := (blk_cell BKY.out 1).trans rfl; have hczY_2 : W22_.cell? ⟨gbY, 2, none⟩ = some (.int .i64 y3) := (blk_cell BKY.out 2).trans rfl; have hczY_3 : W22_.cell? ⟨gbY, 3, none⟩ = some (.slice Axe x2.length cxe) := (blk_cell BKY.out 3).trans rfl; have hfzY_0 := blk_frozen BKY.out 0; have hfzY_1 := blk_frozen BKY.out 1; have hfzY_2 := blk_frozen BKY.out 2; have hfzY_3 := blk_frozen BKY.out 3) | ((with_reducible refine gate_callee (f := 14) rfl ?_); refine goesL_ (some 109) rfl rfl Try.func14 (by kernel_rfl) rfl #[.agg #[.int .i64 y1, .int .i64 y2, .int .i64 y3, .slice Axe x2.length cxe], .int .i64 m1] rfl am_ ?_; (with_reducible refine (laws_markLine.calls k y1 y2 y3 (fun k_ => nxe ≤ k_ ∧ k_ < mxe) (.slice Axe x2.length cxe) x2 m1 m2 z2 w _ ?side1 ?side2 F14.out).mono ?_); (case side1 => exact below_to HB); (case side2 => (with_reducible repeat (first | apply Kd.R_alloc | apply Kd.R_drewN | apply Kd.R_drew)); exact HOxe.out); rintro e W23_ ⟨rfl, hy0, hb, hkp⟩; refine ⟨_, rfl, ?_⟩; have hup := Go.Proofs.Ythdnodmidbcgpaa.XWalk.upK (wp := W22_) hkp (by repeat (first | (with_reducible first | exact Below.refl _ _ | apply below_alloc | apply pw_below_drewN | apply below_drew1) | exact Below.refl _ _)); have ny_ := Aside0.mk (Kd.R_reok rfl hy0 (fun k_ e_ => HOxe.out.1 k_ e_)); have n0_ := Aside0.mk (blk_kept (g := gbP) (o := .cells #[.int .i64 a0_0, .int .i64 a0_1, .int .i64 a0_2, .slice A0_3 l0_3.length c0_3] 24 (0, 0)) (blk_to BKP) hkp (fun h2_ => Go.Proofs.Ythdnodmidbcgpaa.XWalk.apart (k := gbP) (show gbP ≤ gbP ∧ gbP < (gbP + 1) from ⟨Nat.le_refl _, Nat.lt_succ_self _⟩) (show nxe ≤ gbP ∧ gbP < mxe from h2_) (.inl ord_P_e.out))); have n1_ := Aside0.mk (Nat.le_trans hz_P.out (Nat.le_trans hup.1 hup.2)); have n2_ := Aside0.mk (blk_kept (g := gbQ) (o := .cells #[.int .i64 a2_0, .int .i64 a2_1, .int .i64 a2_2, .slice A2_3 l2_3.length c2_3] 24 (0, 0)) (blk_to BKQ) hkp (fun h2_ => Go.Proofs.Ythdnodmidbcgpaa.XWalk.apart (k := gbQ) (show gbQ ≤ gbQ ∧ gbQ < (gbQ + 1) from ⟨Nat.le_refl _, Nat.lt_succ_self _⟩) (show nxe ≤ gbQ ∧ gbQ < mxe from h2_) (.inl ord_Q_e.out))); have n3_ := Aside0.mk (Nat.le_trans hz_Q.out (Nat.le_trans hup.1 hup.2)); have n4_ := Aside0.mk (Kd.R_kept (kd_to HOxw) hkp (fun k_ h1_ h2_ => Go.Proofs.Ythdnodmidbcgpaa.XWalk.apart (show nxw ≤ k_ ∧ k_ < mxw from h1_) (show nxe ≤ k_ ∧ k_ < mxe from h2_) (.inl ord_w_e.out))); have n5_ := Aside0.mk (Nat.le_trans hz_w.out (Nat.le_trans hup.1 hup.2)); have n6_ := Aside0.mk (blk_kept (g := gbX) (o := .cells #[.int .i64 u1, .int .i64 u2, .int .i64 u3, .slice Axd x1.length cxd] 30 (0, 0)) (blk_to BKX) hkp (fun h2_ => Go.Proofs.Ythdnodmidbcgpaa.XWalk.apart (k := gbX) (show gbX ≤ gbX ∧ gbX < (gbX + 1) from ⟨Nat.le_refl _, Nat.lt_succ_self _⟩) (show nxe ≤ gbX ∧ gbX < mxe from h2_) (.inl ord_X_e.out))); have n7_ := Aside0.mk (Nat.le_trans hz_X.out (Nat.le_trans hup.1 hup.2)); have n8_ := Aside0.mk (Nat.le_trans hz_e.out (Nat.le_trans hup.1 hup.2)); have n9_ := Aside0.mk (blk_kept (g := gbY) (o := .cells #[.int .i64 y1, .int .i64 y2, .int .i64 y3, .slice Axe x2.length cxe] 30 (0, 0)) (blk_to BKY) hkp (fun h2_ => Go.Proofs.Ythdnodmidbcgpaa.XWalk.apart (k := gbY) (show gbY ≤ gbY ∧ gbY < (gbY + 1) from ⟨Nat.le_refl _, Nat.lt_succ_self _⟩) (show nxe ≤ gbY ∧ gbY < mxe from h2_) (.inr ord_e_Y.out))); have n10_ := Aside0.mk (Nat.le_trans hz_Y.out (Nat.le_trans hup.1 hup.2)); have n11_ := Aside0.mk (Kd.S_kept (sd_to HOxf) hkp (fun k_ h1_ h2_ => Go.Proofs.Ythdnodmidbcgpaa.XWalk.apart (show nxf ≤ k_ ∧ k_ < mxf from h1_) (show nxe ≤ k_ ∧ k_ < mxe from h2_) (.inr ord_e_f.out))); have n12_ := Aside0.mk (Nat.le_trans hz_f.out (Nat.le_trans hup.1 hup.2)); have n13_ := Aside0.mk (Kd.R_kept (kd_to HOxg) hkp (fun k_ h1_ h2_ => Go.Proofs.Ythdnodmidbcgpaa.XWalk.apart (show nxg ≤ k_ ∧ k_ < mxg from h1_) (show nxe ≤ k_ ∧ k_ < mxe from h2_) (.inr ord_e_g.out))); have n14_ := Aside0.mk (Nat.le_trans hz_g.out (Nat.le_trans hup.1 hup.2)); have nb_ := Aside0.mk hb; clear HOxe BKP hz_P BKQ hz_Q HOxw hz_w BKX hz_X hz_e BKY hz_Y HOxf hz_f HOxg hz_g HB; have HOxe := ny_; have BKP := n0_; have hz_P := n1_; have BKQ := n2_; have hz_Q := n3_; have HOxw := n4_; have hz_w := n5_; have BKX := n6_; have hz_X := n7_; have hz_e := n8_; have BKY := n9_; have hz_Y := n10_; have HOxf := n11_; have hz_f := n12_; have HOxg := n13_; have hz_g := n14_; have HB := nb_; clear ny_ n0_ n1_ n2_ n3_ n4_ n5_ n6_ n7_ n8_ n9_ n10_ n11_ n12_ n13_ n14_ nb_; clear hy0 hb hkp hup; clear HOxe hz_e; (try clear hczP_0 hczP_1 hczP_2 hczP_3 hfzP_0 hfzP_1 hfzP_2 hfzP_3); have hczP_0 : W23_.cell? ⟨gbP, 0, none⟩ = some (.int .i64 a0_0) := (blk_cell BKP.out 0).trans rfl; have hczP_1 : W23_.cell? ⟨gbP, 1, none⟩ = some (.int .i64 a0_1) := (blk_cell BKP.out 1).trans rfl; have hczP_2 : W23_.cell? ⟨gbP, 2, none⟩ = some (.int .i64 a0_2) := (blk_cell BKP.out 2).trans rfl; have hczP_3 : W23_.cell? ⟨gbP, 3, none⟩ = some (.slice A0_3 l0_3.length c0_3) := (blk_cell BKP.out 3).trans rfl; have hfzP_0 := blk_frozen BKP.out 0; have hfzP_1 := blk_frozen BKP.out 1; have hfzP_2 := blk_frozen BKP.out 2; have hfzP_3 := blk_frozen BKP.out 3; (try clear hczQ_0 hczQ_1 hczQ_2 hczQ_3 hfzQ_0 hfzQ_1 hfzQ_2 hfzQ_3); have hczQ_0 : W23_.cell? ⟨gbQ, 0, none⟩ = some (.int .i64 a2_0) := (blk_cell BKQ.out 0).trans rfl; have hczQ_1 : W23_.cell? ⟨gbQ, 1, none⟩ = some (.int .i64 a2_1) := (blk_cell BKQ.out 1).trans rfl; have hczQ_2 : W23_.cell? ⟨gbQ, 2, none⟩ = some (.int .i64 a2_2) := (blk_cell BKQ.out 2).trans rfl; have hczQ_3 : W23_.cell? ⟨gbQ, 3, none⟩ = some (.slice A2_3 l2_3.length c2_3) := (blk_cell BKQ.out 3).trans rfl; have hfzQ_0 := blk_frozen BKQ.out 0; have hfzQ_1 := blk_frozen BKQ.out 1; have hfzQ_2 := blk_frozen BKQ.out 2; have hfzQ_3 := blk_frozen BKQ.out 3; (try clear hczX_0 hczX_1 hczX_2 hczX_3 hfzX_0 hfzX_1 hfzX_2 hfzX_3); have hczX_0 : W23_.cell? ⟨gbX, 0, none⟩ = some (.int .i64 u1) := (blk_cell BKX.out 0).trans rfl; have hczX_1 : W23_.cell? ⟨gbX, 1, none⟩ = some (.int .i64 u2) := (blk_cell BKX.out 1).trans rfl; have hczX_2 : W23_.cell? ⟨gbX, 2, none⟩ = some (.int .i64 u3) := (blk_cell BKX.out 2).trans rfl; have hczX_3 : W23_.cell? ⟨gbX, 3, none⟩ = some (.slice Axd x1.length cxd) := (blk_cell BKX.out 3).trans rfl; have hfzX_0 := blk_frozen BKX.out 0; have hfzX_1 := blk_frozen BKX.out 1; have hfzX_2 := blk_frozen BKX.out 2; have hfzX_3 := blk_frozen BKX.out 3; (try clear hczY_0 hczY_1 hczY_2 hczY_3 hfzY_0 hfzY_1 hfzY_2 hfzY_3); have hczY_0 : W23_.cell? ⟨gbY, 0, none⟩ = some (.int .i64 y1) := (blk_cell BKY.out 0).trans rfl; have hczY_1 : W23_.cell? ⟨gbY, 1, none⟩ = some (.int .i64 y2) := (blk_cell BKY.out 1).trans rfl; have hczY_2 : W23_.cell? ⟨gbY, 2, none⟩ = some (.int .i64 y3) := (blk_cell BKY.out 2).trans rfl; have hczY_3 : W23_.cell? ⟨gbY, 3, none⟩ = some (.slice Axe x2.length cxe) := (blk_cell BKY.out 3).trans rfl; have hfzY_0 := blk_frozen BKY.out 0; have hfzY_1 := blk_frozen BKY.out 1; have hfzY_2 := blk_frozen BKY.out 2; have hfzY_3 := blk_frozen BKY.out 3) | ((with_reducible refine gate_callee (f := 15) rfl ?_); refine goesL_ (some 112) rfl rfl Try.func15 (by kernel_rfl) rfl #[.slice Axf x3.length cxf, .int .i64 m2] rfl am_ ?_; (with_reducible refine (laws_markIntSS.calls k (fun k_ => nxf ≤ k_ ∧ k_ < mxf) (.slice Axf x3.length cxf) x3 m2 m3 z3 w _ ?side1 ?side2 F15.out).mono ?_); (case side1 => exact below_to HB); (case side2 => (with_reducible repeat (first | apply Kd.S_alloc | apply Kd.S_drewN | apply Kd.S_drew)); exact HOxf.out); rintro e W24_ ⟨rfl, hy0, hb, hkp⟩; refine ⟨_, rfl, ?_⟩; have hup := Go.Proofs.Ythdnodmidbcgpaa.XWalk.upK (wp := W23_) hkp (by repeat (first | (with_reducible first | exact Below.refl _ _ | apply below_alloc | apply pw_below_drewN | apply below_drew1) | exact Below.refl _ _)); have ny_ := Aside0.mk (hy0); have n0_ := Aside0.mk (blk_kept (g := gbP) (o := .cells #[.int .i64 a0_0, .int .i64 a0_1, .int .i64 a0_2, .slice A0_3 l0_3.length c0_3] 24 (0, 0)) (blk_to BKP) hkp (fun h2_ => Go.Proofs.Ythdnodmidbcgpaa.XWalk.apart (k := gbP) (show gbP ≤ gbP ∧ gbP < (gbP + 1) from ⟨Nat.le_refl _, Nat.lt_succ_self _⟩) (show nxf ≤ gbP ∧ gbP < mxf from h2_) (.inl ord_P_f.out))); have n1_ := Aside0.mk (Nat.le_trans hz_P.out (Nat.le_trans hup.1 hup.2)); have n2_ := Aside0.mk (blk_kept (g := gbQ) (o := .cells #[.int .i64 a2_0, .int .i64 a2_1, .int .i64 a2_2, .slice A2_3 l2_3.length c2_3] 24 (0, 0)) (blk_to BKQ) hkp (fun h2_ => Go.Proofs.Ythdnodmidbcgpaa.XWalk.apart (k := gbQ) (show gbQ ≤ gbQ ∧ gbQ < (gbQ + 1) from ⟨Nat.le_refl _, Nat.lt_succ_self _⟩) (show nxf ≤ gbQ ∧ gbQ < mxf from h2_) (.inl ord_Q_f.out))); have n3_ := Aside0.mk (Nat.le_trans hz_Q.out (Nat.le_trans hup.1 hup.2)); have n4_ := Aside0.mk (Kd.R_kept (kd_to HOxw) hkp (fun k_ h1_ h2_ => Go.Proofs.Ythdnodmidbcgpaa.XWalk.apart (show nxw ≤ k_ ∧ k_ < mxw from h1_) (show nxf ≤ k_ ∧ k_ < mxf from h2_) (.inl ord_w_f.out))); have n5_ := Aside0.mk (Nat.le_trans hz_w.out (Nat.le_trans hup.1 hup.2)); have n6_ := Aside0.mk (blk_kept (g := gbX) (o := .cells #[.int .i64 u1, .int .i64 u2, .int .i64 u3, .slice Axd x1.length cxd] 30 (0, 0)) (blk_to BKX) hkp (fun h2_ => Go.Proofs.Ythdnodmidbcgpaa.XWalk.apart (k := gbX) (show gbX ≤ gbX ∧ gbX < (gbX + 1) from ⟨Nat.le_refl _, Nat.lt_succ_self _⟩) (show nxf ≤ gbX ∧ gbX < mxf from h2_) (.inl ord_X_f.out))); have n7_ := Aside0.mk (Nat.le_trans hz_X.out (Nat.le_trans hup.1 hup.2)); have n8_ := Aside0.mk (blk_kept (g := gbY) (o := .cells #[.int .i64 y1, .int .i64 y2, .int .i64 y3, .slice Axe x2.length cxe] 30 (0, 0)) (blk_to BKY) hkp (fun h2_ => Go.Proofs.Ythdnodmidbcgpaa.XWalk.apart (k := gbY) (show gbY ≤ gbY ∧ gbY < (gbY + 1) from ⟨Nat.le_refl _, Nat.lt_succ_self _⟩) (show nxf ≤ gbY ∧ gbY < mxf from h2_) (.inl ord_Y_f.out))); have n9_ := Aside0.mk (Nat.le_trans hz_Y.out (Nat.le_trans hup.1 hup.2)); have n10_ := Aside0.mk (Nat.le_trans hz_f.out (Nat.le_trans hup.1 hup.2)); have n11_ := Aside0.mk (Kd.R_kept (kd_to HOxg) hkp (fun k_ h1_ h2_ => Go.Proofs.Ythdnodmidbcgpaa.XWalk.apart (show nxg ≤ k_ ∧ k_ < mxg from h1_) (show nxf ≤ k_ ∧ k_ < mxf from h2_) (.inr ord_f_g.out))); have n12_ := Aside0.mk (Nat.le_trans hz_g.out (Nat.le_trans hup.1 hup.2)); have nb_ := Aside0.mk hb; clear HOxf BKP hz_P BKQ hz_Q HOxw hz_w BKX hz_X BKY hz_Y hz_f HOxg hz_g HB; have HOxf := ny_; have BKP := n0_; have hz_P := n1_; have BKQ := n2_; have hz_Q := n3_; have HOxw := n4_; have hz_w := n5_; have BKX := n6_; have hz_X := n7_; have BKY := n8_; have hz_Y := n9_; have hz_f := n10_; have HOxg := n11_; have hz_g := n12_; have HB := nb_; clear ny_ n0_ n1_ n2_ n3_ n4_ n5_ n6_ n7_ n8_ n9_ n10_ n11_ n12_ nb_; clear hy0 hb hkp hup; clear HOxf hz_f; (try clear hczP_0 hczP_1 hczP_2 hczP_3 hfzP_0 hfzP_1 hfzP_2 hfzP_3); have hczP_0 : W24_.cell? ⟨gbP, 0, none⟩ = some (.int .i64 a0_0) := (blk_cell BKP.out 0).trans rfl; have hczP_1 : W24_.cell? ⟨gbP, 1, none⟩ = some (.int .i64 a0_1) := (blk_cell BKP.out 1).trans rfl; have hczP_2 : W24_.cell? ⟨gbP, 2, none⟩ = some (.int .i64 a0_2) := (blk_cell BKP.out 2).trans rfl; have hczP_3 : W24_.cell? ⟨gbP, 3, none⟩ = some (.slice A0_3 l0_3.length c0_3) := (blk_cell BKP.out 3).trans rfl; have hfzP_0 := blk_frozen BKP.out 0; have hfzP_1 := blk_frozen BKP.out 1; have hfzP_2 := blk_frozen BKP.out 2; have hfzP_3 := blk_frozen BKP.out 3; (try clear hczQ_0 hczQ_1 hczQ_2 hczQ_3 hfzQ_0 hfzQ_1 hfzQ_2 hfzQ_3); have hczQ_0 : W24_.cell? ⟨gbQ, 0, none⟩ = some (.int .i64 a2_0) := (blk_cell BKQ.out 0).trans rfl; have hczQ_1 : W24_.cell? ⟨gbQ, 1, none⟩ = some (.int .i64 a2_1) := (blk_cell BKQ.out 1).trans rfl; have hczQ_2 : W24_.cell? ⟨gbQ, 2, none⟩ = some (.int .i64 a2_2) := (blk_cell BKQ.out 2).trans rfl; have hczQ_3 : W24_.cell? ⟨gbQ, 3, none⟩ = some (.slice A2_3 l2_3.length c2_3) := (blk_cell BKQ.out 3).trans rfl; have hfzQ_0 := blk_frozen BKQ.out 0; have hfzQ_1 := blk_frozen BKQ.out 1; have hfzQ_2 := blk_frozen BKQ.out 2; have hfzQ_3 := blk_frozen BKQ.out 3; (try clear hczX_0 hczX_1 hczX_2 hczX_3 hfzX_0 hfzX_1 hfzX_2 hfzX_3); have hczX_0 : W24_.cell? ⟨gbX, 0, none⟩ = some (.int .i64 u1) := (blk_cell BKX.out 0).trans rfl; have hczX_1 : W24_.cell? ⟨gbX, 1, none⟩ = some (.int .i64 u2) := (blk_cell BKX.out 1).trans rfl; have hczX_2 : W24_.cell? ⟨gbX, 2, none⟩ = some (.int .i64 u3) := (blk_cell BKX.out 2).trans rfl; have hczX_3 : W24_.cell? ⟨gbX, 3, none⟩ = some (.slice Axd x1.length cxd) := (blk_cell BKX.out 3).trans rfl; have hfzX_0 := blk_frozen BKX.out 0; have hfzX_1 := blk_frozen BKX.out 1; have hfzX_2 := blk_frozen BKX.out 2; have hfzX_3 := blk_frozen BKX.out 3; (try clear hczY_0 hczY_1 hczY_2 hczY_3 hfzY_0 hfzY_1 hfzY_2 hfzY_3); have hczY_0 : W24_.cell? ⟨gbY, 0, none⟩ = some (.int .i64 y1) := (blk_cell BKY.out 0).trans rfl; have hczY_1 : W24_.cell? ⟨gbY, 1, none⟩ = some (.int .i64 y2) := (blk_cell BKY.out 1).trans rfl; have hczY_2 : W24_.cell? ⟨gbY, 2, none⟩ = some (.int .i64 y3) := (blk_cell BKY.out 2).trans rfl; have hczY_3 : W24_.cell? ⟨gbY, 3, none⟩ = some (.slice Axe x2.length cxe) := (blk_cell BKY.out 3).trans rfl; have hfzY_0 := blk_frozen BKY.out 0; have hfzY_1 := blk_frozen BKY.out 1; have hfzY_2 := blk_frozen BKY.out 2; have hfzY_3 := blk_frozen BKY.out 3) | (go_at_call 11; (with_reducible refine (laws_eqIntS.calls k _ _ w1 _ _ w1 true _ ?side1 ?side2 ?side3 ?side4 F9.out).mono ?_); (case side1 => exact cR_ HOxg); (case side2 => exact (Kd.R_reads' HOxg.out).2.1); (case side3 => exact cR_ HOxw); (case side4 => exact (Kd.R_reads' HOxw.out).2.1); rintro e w' ⟨rfl, ⟨nd, rfl⟩⟩) | ((with_reducible refine gate_callee (f := 16) rfl ?_); refine goesL_ (some 133) rfl rfl Try.func16 (by kernel_rfl) rfl #[.slice Axg w1.length cxg, .int .i64 1] rfl am_ ?_; (with_reducible refine (laws_markIntS.calls k (fun k_ => nxg ≤ k_ ∧ k_ < mxg) (.slice Axg w1.length cxg) w1 1 m4 r4 w _ ?side1 ?side2 F16.out).mono ?_); (case side1 => exact below_to HB); (case side2 => (with_reducible repeat (first | apply Kd.R_alloc | apply Kd.R_drewN | apply Kd.R_drew)); exact HOxg.out); rintro e W25_ ⟨rfl, hy0, hb, hkp⟩; refine ⟨_, rfl, ?_⟩; have hup := Go.Proofs.Ythdnodmidbcgpaa.XWalk.upK (wp := W24_) hkp (by repeat (first | (with_reducible first | exact Below.refl _ _ | apply below_alloc | apply pw_below_drewN | apply below_drew1) | exact Below.refl _ _)); have ny_ := Aside0.mk (Kd.R_reok rfl hy0 (fun k_ e_ => HOxg.out.1 k_ e_)); have n0_ := Aside0.mk (blk_kept (g := gbP) (o := .cells #[.int .i64 a0_0, .int .i64 a0_1, .int .i64 a0_2, .slice A0_3 l0_3.length c0_3] 24 (0, 0)) (blk_to BKP) hkp (fun h2_ => Go.Proofs.Ythdnodmidbcgpaa.XWalk.apart (k := gbP) (show gbP ≤ gbP ∧ gbP < (gbP + 1) from ⟨Nat.le_refl _, Nat.lt_succ_self _⟩) (show nxg ≤ gbP ∧ gbP < mxg from h2_) (.inl ord_P_g.out))); have n1_ := Aside0.mk (Nat.le_trans hz_P.out (Nat.le_trans hup.1 hup.2)); have n2_ := Aside0.mk (blk_kept (g := gbQ) (o := .cells #[.int .i64 a2_0, .int .i64 a2_1, .int .i64 a2_2, .slice A2_3 l2_3.length c2_3] 24 (0, 0)) (blk_to BKQ) hkp (fun h2_ => Go.Proofs.Ythdnodmidbcgpaa.XWalk.apart (k := gbQ) (show gbQ ≤ gbQ ∧ gbQ < (gbQ + 1) from ⟨Nat.le_refl _, Nat.lt_succ_self _⟩) (show nxg ≤ gbQ ∧ gbQ < mxg from h2_) (.inl ord_Q_g.out))); have n3_ := Aside0.mk (Nat.le_trans hz_Q.out (Nat.le_trans hup.1 hup.2)); have n4_ := Aside0.mk (Kd.R_kept (kd_to HOxw) hkp (fun k_ h1_ h2_ => Go.Proofs.Ythdnodmidbcgpaa.XWalk.apart (show nxw ≤ k_ ∧ k_ < mxw from h1_) (show nxg ≤ k_ ∧ k_ < mxg from h2_) (.inl ord_w_g.out))); have n5_ := Aside0.mk (Nat.le_trans hz_w.out (Nat.le_trans hup.1 hup.2)); have n6_ := Aside0.mk (blk_kept (g := gbX) (o := .cells #[.int .i64 u1, .int .i64 u2, .int .i64 u3, .slice Axd x1.length cxd] 30 (0, 0)) (blk_to BKX) hkp (fun h2_ => Go.Proofs.Ythdnodmidbcgpaa.XWalk.apart (k := gbX) (show gbX ≤ gbX ∧ gbX < (gbX + 1) from ⟨Nat.le_refl _, Nat.lt_succ_self _⟩) (show nxg ≤ gbX ∧ gbX < mxg from h2_) (.inl ord_X_g.out))); have n7_ := Aside0.mk (Nat.le_trans hz_X.out (Nat.le_trans hup.1 hup.2)); have n8_ := Aside0.mk (blk_kept (g := gbY) (o := .cells #[.int .i64 y1, .int .i64 y2, .int .i64 y3, .slice Axe x2.length cxe] 30 (0, 0)) (blk_to BKY) hkp (fun h2_ => Go.Proofs.Ythdnodmidbcgpaa.XWalk.apart (k := gbY) (show gbY ≤ gbY ∧ gbY < (gbY + 1) from ⟨Nat.le_refl _, Nat.lt_succ_self _⟩) (show nxg ≤ gbY ∧ gbY < mxg from h2_) (.inl ord_Y_g.out))); have n9_ := Aside0.mk (Nat.le_trans hz_Y.out (Nat.le_trans hup.1 hup.2)); have n10_ := Aside0.mk (Nat.le_trans hz_g.out (Nat.le_trans hup.1 hup.2)); have nb_ := Aside0.mk hb; clear HOxg BKP hz_P BKQ hz_Q HOxw hz_w BKX hz_X BKY hz_Y hz_g HB; have HOxg := ny_; have BKP := n0_; have hz_P := n1_; have BKQ := n2_; have hz_Q := n3_; have HOxw := n4_; have hz_w := n5_; have BKX := n6_; have hz_X := n7_; have BKY := n8_; have hz_Y := n9_; have hz_g := n10_; have HB := nb_; clear ny_ n0_ n1_ n2_ n3_ n4_ n5_ n6_ n7_ n8_ n9_ n10_ nb_; clear hy0 hb hkp hup; (try clear hczP_0 hczP_1 hczP_2 hczP_3 hfzP_0 hfzP_1 hfzP_2 hfzP_3); have hczP_0 : W25_.cell? ⟨gbP, 0, none⟩ = some (.int .i64 a0_0) := (blk_cell BKP.out 0).trans rfl; have hczP_1 : W25_.cell? ⟨gbP, 1, none⟩ = some (.int .i64 a0_1) := (blk_cell BKP.out 1).trans rfl; have hczP_2 : W25_.cell? ⟨gbP, 2, none⟩ = some (.int .i64 a0_2) := (blk_cell BKP.out 2).trans rfl; have hczP_3 : W25_.cell? ⟨gbP, 3, none⟩ = some (.slice A0_3 l0_3.length c0_3) := (blk_cell BKP.out 3).trans rfl; have hfzP_0 := blk_frozen BKP.out 0; have hfzP_1 := blk_frozen BKP.out 1; have hfzP_2 := blk_frozen BKP.out 2; have hfzP_3 := blk_frozen BKP.out 3; (try clear hczQ_0 hczQ_1 hczQ_2 hczQ_3 hfzQ_0 hfzQ_1 hfzQ_2 hfzQ_3); have hczQ_0 : W25_.cell? ⟨gbQ, 0, none⟩ = some (.int .i64 a2_0) := (blk_cell BKQ.out 0).trans rfl; have hczQ_1 : W25_.cell? ⟨gbQ, 1, none⟩ = some (.int .i64 a2_1) := (blk_cell BKQ.out 1).trans rfl; have hczQ_2 : W25_.cell? ⟨gbQ, 2, none⟩ = some (.int .i64 a2_2) := (blk_cell BKQ.out 2).trans rfl; have hczQ_3 : W25_.cell? ⟨gbQ, 3, none⟩ = some (.slice A2_3 l2_3.length c2_3) := (blk_cell BKQ.out 3).trans rfl; have hfzQ_0 := blk_frozen BKQ.out 0; have hfzQ_1 := blk_frozen BKQ.out 1; have hfzQ_2 := blk_frozen BKQ.out 2; have hfzQ_3 := blk_frozen BKQ.out 3; (try clear hczX_0 hczX_1 hczX_2 hczX_3 hfzX_0 hfzX_1 hfzX_2 hfzX_3); have hczX_0 : W25_.cell? ⟨gbX, 0, none⟩ = some (.int .i64 u1) := (blk_cell BKX.out 0).trans rfl; have hczX_1 : W25_.cell? ⟨gbX, 1, none⟩ = some (.int .i64 u2) := (blk_cell BKX.out 1).trans rfl; have hczX_2 : W25_.cell? ⟨gbX, 2, none⟩ = some (.int .i64 u3) := (blk_cell BKX.out 2).trans rfl; have hczX_3 : W25_.cell? ⟨gbX, 3, none⟩ = some (.slice Axd x1.length cxd) := (blk_cell BKX.out 3).trans rfl; have hfzX_0 := blk_frozen BKX.out 0; have hfzX_1 := blk_frozen BKX.out 1; have hfzX_2 := blk_frozen BKX.out 2; have hfzX_3 := blk_frozen BKX.out 3; (try clear hczY_0 hczY_1 hczY_2 hczY_3 hfzY_0 hfzY_1 hfzY_2 hfzY_3); have hczY_0 : W25_.cell? ⟨gbY, 0, none⟩ = some (.int .i64 y1) := (blk_cell BKY.out 0).trans rfl; have hczY_1 : W25_.cell? ⟨gbY, 1, none⟩ = some (.int .i64 y2) := (blk_cell BKY.out 1).trans rfl; have hczY_2 : W25_.cell? ⟨gbY, 2, none⟩ = some (.int .i64 y3) := (blk_cell BKY.out 2).trans rfl; have hczY_3 : W25_.cell? ⟨gbY, 3, none⟩ = some (.slice Axe x2.length cxe) := (blk_cell BKY.out 3).trans rfl; have hfzY_0 := blk_frozen BKY.out 0; have hfzY_1 := blk_frozen BKY.out 1; have hfzY_2 := blk_frozen BKY.out 2; have hfzY_3 := blk_frozen BKY.out 3) | ((with_reducible refine gate_callee (f := 17) rfl ?_); refine goesL_ (some 136) rfl rfl Try.func17 (by kernel_rfl) rfl #[.slice Axg r4.length cxg, .int .i64 1] rfl (by (try simp only [List.map_toArray, List.map_cons, List.map_nil]); first | done | (rw [show r4.length = w1.length from (Kd.R_reads' HOxg.out).1.symm] <;> rfl) | rfl | (simp only [List.length_drop, List.length_take]; rfl)) ?_; (with_reducible refine (laws_heldIntS.calls k _ _ r4 1 m4 _ ?side1 ?side2 F17.out).mono ?_); (case side1 => exact cR_ HOxg); (case side2 => rw [show r4.length = w1.length from (Kd.R_reads' HOxg.out).1.symm]; exact (Kd.R_reads' HOxg.out).2.1); rintro e w' ⟨rfl, ⟨nd, rfl⟩⟩; refine ⟨_, rfl, ?_⟩))
 refine start_ (n := 17) (S := fun w' => w'.cell? ⟨gbP, 0, none⟩ = some (.int .i64 a0_0) ∧ w'.cell? ⟨gbP, 1, none⟩ = some (.int .i64 a0_1) ∧ w'.cell? ⟨gbP, 2, none⟩ = some (.int .i64 a0_2) ∧ w'.cell? ⟨gbP, 3, none⟩ = some (.slice A0_3 l0_3.length c0_3) ∧ w'.cell? ⟨gbQ, 0, none⟩ = some (.int .i64 a2_0) ∧ w'.cell? ⟨gbQ, 1, none⟩ = some (.int .i64 a2_1) ∧ w'.cell? ⟨gbQ, 2, none⟩ = some (.int .i64 a2_2) ∧ w'.cell? ⟨gbQ, 3, none⟩ = some (.slice A2_3 l2_3.length c2_3) ∧ w'.cell? ⟨gbX, 0, none⟩ = some (.int .i64 u1) ∧ w'.cell? ⟨gbX, 1, none⟩ = some (.int .i64 u2) ∧ w'.cell? ⟨gbX, 2, none⟩ = some (.int .i64 u3) ∧ w'.cell? ⟨gbX, 3, none⟩ = some (.slice Axd x1.length cxd) ∧ w'.cell? ⟨gbY, 0, none⟩ = some (.int .i64 y1) ∧ w'.cell? ⟨gbY, 1, none⟩ = some (.int .i64 y2) ∧ w'.cell? ⟨gbY, 2, none⟩ = some (.int .i64 y3) ∧ w'.cell? ⟨gbY, 3, none⟩ = some (.slice Axe x2.length cxe)) (ds := []) (fr_ [0, 17]) (by kernel_rfl) rfl rfl ⟨(blk_cell (g := gbP) (cs := #[.int .i64 a0_0, .int .i64 a0_1, .int .i64 a0_2, .slice A0_3 l0_3.length c0_3]) (t := 24) (blk_to BKP) 0).trans rfl, (blk_cell (g := gbP) (cs := #[.int .i64 a0_0, .int .i64 a0_1, .int .i64 a0_2, .slice A0_3 l0_3.length c0_3]) (t := 24) (blk_to BKP) 1).trans rfl, (blk_cell (g := gbP) (cs := #[.int .i64 a0_0, .int .i64 a0_1, .int .i64 a0_2, .slice A0_3 l0_3.length c0_3]) (t := 24) (blk_to BKP) 2).trans rfl, (blk_cell (g := gbP) (cs := #[.int .i64 a0_0, .int .i64 a0_1, .int .i64 a0_2, .slice A0_3 l0_3.length c0_3]) (t := 24) (blk_to BKP) 3).trans rfl, (blk_cell (g := gbQ) (cs := #[.int .i64 a2_0, .int .i64 a2_1, .int .i64 a2_2, .slice A2_3 l2_3.length c2_3]) (t := 24) (blk_to BKQ) 0).trans rfl, (blk_cell (g := gbQ) (cs := #[.int .i64 a2_0, .int .i64 a2_1, .int .i64 a2_2, .slice A2_3 l2_3.length c2_3]) (t := 24) (blk_to BKQ) 1).trans rfl, (blk_cell (g := gbQ) (cs := #[.int .i64 a2_0, .int .i64 a2_1, .int .i64 a2_2, .slice A2_3 l2_3.length c2_3]) (t := 24) (blk_to BKQ) 2).trans rfl, (blk_cell (g := gbQ) (cs := #[.int .i64 a2_0, .int .i64 a2_1, .int .i64 a2_2, .slice A2_3 l2_3.length c2_3]) (t := 24) (blk_to BKQ) 3).trans rfl, (blk_cell (g := gbX) (cs := #[.int .i64 u1, .int .i64 u2, .int .i64 u3, .slice Axd x1.length cxd]) (t := 30) (blk_to BKX) 0).trans rfl, (blk_cell (g := gbX) (cs := #[.int .i64 u1, .int .i64 u2, .int .i64 u3, .slice Axd x1.length cxd]) (t := 30) (blk_to BKX) 1).trans rfl, (blk_cell (g := gbX) (cs := #[.int .i64 u1, .int .i64 u2, .int .i64 u3, .slice Axd x1.length cxd]) (t := 30) (blk_to BKX) 2).trans rfl, (blk_cell (g := gbX) (cs := #[.int .i64 u1, .int .i64 u2, .int .i64 u3, .slice Axd x1.length cxd]) (t := 30) (blk_to BKX) 3).trans rfl, (blk_cell (g := gbY) (cs := #[.int .i64 y1, .int .i64 y2, .int .i64 y3, .slice Axe x2.length cxe]) (t := 30) (blk_to BKY) 0).trans rfl, (blk_cell (g := gbY) (cs := #[.int .i64 y1, .int .i64 y2, .int .i64 y3, .slice Axe x2.length cxe]) (t := 30) (blk_to BKY) 1).trans rfl, (blk_cell (g := gbY) (cs := #[.int .i64 y1, .int .i64 y2, .int .i64 y3, .slice Axe x2.length cxe]) (t := 30) (blk_to BKY) 2).trans rfl, (blk_cell (g := gbY) (cs := #[.int .i64 y1, .int .i64 y2, .int .i64 y3, .slice Axe x2.length cxe]) (t := 30) (blk_to BKY) 3).trans rfl⟩ (fun hHeld => ?_); refine with_tabW lw_.tab38 lw_.bits38 (fun HT_ HW_ => ?_)
 refine purS_ (i := 2) (N := some 145) (fr_ [0, 2, 1, 14]) HT_.out ?_
 refine purS_ (i := 5) (N := some 148) (fr_ [0, 2, 1, 2, 1, 11]) HT_.out ?_
 refine purS_ (i := 6) (N := some 149) (fr_ [0, 2, 1, 2, 2, 10]) HT_.out ?_
 refine purS_ (i := 8) (N := some 151) (fr_ [0, 2, 1, 2, 2, 1, 1, 8]) HT_.out ?_
 refine take_ (i := 0) (N := some 143) (v := ?_) (a' := ?_) (fr_ [1, 1, 1, 2, 2, 1, 1, 8]) rfl rfl (take_ofW HT_.out HW_.out (by kernel_rfl)) (fun _ _ _ h => h) (Or.inl ⟨by rfl, ?_⟩) hHeld ?_ ?_
 rotate_left
 ·rintro w' ⟨s0, s1, s2, s3, s4, s5, s6, s7, s8, s9, s10, s11, s12, s13, s14, s15⟩
  go_simp
  with_reducible rfl
 rotate_left
 ·simp only [Act.put, List.setIfInBounds_toArray, List.set_cons_zero, List.set_cons_succ, i64_w, i32_w]
  rfl
 refine take_ (i := 3) (N := some 146) (v := ?_) (a' := ?_) (fr_ [1, 1, 2, 1, 2, 1, 1, 8]) rfl rfl (take_ofW HT_.out HW_.out (by kernel_rfl)) (fun _ _ _ h => h) (Or.inl ⟨by rfl, ?_⟩) hHeld ?_ ?_
 rotate_left
 ·rintro w' ⟨s0, s1, s2, s3, s4, s5, s6, s7, s8, s9, s10, s11, s12, s13, s14, s15⟩
  go_simp
  with_reducible rfl
 rotate_left
 ·simp only [Act.put, List.setIfInBounds_toArray, List.set_cons_zero, List.set_cons_succ, i64_w, i32_w]
  rfl
 refine one_ (i := 1) (N := some 144) (fr_ [4, 1, 2, 1, 1, 8]) rfl rfl (one_of HT_.out (by kernel_rfl)) (by decide) (fun K hK => ?_)
 refine goes_ Try.func8 (by kernel_rfl) rfl #[.agg #[.int .i64 a0_0, .int .i64 a0_1, .int .i64 a0_2, .slice A0_3 l0_3.length c0_3]] (by rfl) rfl rfl am_ ?_
 (with_reducible refine (laws_toLine.calls k a0_0 a0_1 a0_2 _ _ l0_3 u1 u2 u3 x1 _ ?side1 ?side2 F4.out).mono ?_)
 (case side1 => exact cb_ HR0_3 HB)
 (case side2 => exact HC0_3.out)
 rintro e W26_ ⟨v26, rfl, ho0, hb⟩
 refine ⟨_, rfl, ?_⟩
 have hup := Go.Proofs.Ythdnodmidbcgpaa.XWalk.upB (wp := W25_) hb (by repeat (first | (with_reducible first | exact Below.refl _ _ | apply below_alloc | apply pw_below_drewN | apply below_drew1) | exact Below.refl _ _))
 obtain ⟨Axk, cxk, rfl⟩ := Kd.R_slice ho0
 obtain ⟨nxk, mxk, en_, em_, hs_⟩ := Go.Proofs.Ythdnodmidbcgpaa.XWalk.bornR (w := w) hb ho0 (below_size (below_to HB))
 have ord_P_k := Aside0.mk (show (gbP + 1) ≤ nxk from by rw [en_]; exact Nat.le_trans hz_P.out hup.1)
 have ord_Q_k := Aside0.mk (show (gbQ + 1) ≤ nxk from by rw [en_]; exact Nat.le_trans hz_Q.out hup.1)
 have ord_w_k := Aside0.mk (show mxw ≤ nxk from by rw [en_]; exact Nat.le_trans hz_w.out hup.1)
 have ord_X_k := Aside0.mk (show (gbX + 1) ≤ nxk from by rw [en_]; exact Nat.le_trans hz_X.out hup.1)
 have ord_Y_k := Aside0.mk (show (gbY + 1) ≤ nxk from by rw [en_]; exact Nat.le_trans hz_Y.out hup.1)
 have ord_g_k := Aside0.mk (show mxg ≤ nxk from by rw [en_]; exact Nat.le_trans hz_g.out hup.1)
 have hz_k := Aside0.mk (show mxk ≤ W26_.heap.size from by rw [em_]; exact Nat.le_refl _)
 have HOxk := Aside0.mk hs_
 clear en_ em_ hs_ ho0
 have n0_ := Aside0.mk (blk_below (blk_to BKP) hb)
 have n1_ := Aside0.mk (Nat.le_trans hz_P.out (Nat.le_trans hup.1 hup.2))
 have n2_ := Aside0.mk (blk_below (blk_to BKQ) hb)
 have n3_ := Aside0.mk (Nat.le_trans hz_Q.out (Nat.le_trans hup.1 hup.2))
 have n4_ := Aside0.mk (Kd.R_below (kd_to HOxw) hb)
 have n5_ := Aside0.mk (Nat.le_trans hz_w.out (Nat.le_trans hup.1 hup.2))
 have n6_ := Aside0.mk (blk_below (blk_to BKX) hb)
 have n7_ := Aside0.mk (Nat.le_trans hz_X.out (Nat.le_trans hup.1 hup.2))
 have n8_ := Aside0.mk (blk_below (blk_to BKY) hb)
 have n9_ := Aside0.mk (Nat.le_trans hz_Y.out (Nat.le_trans hup.1 hup.2))
 have n10_ := Aside0.mk (Kd.R_below (kd_to HOxg) hb)
 have n11_ := Aside0.mk (Nat.le_trans hz_g.out (Nat.le_trans hup.1 hup.2))
 have nb_ := Aside0.mk (below_step (below_to HB) hb)
 clear BKP hz_P BKQ hz_Q HOxw hz_w BKX hz_X BKY hz_Y HOxg hz_g HB
 have BKP := n0_
 have hz_P := n1_
 have BKQ := n2_
 have hz_Q := n3_
 have HOxw := n4_
 have hz_w := n5_
 have BKX := n6_
 have hz_X := n7_
 have BKY := n8_
 have hz_Y := n9_
 have HOxg := n10_
 have hz_g := n11_
 have HB := nb_
 clear n0_ n1_ n2_ n3_ n4_ n5_ n6_ n7_ n8_ n9_ n10_ n11_ nb_
 clear hb hup
 (try clear hczP_0 hczP_1 hczP_2 hczP_3 hfzP_0 hfzP_1 hfzP_2 hfzP_3)
 have hczP_0 : W26_.cell? ⟨gbP, 0, none⟩ = some (.int .i64 a0_0) := (blk_cell BKP.out 0).trans rfl
 have hczP_1 : W26_.cell? ⟨gbP, 1, none⟩ = some (.int .i64 a0_1) := (blk_cell BKP.out 1).trans rfl
 have hczP_2 : W26_.cell? ⟨gbP, 2, none⟩ = some (.int .i64 a0_2) := (blk_cell BKP.out 2).trans rfl
 have hczP_3 : W26_.cell? ⟨gbP, 3, none⟩ = some (.slice A0_3 l0_3.length c0_3) := (blk_cell BKP.out 3).trans rfl
 have hfzP_0 := blk_frozen BKP.out 0
 have hfzP_1 := blk_frozen BKP.out 1
 have hfzP_2 := blk_frozen BKP.out 2
 have hfzP_3 := blk_frozen BKP.out 3
 (try clear hczQ_0 hczQ_1 hczQ_2 hczQ_3 hfzQ_0 hfzQ_1 hfzQ_2 hfzQ_3)
 have hczQ_0 : W26_.cell? ⟨gbQ, 0, none⟩ = some (.int .i64 a2_0) := (blk_cell BKQ.out 0).trans rfl
 have hczQ_1 : W26_.cell? ⟨gbQ, 1, none⟩ = some (.int .i64 a2_1) := (blk_cell BKQ.out 1).trans rfl
 have hczQ_2 : W26_.cell? ⟨gbQ, 2, none⟩ = some (.int .i64 a2_2) := (blk_cell BKQ.out 2).trans rfl
 have hczQ_3 : W26_.cell? ⟨gbQ, 3, none⟩ = some (.slice A2_3 l2_3.length c2_3) := (blk_cell BKQ.out 3).trans rfl
 have hfzQ_0 := blk_frozen BKQ.out 0
 have hfzQ_1 := blk_frozen BKQ.out 1
 have hfzQ_2 := blk_frozen BKQ.out 2
 have hfzQ_3 := blk_frozen BKQ.out 3
 (try clear hczX_0 hczX_1 hczX_2 hczX_3 hfzX_0 hfzX_1 hfzX_2 hfzX_3)
 have hczX_0 : W26_.cell? ⟨gbX, 0, none⟩ = some (.int .i64 u1) := (blk_cell BKX.out 0).trans rfl
 have hczX_1 : W26_.cell? ⟨gbX, 1, none⟩ = some (.int .i64 u2) := (blk_cell BKX.out 1).trans rfl
 have hczX_2 : W26_.cell? ⟨gbX, 2, none⟩ = some (.int .i64 u3) := (blk_cell BKX.out 2).trans rfl
 have hczX_3 : W26_.cell? ⟨gbX, 3, none⟩ = some (.slice Axd x1.length cxd) := (blk_cell BKX.out 3).trans rfl
 have hfzX_0 := blk_frozen BKX.out 0
 have hfzX_1 := blk_frozen BKX.out 1
 have hfzX_2 := blk_frozen BKX.out 2
 have hfzX_3 := blk_frozen BKX.out 3
 (try clear hczY_0 hczY_1 hczY_2 hczY_3 hfzY_0 hfzY_1 hfzY_2 hfzY_3)
 have hczY_0 : W26_.cell? ⟨gbY, 0, none⟩ = some (.int .i64 y1) := (blk_cell BKY.out 0).trans rfl
 have hczY_1 : W26_.cell? ⟨gbY, 1, none⟩ = some (.int .i64 y2) := (blk_cell BKY.out 1).trans rfl
 have hczY_2 : W26_.cell? ⟨gbY, 2, none⟩ = some (.int .i64 y3) := (blk_cell BKY.out 2).trans rfl
 have hczY_3 : W26_.cell? ⟨gbY, 3, none⟩ = some (.slice Axe x2.length cxe) := (blk_cell BKY.out 3).trans rfl
 have hfzY_0 := blk_frozen BKY.out 0
 have hfzY_1 := blk_frozen BKY.out 1
 have hfzY_2 := blk_frozen BKY.out 2
 have hfzY_3 := blk_frozen BKY.out 3
 refine hK.out _ _ ⟨(blk_cell BKP.out 0).trans rfl, (blk_cell BKP.out 1).trans rfl, (blk_cell BKP.out 2).trans rfl, (blk_cell BKP.out 3).trans rfl, (blk_cell BKQ.out 0).trans rfl, (blk_cell BKQ.out 1).trans rfl, (blk_cell BKQ.out 2).trans rfl, (blk_cell BKQ.out 3).trans rfl, (blk_cell BKX.out 0).trans rfl, (blk_cell BKX.out 1).trans rfl, (blk_cell BKX.out 2).trans rfl, (blk_cell BKX.out 3).trans rfl, (blk_cell BKY.out 0).trans rfl, (blk_cell BKY.out 1).trans rfl, (blk_cell BKY.out 2).trans rfl, (blk_cell BKY.out 3).trans rfl⟩ (fun hHeld => ?_)
 clear hK K
 refine norm_ (a' := ?_) ?_ ?_
 rotate_left
 ·show Act.put _ (some 144) _ = _
  simp only [Act.put, List.setIfInBounds_toArray, List.set_cons_zero, List.set_cons_succ, i64_w, i32_w]
  rfl
 refine one_ (i := 4) (N := some 147) (fr_ [7, 1, 1, 8]) rfl rfl (one_of HT_.out (by kernel_rfl)) (by decide) (fun K hK => ?_)
 refine goes_ Try.func8 (by kernel_rfl) rfl #[.agg #[.int .i64 a2_0, .int .i64 a2_1, .int .i64 a2_2, .slice A2_3 l2_3.length c2_3]] (by rfl) rfl rfl am_ ?_
 (with_reducible refine (laws_toLine.calls k a2_0 a2_1 a2_2 _ _ l2_3 y1 y2 y3 x2 _ ?side1 ?side2 F5.out).mono ?_)
 (case side1 => exact cb_ HR2_3 HB)
 (case side2 => exact HC2_3.out)
 rintro e W27_ ⟨v27, rfl, ho0, hb⟩
 refine ⟨_, rfl, ?_⟩
 have hup := Go.Proofs.Ythdnodmidbcgpaa.XWalk.upB (wp := W26_) hb (by repeat (first | (with_reducible first | exact Below.refl _ _ | apply below_alloc | apply pw_below_drewN | apply below_drew1) | exact Below.refl _ _))
 obtain ⟨Axl, cxl, rfl⟩ := Kd.R_slice ho0
 obtain ⟨nxl, mxl, en_, em_, hs_⟩ := Go.Proofs.Ythdnodmidbcgpaa.XWalk.bornR (w := w) hb ho0 (below_size (below_to HB))
 have ord_P_l := Aside0.mk (show (gbP + 1) ≤ nxl from by rw [en_]; exact Nat.le_trans hz_P.out hup.1)
 have ord_Q_l := Aside0.mk (show (gbQ + 1) ≤ nxl from by rw [en_]; exact Nat.le_trans hz_Q.out hup.1)
 have ord_w_l := Aside0.mk (show mxw ≤ nxl from by rw [en_]; exact Nat.le_trans hz_w.out hup.1)
 have ord_X_l := Aside0.mk (show (gbX + 1) ≤ nxl from by rw [en_]; exact Nat.le_trans hz_X.out hup.1)
 have ord_Y_l := Aside0.mk (show (gbY + 1) ≤ nxl from by rw [en_]; exact Nat.le_trans hz_Y.out hup.1)
 have ord_g_l := Aside0.mk (show mxg ≤ nxl from by rw [en_]; exact Nat.le_trans hz_g.out hup.1)
 have ord_k_l := Aside0.mk (show mxk ≤ nxl from by rw [en_]; exact Nat.le_trans hz_k.out hup.1)
 have hz_l := Aside0.mk (show mxl ≤ W27_.heap.size from by rw [em_]; exact Nat.le_refl _)
 have HOxl := Aside0.mk hs_
 clear en_ em_ hs_ ho0
 have n0_ := Aside0.mk (blk_below (blk_to BKP) hb)
 have n1_ := Aside0.mk (Nat.le_trans hz_P.out (Nat.le_trans hup.1 hup.2))
 have n2_ := Aside0.mk (blk_below (blk_to BKQ) hb)
 have n3_ := Aside0.mk (Nat.le_trans hz_Q.out (Nat.le_trans hup.1 hup.2))
 have n4_ := Aside0.mk (Kd.R_below (kd_to HOxw) hb)
 have n5_ := Aside0.mk (Nat.le_trans hz_w.out (Nat.le_trans hup.1 hup.2))
 have n6_ := Aside0.mk (blk_below (blk_to BKX) hb)
 have n7_ := Aside0.mk (Nat.le_trans hz_X.out (Nat.le_trans hup.1 hup.2))
 have n8_ := Aside0.mk (blk_below (blk_to BKY) hb)
 have n9_ := Aside0.mk (Nat.le_trans hz_Y.out (Nat.le_trans hup.1 hup.2))
 have n10_ := Aside0.mk (Kd.R_below (kd_to HOxg) hb)
 have n11_ := Aside0.mk (Nat.le_trans hz_g.out (Nat.le_trans hup.1 hup.2))
 have n12_ := Aside0.mk (Kd.R_below (kd_to HOxk) hb)
 have n13_ := Aside0.mk (Nat.le_trans hz_k.out (Nat.le_trans hup.1 hup.2))
 have nb_ := Aside0.mk (below_step (below_to HB) hb)
 clear BKP hz_P BKQ hz_Q HOxw hz_w BKX hz_X BKY hz_Y HOxg hz_g HOxk hz_k HB
 have BKP := n0_
 have hz_P := n1_
 have BKQ := n2_
 have hz_Q := n3_
 have HOxw := n4_
 have hz_w := n5_
 have BKX := n6_
 have hz_X := n7_
 have BKY := n8_
 have hz_Y := n9_
 have HOxg := n10_
 have hz_g := n11_
 have HOxk := n12_
 have hz_k := n13_
 have HB := nb_
 clear n0_ n1_ n2_ n3_ n4_ n5_ n6_ n7_ n8_ n9_ n10_ n11_ n12_ n13_ nb_
 clear hb hup
 (try clear hczP_0 hczP_1 hczP_2 hczP_3 hfzP_0 hfzP_1 hfzP_2 hfzP_3)
 have hczP_0 : W27_.cell? ⟨gbP, 0, none⟩ = some (.int .i64 a0_0) := (blk_cell BKP.out 0).trans rfl
 have hczP_1 : W27_.cell? ⟨gbP, 1, none⟩ = some (.int .i64 a0_1) := (blk_cell BKP.out 1).trans rfl
 have hczP_2 : W27_.cell? ⟨gbP, 2, none⟩ = some (.int .i64 a0_2) := (blk_cell BKP.out 2).trans rfl
 have hczP_3 : W27_.cell? ⟨gbP, 3, none⟩ = some (.slice A0_3 l0_3.length c0_3) := (blk_cell BKP.out 3).trans rfl
 have hfzP_0 := blk_frozen BKP.out 0
 have hfzP_1 := blk_frozen BKP.out 1
 have hfzP_2 := blk_frozen BKP.out 2
 have hfzP_3 := blk_frozen BKP.out 3
 (try clear hczQ_0 hczQ_1 hczQ_2 hczQ_3 hfzQ_0 hfzQ_1 hfzQ_2 hfzQ_3)
 have hczQ_0 : W27_.cell? ⟨gbQ, 0, none⟩ = some (.int .i64 a2_0) := (blk_cell BKQ.out 0).trans rfl
 have hczQ_1 : W27_.cell? ⟨gbQ, 1, none⟩ = some (.int .i64 a2_1) := (blk_cell BKQ.out 1).trans rfl
 have hczQ_2 : W27_.cell? ⟨gbQ, 2, none⟩ = some (.int .i64 a2_2) := (blk_cell BKQ.out 2).trans rfl
 have hczQ_3 : W27_.cell? ⟨gbQ, 3, none⟩ = some (.slice A2_3 l2_3.length c2_3) := (blk_cell BKQ.out 3).trans rfl
 have hfzQ_0 := blk_frozen BKQ.out 0
 have hfzQ_1 := blk_frozen BKQ.out 1
 have hfzQ_2 := blk_frozen BKQ.out 2
 have hfzQ_3 := blk_frozen BKQ.out 3
 (try clear hczX_0 hczX_1 hczX_2 hczX_3 hfzX_0 hfzX_1 hfzX_2 hfzX_3)
 have hczX_0 : W27_.cell? ⟨gbX, 0, none⟩ = some (.int .i64 u1) := (blk_cell BKX.out 0).trans rfl
 have hczX_1 : W27_.cell? ⟨gbX, 1, none⟩ = some (.int .i64 u2) := (blk_cell BKX.out 1).trans rfl
 have hczX_2 : W27_.cell? ⟨gbX, 2, none⟩ = some (.int .i64 u3) := (blk_cell BKX.out 2).trans rfl
 have hczX_3 : W27_.cell? ⟨gbX, 3, none⟩ = some (.slice Axd x1.length cxd) := (blk_cell BKX.out 3).trans rfl
 have hfzX_0 := blk_frozen BKX.out 0
 have hfzX_1 := blk_frozen BKX.out 1
 have hfzX_2 := blk_frozen BKX.out 2
 have hfzX_3 := blk_frozen BKX.out 3
 (try clear hczY_0 hczY_1 hczY_2 hczY_3 hfzY_0 hfzY_1 hfzY_2 hfzY_3)
 have hczY_0 : W27_.cell? ⟨gbY, 0, none⟩ = some (.int .i64 y1) := (blk_cell BKY.out 0).trans rfl
 have hczY_1 : W27_.cell? ⟨gbY, 1, none⟩ = some (.int .i64 y2) := (blk_cell BKY.out 1).trans rfl
 have hczY_2 : W27_.cell? ⟨gbY, 2, none⟩ = some (.int .i64 y3) := (blk_cell BKY.out 2).trans rfl
 have hczY_3 : W27_.cell? ⟨gbY, 3, none⟩ = some (.slice Axe x2.length cxe) := (blk_cell BKY.out 3).trans rfl
 have hfzY_0 := blk_frozen BKY.out 0
 have hfzY_1 := blk_frozen BKY.out 1
 have hfzY_2 := blk_frozen BKY.out 2
 have hfzY_3 := blk_frozen BKY.out 3
 refine hK.out _ _ ⟨(blk_cell BKP.out 0).trans rfl, (blk_cell BKP.out 1).trans rfl, (blk_cell BKP.out 2).trans rfl, (blk_cell BKP.out 3).trans rfl, (blk_cell BKQ.out 0).trans rfl, (blk_cell BKQ.out 1).trans rfl, (blk_cell BKQ.out 2).trans rfl, (blk_cell BKQ.out 3).trans rfl, (blk_cell BKX.out 0).trans rfl, (blk_cell BKX.out 1).trans rfl, (blk_cell BKX.out 2).trans rfl, (blk_cell BKX.out 3).trans rfl, (blk_cell BKY.out 0).trans rfl, (blk_cell BKY.out 1).trans rfl, (blk_cell BKY.out 2).trans rfl, (blk_cell BKY.out 3).trans rfl⟩ (fun hHeld => ?_)
 clear hK K
 refine norm_ (a' := ?_) ?_ ?_
 rotate_left
 ·show Act.put _ (some 147) _ = _
  simp only [Act.put, List.setIfInBounds_toArray, List.set_cons_zero, List.set_cons_succ, i64_w, i32_w]
  rfl
 refine one_ (i := 7) (N := some 150) (fr_ [9, 8]) rfl rfl (one_of HT_.out (by kernel_rfl)) (by decide) (fun K hK => ?_)
 refine goes_ Try.func9 (by kernel_rfl) rfl #[.slice A4 l4.length c4] (by rfl) rfl rfl am_ ?_
 (with_reducible refine (laws_toIntSS.calls k _ _ l4 x3 _ ?side1 ?side2 F6.out).mono ?_)
 (case side1 => exact cb_ HR4 HB)
 (case side2 => exact HC4.out)
 rintro e W28_ ⟨v28, rfl, ho0, hb⟩
 refine ⟨_, rfl, ?_⟩
 have hup := Go.Proofs.Ythdnodmidbcgpaa.XWalk.upB (wp := W27_) hb (by repeat (first | (with_reducible first | exact Below.refl _ _ | apply below_alloc | apply pw_below_drewN | apply below_drew1) | exact Below.refl _ _))
 obtain ⟨Axm, cxm, rfl⟩ := Kd.S_slice ho0
 obtain ⟨nxm, mxm, en_, em_, hs_⟩ := Go.Proofs.Ythdnodmidbcgpaa.XWalk.bornS (w := w) hb ho0 (below_size (below_to HB))
 have ord_P_m := Aside0.mk (show (gbP + 1) ≤ nxm from by rw [en_]; exact Nat.le_trans hz_P.out hup.1)
 have ord_Q_m := Aside0.mk (show (gbQ + 1) ≤ nxm from by rw [en_]; exact Nat.le_trans hz_Q.out hup.1)
 have ord_w_m := Aside0.mk (show mxw ≤ nxm from by rw [en_]; exact Nat.le_trans hz_w.out hup.1)
 have ord_X_m := Aside0.mk (show (gbX + 1) ≤ nxm from by rw [en_]; exact Nat.le_trans hz_X.out hup.1)
 have ord_Y_m := Aside0.mk (show (gbY + 1) ≤ nxm from by rw [en_]; exact Nat.le_trans hz_Y.out hup.1)
 have ord_g_m := Aside0.mk (show mxg ≤ nxm from by rw [en_]; exact Nat.le_trans hz_g.out hup.1)
 have ord_k_m := Aside0.mk (show mxk ≤ nxm from by rw [en_]; exact Nat.le_trans hz_k.out hup.1)
 have ord_l_m := Aside0.mk (show mxl ≤ nxm from by rw [en_]; exact Nat.le_trans hz_l.out hup.1)
 have hz_m := Aside0.mk (show mxm ≤ W28_.heap.size from by rw [em_]; exact Nat.le_refl _)
 have HOxm := Aside0.mk hs_
 clear en_ em_ hs_ ho0
 have n0_ := Aside0.mk (blk_below (blk_to BKP) hb)
 have n1_ := Aside0.mk (Nat.le_trans hz_P.out (Nat.le_trans hup.1 hup.2))
 have n2_ := Aside0.mk (blk_below (blk_to BKQ) hb)
 have n3_ := Aside0.mk (Nat.le_trans hz_Q.out (Nat.le_trans hup.1 hup.2))
 have n4_ := Aside0.mk (Kd.R_below (kd_to HOxw) hb)
 have n5_ := Aside0.mk (Nat.le_trans hz_w.out (Nat.le_trans hup.1 hup.2))
 have n6_ := Aside0.mk (blk_below (blk_to BKX) hb)
 have n7_ := Aside0.mk (Nat.le_trans hz_X.out (Nat.le_trans hup.1 hup.2))
 have n8_ := Aside0.mk (blk_below (blk_to BKY) hb)
 have n9_ := Aside0.mk (Nat.le_trans hz_Y.out (Nat.le_trans hup.1 hup.2))
 have n10_ := Aside0.mk (Kd.R_below (kd_to HOxg) hb)
 have n11_ := Aside0.mk (Nat.le_trans hz_g.out (Nat.le_trans hup.1 hup.2))
 have n12_ := Aside0.mk (Kd.R_below (kd_to HOxk) hb)
 have n13_ := Aside0.mk (Nat.le_trans hz_k.out (Nat.le_trans hup.1 hup.2))
 have n14_ := Aside0.mk (Kd.R_below (kd_to HOxl) hb)
 have n15_ := Aside0.mk (Nat.le_trans hz_l.out (Nat.le_trans hup.1 hup.2))
 have nb_ := Aside0.mk (below_step (below_to HB) hb)
 clear BKP hz_P BKQ hz_Q HOxw hz_w BKX hz_X BKY hz_Y HOxg hz_g HOxk hz_k HOxl hz_l HB
 have BKP := n0_
 have hz_P := n1_
 have BKQ := n2_
 have hz_Q := n3_
 have HOxw := n4_
 have hz_w := n5_
 have BKX := n6_
 have hz_X := n7_
 have BKY := n8_
 have hz_Y := n9_
 have HOxg := n10_
 have hz_g := n11_
 have HOxk := n12_
 have hz_k := n13_
 have HOxl := n14_
 have hz_l := n15_
 have HB := nb_
 clear n0_ n1_ n2_ n3_ n4_ n5_ n6_ n7_ n8_ n9_ n10_ n11_ n12_ n13_ n14_ n15_ nb_
 clear hb hup
 (try clear hczP_0 hczP_1 hczP_2 hczP_3 hfzP_0 hfzP_1 hfzP_2 hfzP_3)
 have hczP_0 : W28_.cell? ⟨gbP, 0, none⟩ = some (.int .i64 a0_0) := (blk_cell BKP.out 0).trans rfl
 have hczP_1 : W28_.cell? ⟨gbP, 1, none⟩ = some (.int .i64 a0_1) := (blk_cell BKP.out 1).trans rfl
 have hczP_2 : W28_.cell? ⟨gbP, 2, none⟩ = some (.int .i64 a0_2) := (blk_cell BKP.out 2).trans rfl
 have hczP_3 : W28_.cell? ⟨gbP, 3, none⟩ = some (.slice A0_3 l0_3.length c0_3) := (blk_cell BKP.out 3).trans rfl
 have hfzP_0 := blk_frozen BKP.out 0
 have hfzP_1 := blk_frozen BKP.out 1
 have hfzP_2 := blk_frozen BKP.out 2
 have hfzP_3 := blk_frozen BKP.out 3
 (try clear hczQ_0 hczQ_1 hczQ_2 hczQ_3 hfzQ_0 hfzQ_1 hfzQ_2 hfzQ_3)
 have hczQ_0 : W28_.cell? ⟨gbQ, 0, none⟩ = some (.int .i64 a2_0) := (blk_cell BKQ.out 0).trans rfl
 have hczQ_1 : W28_.cell? ⟨gbQ, 1, none⟩ = some (.int .i64 a2_1) := (blk_cell BKQ.out 1).trans rfl
 have hczQ_2 : W28_.cell? ⟨gbQ, 2, none⟩ = some (.int .i64 a2_2) := (blk_cell BKQ.out 2).trans rfl
 have hczQ_3 : W28_.cell? ⟨gbQ, 3, none⟩ = some (.slice A2_3 l2_3.length c2_3) := (blk_cell BKQ.out 3).trans rfl
 have hfzQ_0 := blk_frozen BKQ.out 0
 have hfzQ_1 := blk_frozen BKQ.out 1
 have hfzQ_2 := blk_frozen BKQ.out 2
 have hfzQ_3 := blk_frozen BKQ.out 3
 (try clear hczX_0 hczX_1 hczX_2 hczX_3 hfzX_0 hfzX_1 hfzX_2 hfzX_3)
 have hczX_0 : W28_.cell? ⟨gbX, 0, none⟩ = some (.int .i64 u1) := (blk_cell BKX.out 0).trans rfl
 have hczX_1 : W28_.cell? ⟨gbX, 1, none⟩ = some (.int .i64 u2) := (blk_cell BKX.out 1).trans rfl
 have hczX_2 : W28_.cell? ⟨gbX, 2, none⟩ = some (.int .i64 u3) := (blk_cell BKX.out 2).trans rfl
 have hczX_3 : W28_.cell? ⟨gbX, 3, none⟩ = some (.slice Axd x1.length cxd) := (blk_cell BKX.out 3).trans rfl
 have hfzX_0 := blk_frozen BKX.out 0
 have hfzX_1 := blk_frozen BKX.out 1
 have hfzX_2 := blk_frozen BKX.out 2
 have hfzX_3 := blk_frozen BKX.out 3
 (try clear hczY_0 hczY_1 hczY_2 hczY_3 hfzY_0 hfzY_1 hfzY_2 hfzY_3)
 have hczY_0 : W28_.cell? ⟨gbY, 0, none⟩ = some (.int .i64 y1) := (blk_cell BKY.out 0).trans rfl
 have hczY_1 : W28_.cell? ⟨gbY, 1, none⟩ = some (.int .i64 y2) := (blk_cell BKY.out 1).trans rfl
 have hczY_2 : W28_.cell? ⟨gbY, 2, none⟩ = some (.int .i64 y3) := (blk_cell BKY.out 2).trans rfl
 have hczY_3 : W28_.cell? ⟨gbY, 3, none⟩ = some (.slice Axe x2.length cxe) := (blk_cell BKY.out 3).trans rfl
 have hfzY_0 := blk_frozen BKY.out 0
 have hfzY_1 := blk_frozen BKY.out 1
 have hfzY_2 := blk_frozen BKY.out 2
 have hfzY_3 := blk_frozen BKY.out 3
 refine hK.out _ _ ⟨(blk_cell BKP.out 0).trans rfl, (blk_cell BKP.out 1).trans rfl, (blk_cell BKP.out 2).trans rfl, (blk_cell BKP.out 3).trans rfl, (blk_cell BKQ.out 0).trans rfl, (blk_cell BKQ.out 1).trans rfl, (blk_cell BKQ.out 2).trans rfl, (blk_cell BKQ.out 3).trans rfl, (blk_cell BKX.out 0).trans rfl, (blk_cell BKX.out 1).trans rfl, (blk_cell BKX.out 2).trans rfl, (blk_cell BKX.out 3).trans rfl, (blk_cell BKY.out 0).trans rfl, (blk_cell BKY.out 1).trans rfl, (blk_cell BKY.out 2).trans rfl, (blk_cell BKY.out 3).trans rfl⟩ (fun hHeld => ?_)
 clear hK K
 refine norm_ (a' := ?_) ?_ ?_
 rotate_left
 ·show Act.put _ (some 150) _ = _
  simp only [Act.put, List.setIfInBounds_toArray, List.set_cons_zero, List.set_cons_succ, i64_w, i32_w]
  rfl
 refine one_ (i := 9) (N := some 152) (fr_ [10, 7]) rfl rfl (one_of HT_.out (by kernel_rfl)) (by decide) (fun K hK => ?_)
 refine goes_ Try.func10 (by kernel_rfl) rfl #[.agg #[.int .i64 u1, .int .i64 u2, .int .i64 u3, .slice Axk x1.length cxk], .int .i64 a1, .agg #[.int .i64 y1, .int .i64 y2, .int .i64 y3, .slice Axl x2.length cxl], .int .i64 a3, .slice Axm x3.length cxm, .int .i64 a5] (by rfl) rfl rfl am_ ?_
 (with_reducible refine (impl_BestChange.calls k u1 u2 u3 _ _ x1 a1 y1 y2 y3 _ _ x2 a3 (fun k_ => nxm ≤ k_ ∧ k_ < mxm) _ _ x3 a5 w1 q1 q2 _ ?side1 ?side2 ?side3 ?side4 ?side5 F8.out).mono ?_)
 (case side1 => exact cR_ HOxk)
 (case side2 => exact (Kd.R_reads' HOxk.out).2.1)
 (case side3 => exact cR_ HOxl)
 (case side4 => exact (Kd.R_reads' HOxl.out).2.1)
 (case side5 => exact Kd.S_V (sd_to HOxm))
 rintro e W29_ ⟨v29, rfl, ho0, hb⟩
 refine ⟨_, rfl, ?_⟩
 have hup := Go.Proofs.Ythdnodmidbcgpaa.XWalk.upB (wp := W28_) hb (by repeat (first | (with_reducible first | exact Below.refl _ _ | apply below_alloc | apply pw_below_drewN | apply below_drew1) | exact Below.refl _ _))
 replace ho0 := Kd.R_mono (ok' := fun _ => True) ho0 (fun _ _ => True.intro)
 obtain ⟨Axn, cxn, rfl⟩ := Kd.R_slice ho0
 obtain ⟨nxn, mxn, en_, em_, hs_⟩ := Go.Proofs.Ythdnodmidbcgpaa.XWalk.bornR (w := w) hb ho0 (below_size (below_to HB))
 have ord_P_n := Aside0.mk (show (gbP + 1) ≤ nxn from by rw [en_]; exact Nat.le_trans hz_P.out hup.1)
 have ord_Q_n := Aside0.mk (show (gbQ + 1) ≤ nxn from by rw [en_]; exact Nat.le_trans hz_Q.out hup.1)
 have ord_w_n := Aside0.mk (show mxw ≤ nxn from by rw [en_]; exact Nat.le_trans hz_w.out hup.1)
 have ord_X_n := Aside0.mk (show (gbX + 1) ≤ nxn from by rw [en_]; exact Nat.le_trans hz_X.out hup.1)
 have ord_Y_n := Aside0.mk (show (gbY + 1) ≤ nxn from by rw [en_]; exact Nat.le_trans hz_Y.out hup.1)
 have ord_g_n := Aside0.mk (show mxg ≤ nxn from by rw [en_]; exact Nat.le_trans hz_g.out hup.1)
 have ord_k_n := Aside0.mk (show mxk ≤ nxn from by rw [en_]; exact Nat.le_trans hz_k.out hup.1)
 have ord_l_n := Aside0.mk (show mxl ≤ nxn from by rw [en_]; exact Nat.le_trans hz_l.out hup.1)
 have ord_m_n := Aside0.mk (show mxm ≤ nxn from by rw [en_]; exact Nat.le_trans hz_m.out hup.1)
 have hz_n := Aside0.mk (show mxn ≤ W29_.heap.size from by rw [em_]; exact Nat.le_refl _)
 have HOxn := Aside0.mk hs_
 clear en_ em_ hs_ ho0
 have n0_ := Aside0.mk (blk_below (blk_to BKP) hb)
 have n1_ := Aside0.mk (Nat.le_trans hz_P.out (Nat.le_trans hup.1 hup.2))
 have n2_ := Aside0.mk (blk_below (blk_to BKQ) hb)
 have n3_ := Aside0.mk (Nat.le_trans hz_Q.out (Nat.le_trans hup.1 hup.2))
 have n4_ := Aside0.mk (Kd.R_below (kd_to HOxw) hb)
 have n5_ := Aside0.mk (Nat.le_trans hz_w.out (Nat.le_trans hup.1 hup.2))
 have n6_ := Aside0.mk (blk_below (blk_to BKX) hb)
 have n7_ := Aside0.mk (Nat.le_trans hz_X.out (Nat.le_trans hup.1 hup.2))
 have n8_ := Aside0.mk (blk_below (blk_to BKY) hb)
 have n9_ := Aside0.mk (Nat.le_trans hz_Y.out (Nat.le_trans hup.1 hup.2))
 have n10_ := Aside0.mk (Kd.R_below (kd_to HOxg) hb)
 have n11_ := Aside0.mk (Nat.le_trans hz_g.out (Nat.le_trans hup.1 hup.2))
 have n12_ := Aside0.mk (Kd.R_below (kd_to HOxk) hb)
 have n13_ := Aside0.mk (Nat.le_trans hz_k.out (Nat.le_trans hup.1 hup.2))
 have n14_ := Aside0.mk (Kd.R_below (kd_to HOxl) hb)
 have n15_ := Aside0.mk (Nat.le_trans hz_l.out (Nat.le_trans hup.1 hup.2))
 have n16_ := Aside0.mk (Kd.S_below (sd_to HOxm) hb)
 have n17_ := Aside0.mk (Nat.le_trans hz_m.out (Nat.le_trans hup.1 hup.2))
 have nb_ := Aside0.mk (below_step (below_to HB) hb)
 clear BKP hz_P BKQ hz_Q HOxw hz_w BKX hz_X BKY hz_Y HOxg hz_g HOxk hz_k HOxl hz_l HOxm hz_m HB
 have BKP := n0_
 have hz_P := n1_
 have BKQ := n2_
 have hz_Q := n3_
 have HOxw := n4_
 have hz_w := n5_
 have BKX := n6_
 have hz_X := n7_
 have BKY := n8_
 have hz_Y := n9_
 have HOxg := n10_
 have hz_g := n11_
 have HOxk := n12_
 have hz_k := n13_
 have HOxl := n14_
 have hz_l := n15_
 have HOxm := n16_
 have hz_m := n17_
 have HB := nb_
 clear n0_ n1_ n2_ n3_ n4_ n5_ n6_ n7_ n8_ n9_ n10_ n11_ n12_ n13_ n14_ n15_ n16_ n17_ nb_
 clear hb hup
 clear HOxk hz_k
 clear HOxl hz_l
 clear HOxm hz_m
 (try clear hczP_0 hczP_1 hczP_2 hczP_3 hfzP_0 hfzP_1 hfzP_2 hfzP_3)
 have hczP_0 : W29_.cell? ⟨gbP, 0, none⟩ = some (.int .i64 a0_0) := (blk_cell BKP.out 0).trans rfl
 have hczP_1 : W29_.cell? ⟨gbP, 1, none⟩ = some (.int .i64 a0_1) := (blk_cell BKP.out 1).trans rfl
 have hczP_2 : W29_.cell? ⟨gbP, 2, none⟩ = some (.int .i64 a0_2) := (blk_cell BKP.out 2).trans rfl
 have hczP_3 : W29_.cell? ⟨gbP, 3, none⟩ = some (.slice A0_3 l0_3.length c0_3) := (blk_cell BKP.out 3).trans rfl
 have hfzP_0 := blk_frozen BKP.out 0
 have hfzP_1 := blk_frozen BKP.out 1
 have hfzP_2 := blk_frozen BKP.out 2
 have hfzP_3 := blk_frozen BKP.out 3
 (try clear hczQ_0 hczQ_1 hczQ_2 hczQ_3 hfzQ_0 hfzQ_1 hfzQ_2 hfzQ_3)
 have hczQ_0 : W29_.cell? ⟨gbQ, 0, none⟩ = some (.int .i64 a2_0) := (blk_cell BKQ.out 0).trans rfl
 have hczQ_1 : W29_.cell? ⟨gbQ, 1, none⟩ = some (.int .i64 a2_1) := (blk_cell BKQ.out 1).trans rfl
 have hczQ_2 : W29_.cell? ⟨gbQ, 2, none⟩ = some (.int .i64 a2_2) := (blk_cell BKQ.out 2).trans rfl
 have hczQ_3 : W29_.cell? ⟨gbQ, 3, none⟩ = some (.slice A2_3 l2_3.length c2_3) := (blk_cell BKQ.out 3).trans rfl
 have hfzQ_0 := blk_frozen BKQ.out 0
 have hfzQ_1 := blk_frozen BKQ.out 1
 have hfzQ_2 := blk_frozen BKQ.out 2
 have hfzQ_3 := blk_frozen BKQ.out 3
 (try clear hczX_0 hczX_1 hczX_2 hczX_3 hfzX_0 hfzX_1 hfzX_2 hfzX_3)
 have hczX_0 : W29_.cell? ⟨gbX, 0, none⟩ = some (.int .i64 u1) := (blk_cell BKX.out 0).trans rfl
 have hczX_1 : W29_.cell? ⟨gbX, 1, none⟩ = some (.int .i64 u2) := (blk_cell BKX.out 1).trans rfl
 have hczX_2 : W29_.cell? ⟨gbX, 2, none⟩ = some (.int .i64 u3) := (blk_cell BKX.out 2).trans rfl
 have hczX_3 : W29_.cell? ⟨gbX, 3, none⟩ = some (.slice Axd x1.length cxd) := (blk_cell BKX.out 3).trans rfl
 have hfzX_0 := blk_frozen BKX.out 0
 have hfzX_1 := blk_frozen BKX.out 1
 have hfzX_2 := blk_frozen BKX.out 2
 have hfzX_3 := blk_frozen BKX.out 3
 (try clear hczY_0 hczY_1 hczY_2 hczY_3 hfzY_0 hfzY_1 hfzY_2 hfzY_3)
 have hczY_0 : W29_.cell? ⟨gbY, 0, none⟩ = some (.int .i64 y1) := (blk_cell BKY.out 0).trans rfl
 have hczY_1 : W29_.cell? ⟨gbY, 1, none⟩ = some (.int .i64 y2) := (blk_cell BKY.out 1).trans rfl
 have hczY_2 : W29_.cell? ⟨gbY, 2, none⟩ = some (.int .i64 y3) := (blk_cell BKY.out 2).trans rfl
 have hczY_3 : W29_.cell? ⟨gbY, 3, none⟩ = some (.slice Axe x2.length cxe) := (blk_cell BKY.out 3).trans rfl
 have hfzY_0 := blk_frozen BKY.out 0
 have hfzY_1 := blk_frozen BKY.out 1
 have hfzY_2 := blk_frozen BKY.out 2
 have hfzY_3 := blk_frozen BKY.out 3
 refine hK.out _ _ ⟨(blk_cell BKP.out 0).trans rfl, (blk_cell BKP.out 1).trans rfl, (blk_cell BKP.out 2).trans rfl, (blk_cell BKP.out 3).trans rfl, (blk_cell BKQ.out 0).trans rfl, (blk_cell BKQ.out 1).trans rfl, (blk_cell BKQ.out 2).trans rfl, (blk_cell BKQ.out 3).trans rfl, (blk_cell BKX.out 0).trans rfl, (blk_cell BKX.out 1).trans rfl, (blk_cell BKX.out 2).trans rfl, (blk_cell BKX.out 3).trans rfl, (blk_cell BKY.out 0).trans rfl, (blk_cell BKY.out 1).trans rfl, (blk_cell BKY.out 2).trans rfl, (blk_cell BKY.out 3).trans rfl⟩ (fun hHeld => ?_)
 clear hK K
 refine norm_ (a' := ?_) ?_ ?_
 rotate_left
 ·show Act.put _ (some 152) _ = _
  simp only [Act.put, List.setIfInBounds_toArray, List.set_cons_zero, List.set_cons_succ, i64_w, i32_w]
  rfl
 refine purS_ (i := 10) (N := some 142) (fl_ 17 11) HT_.out ?_
 refine purS_ (i := 11) (N := some 153) (fl_ 17 12) HT_.out ?_
 refine purS_ (i := 12) (N := some 154) (fl_ 17 13) HT_.out ?_
 refine purS_ (i := 13) (N := some 155) (fl_ 17 14) HT_.out ?_
 refine purS_ (i := 14) (N := some 26) (fl_ 17 15) HT_.out ?_
 refine purS_ (i := 15) (N := some 27) (fl_ 17 16) HT_.out ?_
 refine purS_ (i := 16) (N := some 28) (fl_ 17 17) HT_.out ?_
 refine done_ (done_of HT_.out (by kernel_rfl)) ?_
 go_wp2_with (first | ((with_reducible refine gate_callee (f := 11) rfl ?_); refine goesL_ (some 158) rfl rfl Try.func11 (by kernel_rfl) rfl #[.slice Axn w1.length cxn, .slice Axw w1.length cxw] rfl am_ ?_; (with_reducible refine (laws_eqIntS.calls k _ _ w1 _ _ w1 true _ ?side1 ?side2 ?side3 ?side4 F9.out).mono ?_); (case side1 => exact cR_ HOxn); (case side2 => exact (Kd.R_reads' HOxn.out).2.1); (case side3 => exact cR_ HOxw); (case side4 => exact (Kd.R_reads' HOxw.out).2.1); rintro e w' ⟨rfl, ⟨nd, rfl⟩⟩; refine ⟨_, rfl, ?_⟩) | ((with_reducible refine gate_callee (f := 17) rfl ?_); refine goesL_ (some 172) rfl rfl Try.func17 (by kernel_rfl) rfl #[.slice Axg r4.length cxg, .int .i64 1] rfl (by (try simp only [List.map_toArray, List.map_cons, List.map_nil]); first | done | (rw [show r4.length = w1.length from (Kd.R_reads' HOxg.out).1.symm] <;> rfl) | rfl | (simp only [List.length_drop, List.length_take]; rfl)) ?_; (with_reducible refine (laws_heldIntS.calls k _ _ r4 1 m4 _ ?side1 ?side2 F17.out).mono ?_); (case side1 => exact cR_ HOxg); (case side2 => rw [show r4.length = w1.length from (Kd.R_reads' HOxg.out).1.symm]; exact (Kd.R_reads' HOxg.out).2.1); rintro e w' ⟨rfl, ⟨nd, rfl⟩⟩; refine ⟨_, rfl, ?_⟩))
 go_ret
 exact ⟨rt_, below_to HB⟩
def lw_.Pure : Prop := ∀ (a0_0 : Int) (a0_1 : Int) (a0_2 : Int) (l0_3 : List Int) (a1 : Int) (a2_0 : Int) (a2_1 : Int) (a2_2 : Int) (l2_3 : List Int) (a3 : Int) (l4 : List (List Int)) (a5 : Int), l0_3.length ≤ maxLen → l2_3.length ≤ maxLen → l4.length ≤ maxLen → (∀ x_ ∈ l4, x_.length ≤ maxLen) → (Lit.int .i64 a1).wf = true → (Lit.int .i64 a3).wf = true → (Lit.int .i64 a5).wf = true → ∃ k, lw_.f k a0_0 a0_1 a0_2 l0_3 a1 a2_0 a2_1 a2_2 l2_3 a3 l4 a5 = some true
end Go.Proofs.Ythdnodmidbcgpaa.QC
