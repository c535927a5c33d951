-- WRITTEN BY a program of this session (wip/xprint.py, over the kit's print): Lean checks it.
import Derived.Test.YtomgfijlnfljpaaQBx0
import Derived.Test.YtomgfijlnfljpaaQBx1
import Derived.Test.YtomgfijlnfljpaaQBx2
import Derived.Test.YtomgfijlnfljpaaQBx8
import Derived.Test.YtomgfijlnfljpaaQBx17
namespace Go.Proofs.Ytomgfijlnfljpaa.QB
open Go.Proofs.Ytomgfijlnfljpaa.X Go.RowKit Go.Proofs.YtomgfijlnfljpaaW.PrintWords Go.Proofs.YtomgfijlnfljpaaW.PrintLast Go.Proofs.YtomgfijlnfljpaaW.PrintMore
attribute [local go_sem] max2_int min2_int max_two min_two max_three min_three max_four min_four   -- for this text's walks alone
set_option linter.unusedVariables false
set_option linter.unusedSimpArgs false

/-! ### laws_FnExactDropBus: function 11 -/
mutual
def laws_FnExactDropBus.j0 : Nat → Int → Bool → Bool → Bool → Int → Int → Int → List Int → Int → Int → Int → List Int → Int → Int → Int → List Int → Int → Int → Int → List Int → Option (Bool)
  | 0, _, _, _, _, _, _, _, _, _, _, _, _, _, _, _, _, _, _, _, _ => none
  | k + 1, x1, x7, x10, x44, x550000, x550001, x550002, x550003, x565000, x565001, x565002, x565003, x572000, x572001, x572002, x572003, x580000, x580001, x580002, x580003 => if x44 = true then (some false) else ((laws_toLine.f k x550000 x550001 x550002 x550003).bind fun bt581 => ((laws_eqLine.f k x572000 x572001 x572002 x572003 bt581.1 bt581.2.1 bt581.2.2.1 bt581.2.2.2).bind fun t587 => (if t587 = true then ((laws_markLine.f k x572000 x572001 x572002 x572003 1).bind fun bt588 => (if bt588.1 < 0 then (laws_FnExactDropBus.j1 k x1 x7 true x550000 x550001 x550002 x550003 x565000 x565001 x565002 x565003 x580000 x580001 x580002 x580003) else ((laws_eqLine.f k x580000 x580001 x580002 x580003 x565000 x565001 x565002 x565003).bind fun t590 => (if t590 = true then (laws_FnExactDropBus.j1 k x1 x7 (x10 != x7) x550000 x550001 x550002 x550003 x565000 x565001 x565002 x565003 x580000 x580001 x580002 x580003) else (laws_FnExactDropBus.j1 k x1 x7 true x550000 x550001 x550002 x550003 x565000 x565001 x565002 x565003 x580000 x580001 x580002 x580003))))) else (some false))))
def laws_FnExactDropBus.j1 : Nat → Int → Bool → Bool → Int → Int → Int → List Int → Int → Int → Int → List Int → Int → Int → Int → List Int → Option (Bool)
  | 0, _, _, _, _, _, _, _, _, _, _, _, _, _, _, _ => none
  | k + 1, x1, x7, x65, x550000, x550001, x550002, x550003, x565000, x565001, x565002, x565003, x580000, x580001, x580002, x580003 => if x65 = true then (some false) else ((laws_markLine.f k x580000 x580001 x580002 x580003 1).bind fun bt591 => ((laws_heldLine.f k x580000 x580001 x580002 bt591.2 1).bind fun t593 => (if t593 < 0 then (some false) else (if t593 = bt591.1 then ((laws_toLine.f k x550000 x550001 x550002 x550003).bind fun bt594 => ((impl_DropBus.f k bt594.1 bt594.2.1 bt594.2.2.1 bt594.2.2.2 x1).bind fun bt600 => ((laws_eqLine.f k bt600.1 bt600.2.1 bt600.2.2.1 bt600.2.2.2.1 x565000 x565001 x565002 x565003).bind fun t608 => (if t608 = true then (laws_FnExactDropBus.j2 k bt591.1 (bt600.2.2.2.2 != x7) x580000 x580001 x580002 bt591.2) else (laws_FnExactDropBus.j2 k bt591.1 true x580000 x580001 x580002 bt591.2))))) else (some false)))))
def laws_FnExactDropBus.j2 : Nat → Int → Bool → Int → Int → Int → List Int → Option (Bool)
  | 0, _, _, _, _, _, _ => none
  | k + 1, x12, x92, x580000, x580001, x580002, x580003 => if x92 = true then (some false) else ((laws_heldLine.f k x580000 x580001 x580002 x580003 1).bind fun t609 => (if t609 < 0 then (some false) else (if t609 = x12 then (some true) else (some false))))
end
def laws_FnExactDropBus.f (k : Nat) (a0_0 : Int) (a0_1 : Int) (a0_2 : Int) (l0_3 : List Int) (a1 : Int) : Option (Bool) := (laws_szLine.f a0_0 a0_1 a0_2 l0_3 1048576).bind fun t550 => (if t550 < 0 then (some true) else ((laws_toLine.f k a0_0 a0_1 a0_2 l0_3).bind fun bt551 => ((spec_DropBus.f k bt551.1 bt551.2.1 bt551.2.2.1 bt551.2.2.2 a1).bind fun bt557 => ((laws_toLine.f k a0_0 a0_1 a0_2 l0_3).bind fun bt565 => ((impl_DropBus.f k bt565.1 bt565.2.1 bt565.2.2.1 bt565.2.2.2 a1).bind fun bt572 => ((laws_eqLine.f k bt572.1 bt572.2.1 bt572.2.2.1 bt572.2.2.2.1 bt557.1 bt557.2.1 bt557.2.2.1 bt557.2.2.2.1).bind fun t580 => (if t580 = true then (laws_FnExactDropBus.j0 k a1 bt557.2.2.2.2 bt572.2.2.2.2 (bt572.2.2.2.2 != bt557.2.2.2.2) a0_0 a0_1 a0_2 l0_3 bt557.1 bt557.2.1 bt557.2.2.1 bt557.2.2.2.1 bt565.1 bt565.2.1 bt565.2.2.1 bt565.2.2.2 bt572.1 bt572.2.1 bt572.2.2.1 bt572.2.2.2.1) else (laws_FnExactDropBus.j0 k a1 bt557.2.2.2.2 bt572.2.2.2.2 true a0_0 a0_1 a0_2 l0_3 bt557.1 bt557.2.1 bt557.2.2.1 bt557.2.2.2.1 bt565.1 bt565.2.1 bt565.2.2.1 bt565.2.2.2 bt572.1 bt572.2.1 bt572.2.2.1 bt572.2.2.2.1))))))))
theorem laws_FnExactDropBus.mono_l : ∀ k, (∀ y0 y1 y2 y3 y4 y5 y6 y7 y8 y9 y10 y11 y12 y13 y14 y15 y16 y17 y18 y19, LeO (laws_FnExactDropBus.j0 k y0 y1 y2 y3 y4 y5 y6 y7 y8 y9 y10 y11 y12 y13 y14 y15 y16 y17 y18 y19) (laws_FnExactDropBus.j0 (k + 1) y0 y1 y2 y3 y4 y5 y6 y7 y8 y9 y10 y11 y12 y13 y14 y15 y16 y17 y18 y19)) ∧ (∀ y0 y1 y2 y3 y4 y5 y6 y7 y8 y9 y10 y11 y12 y13 y14, LeO (laws_FnExactDropBus.j1 k y0 y1 y2 y3 y4 y5 y6 y7 y8 y9 y10 y11 y12 y13 y14) (laws_FnExactDropBus.j1 (k + 1) y0 y1 y2 y3 y4 y5 y6 y7 y8 y9 y10 y11 y12 y13 y14)) ∧ (∀ y0 y1 y2 y3 y4 y5, LeO (laws_FnExactDropBus.j2 k y0 y1 y2 y3 y4 y5) (laws_FnExactDropBus.j2 (k + 1) y0 y1 y2 y3 y4 y5))
  | 0 => ⟨fun _ _ _ _ _ _ _ _ _ _ _ _ _ _ _ _ _ _ _ _ r h => by simp [laws_FnExactDropBus.j0] at h, fun _ _ _ _ _ _ _ _ _ _ _ _ _ _ _ r h => by simp [laws_FnExactDropBus.j1] at h, fun _ _ _ _ _ _ r h => by simp [laws_FnExactDropBus.j2] at h⟩
  | k + 1 => by
    obtain ⟨ih0, ih1, ih2⟩ := laws_FnExactDropBus.mono_l k
    refine ⟨?_, ?_, ?_⟩
    · intro y0 y1 y2 y3 y4 y5 y6 y7 y8 y9 y10 y11 y12 y13 y14 y15 y16 y17 y18 y19
      unfold laws_FnExactDropBus.j0
      repeat' first
      | (with_reducible exact ih0 _ _ _ _ _ _ _ _ _ _ _ _ _ _ _ _ _ _ _ _)
      | (with_reducible exact ih1 _ _ _ _ _ _ _ _ _ _ _ _ _ _ _)
      | (with_reducible exact ih2 _ _ _ _ _ _)
      | (with_reducible exact impl_DropBus.mono _ _ _ _ _ _)
      | (with_reducible exact laws_eqLine.mono _ _ _ _ _ _ _ _ _)
      | (with_reducible exact laws_heldLine.mono _ _ _ _ _ _)
      | (with_reducible exact laws_markLine.mono _ _ _ _ _ _)
      | (with_reducible exact laws_toLine.mono _ _ _ _ _)
      | (with_reducible exact spec_DropBus.mono _ _ _ _ _ _)
      | (with_reducible exact LeO.refl _)
      | (with_reducible exact LeO.none _)
      | (with_reducible refine LeO.ite ?_ ?_)
      | (with_reducible refine LeO.bind ?_ (fun _ => ?_))
      | exact ih0 _ _ _ _ _ _ _ _ _ _ _ _ _ _ _ _ _ _ _ _
      | exact ih1 _ _ _ _ _ _ _ _ _ _ _ _ _ _ _
      | exact ih2 _ _ _ _ _ _
      | exact impl_DropBus.mono _ _ _ _ _ _
      | exact laws_eqLine.mono _ _ _ _ _ _ _ _ _
      | exact laws_heldLine.mono _ _ _ _ _ _
      | exact laws_markLine.mono _ _ _ _ _ _
      | exact laws_toLine.mono _ _ _ _ _
      | exact spec_DropBus.mono _ _ _ _ _ _
      | exact LeO.none _
      | refine LeO.ite ?_ ?_
      | refine LeO.bind ?_ (fun _ => ?_)
    · intro y0 y1 y2 y3 y4 y5 y6 y7 y8 y9 y10 y11 y12 y13 y14
      unfold laws_FnExactDropBus.j1
      repeat' first
      | (with_reducible exact ih0 _ _ _ _ _ _ _ _ _ _ _ _ _ _ _ _ _ _ _ _)
      | (with_reducible exact ih1 _ _ _ _ _ _ _ _ _ _ _ _ _ _ _)
      | (with_reducible exact ih2 _ _ _ _ _ _)
      | (with_reducible exact impl_DropBus.mono _ _ _ _ _ _)
      | (with_reducible exact laws_eqLine.mono _ _ _ _ _ _ _ _ _)
      | (with_reducible exact laws_heldLine.mono _ _ _ _ _ _)
      | (with_reducible exact laws_markLine.mono _ _ _ _ _ _)
      | (with_reducible exact laws_toLine.mono _ _ _ _ _)
      | (with_reducible exact spec_DropBus.mono _ _ _ _ _ _)
      | (with_reducible exact LeO.refl _)
      | (with_reducible exact LeO.none _)
      | (with_reducible refine LeO.ite ?_ ?_)
      | (with_reducible refine LeO.bind ?_ (fun _ => ?_))
      | exact ih0 _ _ _ _ _ _ _ _ _ _ _ _ _ _ _ _ _ _ _ _
      | exact ih1 _ _ _ _ _ _ _ _ _ _ _ _ _ _ _
      | exact ih2 _ _ _ _ _ _
      | exact impl_DropBus.mono _ _ _ _ _ _
      | exact laws_eqLine.mono _ _ _ _ _ _ _ _ _
      | exact laws_heldLine.mono _ _ _ _ _ _
      | exact laws_markLine.mono _ _ _ _ _ _
      | exact laws_toLine.mono _ _ _ _ _
      | exact spec_DropBus.mono _ _ _ _ _ _
      | exact LeO.none _
      | refine LeO.ite ?_ ?_
      | refine LeO.bind ?_ (fun _ => ?_)
    · intro y0 y1 y2 y3 y4 y5
      unfold laws_FnExactDropBus.j2
      repeat' first
      | (with_reducible exact ih0 _ _ _ _ _ _ _ _ _ _ _ _ _ _ _ _ _ _ _ _)
      | (with_reducible exact ih1 _ _ _ _ _ _ _ _ _ _ _ _ _ _ _)
      | (with_reducible exact ih2 _ _ _ _ _ _)
      | (with_reducible exact impl_DropBus.mono _ _ _ _ _ _)
      | (with_reducible exact laws_eqLine.mono _ _ _ _ _ _ _ _ _)
      | (with_reducible exact laws_heldLine.mono _ _ _ _ _ _)
      | (with_reducible exact laws_markLine.mono _ _ _ _ _ _)
      | (with_reducible exact laws_toLine.mono _ _ _ _ _)
      | (with_reducible exact spec_DropBus.mono _ _ _ _ _ _)
      | (with_reducible exact LeO.refl _)
      | (with_reducible exact LeO.none _)
      | (with_reducible refine LeO.ite ?_ ?_)
      | (with_reducible refine LeO.bind ?_ (fun _ => ?_))
      | exact ih0 _ _ _ _ _ _ _ _ _ _ _ _ _ _ _ _ _ _ _ _
      | exact ih1 _ _ _ _ _ _ _ _ _ _ _ _ _ _ _
      | exact ih2 _ _ _ _ _ _
      | exact impl_DropBus.mono _ _ _ _ _ _
      | exact laws_eqLine.mono _ _ _ _ _ _ _ _ _
      | exact laws_heldLine.mono _ _ _ _ _ _
      | exact laws_markLine.mono _ _ _ _ _ _
      | exact laws_toLine.mono _ _ _ _ _
      | exact spec_DropBus.mono _ _ _ _ _ _
      | exact LeO.none _
      | refine LeO.ite ?_ ?_
      | refine LeO.bind ?_ (fun _ => ?_)
theorem laws_FnExactDropBus.mono : ∀ a0 a1 a2 a3 a4 k, LeO (laws_FnExactDropBus.f k a0 a1 a2 a3 a4) (laws_FnExactDropBus.f (k + 1) a0 a1 a2 a3 a4) := by
  intro a0 a1 a2 a3 a4 k
  obtain ⟨ih0, ih1, ih2⟩ := laws_FnExactDropBus.mono_l k
  unfold laws_FnExactDropBus.f
  repeat' first
      | (with_reducible exact ih0 _ _ _ _ _ _ _ _ _ _ _ _ _ _ _ _ _ _ _ _)
      | (with_reducible exact ih1 _ _ _ _ _ _ _ _ _ _ _ _ _ _ _)
      | (with_reducible exact ih2 _ _ _ _ _ _)
      | (with_reducible exact impl_DropBus.mono _ _ _ _ _ _)
      | (with_reducible exact laws_eqLine.mono _ _ _ _ _ _ _ _ _)
      | (with_reducible exact laws_heldLine.mono _ _ _ _ _ _)
      | (with_reducible exact laws_markLine.mono _ _ _ _ _ _)
      | (with_reducible exact laws_toLine.mono _ _ _ _ _)
      | (with_reducible exact spec_DropBus.mono _ _ _ _ _ _)
      | (with_reducible exact LeO.refl _)
      | (with_reducible exact LeO.none _)
      | (with_reducible refine LeO.ite ?_ ?_)
      | (with_reducible refine LeO.bind ?_ (fun _ => ?_))
      | exact ih0 _ _ _ _ _ _ _ _ _ _ _ _ _ _ _ _ _ _ _ _
      | exact ih1 _ _ _ _ _ _ _ _ _ _ _ _ _ _ _
      | exact ih2 _ _ _ _ _ _
      | exact impl_DropBus.mono _ _ _ _ _ _
      | exact laws_eqLine.mono _ _ _ _ _ _ _ _ _
      | exact laws_heldLine.mono _ _ _ _ _ _
      | exact laws_markLine.mono _ _ _ _ _ _
      | exact laws_toLine.mono _ _ _ _ _
      | exact spec_DropBus.mono _ _ _ _ _ _
      | exact LeO.none _
      | refine LeO.ite ?_ ?_
      | refine LeO.bind ?_ (fun _ => ?_)
set_option maxHeartbeats 8000000 in
set_option maxRecDepth 100000 in
theorem laws_FnExactDropBus.calls (k : Nat) (a0_0 : Int) (a0_1 : Int) (a0_2 : Int) (A0_3 : Option Addr) (c0_3 : Nat) (l0_3 : List Int) (a1 : Int) (r : Bool) (w : World) (hr0_3 : Kd.C (Kd.int .i64) w A0_3 l0_3.length l0_3) (hc0_3 : l0_3.length ≤ c0_3) (h : laws_FnExactDropBus.f k a0_0 a0_1 a0_2 l0_3 a1 = some r) :
    Calls Try.prog 11 #[.agg #[.int .i64 a0_0, .int .i64 a0_1, .int .i64 a0_2, .slice A0_3 l0_3.length c0_3], .int .i64 a1] w fun e w' => e = .returned (.bool r) ∧ Below w.heap.size w w' := by
  have hu24 := Try.underlying24
  have hu28 := Try.underlying28
  have HR0_3 := Aside0.mk hr0_3
  have HC0_3 := Aside0.mk hc0_3
  clear hr0_3 hc0_3
  have HB := Aside0.mk (Below.refl w.heap.size w)
  have H : ((laws_szLine.f a0_0 a0_1 a0_2 l0_3 1048576).bind fun t550 => (if t550 < 0 then (some true) else ((laws_toLine.f k a0_0 a0_1 a0_2 l0_3).bind fun bt551 => ((spec_DropBus.f k bt551.1 bt551.2.1 bt551.2.2.1 bt551.2.2.2 a1).bind fun bt557 => ((laws_toLine.f k a0_0 a0_1 a0_2 l0_3).bind fun bt565 => ((impl_DropBus.f k bt565.1 bt565.2.1 bt565.2.2.1 bt565.2.2.2 a1).bind fun bt572 => ((laws_eqLine.f k bt572.1 bt572.2.1 bt572.2.2.1 bt572.2.2.2.1 bt557.1 bt557.2.1 bt557.2.2.1 bt557.2.2.2.1).bind fun t580 => (if t580 = true then (laws_FnExactDropBus.j0 k a1 bt557.2.2.2.2 bt572.2.2.2.2 (bt572.2.2.2.2 != bt557.2.2.2.2) a0_0 a0_1 a0_2 l0_3 bt557.1 bt557.2.1 bt557.2.2.1 bt557.2.2.2.1 bt565.1 bt565.2.1 bt565.2.2.1 bt565.2.2.2 bt572.1 bt572.2.1 bt572.2.2.1 bt572.2.2.2.1) else (laws_FnExactDropBus.j0 k a1 bt557.2.2.2.2 bt572.2.2.2.2 true a0_0 a0_1 a0_2 l0_3 bt557.1 bt557.2.1 bt557.2.2.1 bt557.2.2.2.1 bt565.1 bt565.2.1 bt565.2.2.1 bt565.2.2.2 bt572.1 bt572.2.1 bt572.2.2.1 bt572.2.2.2.1))))))))) = some r := h
  clear h
  replace H := Option.bind_eq_some_iff.mp H
  obtain ⟨t550, A30, H⟩ := H
  replace H : (if t550 < 0 then (some true) else ((laws_toLine.f k a0_0 a0_1 a0_2 l0_3).bind fun bt551 => ((spec_DropBus.f k bt551.1 bt551.2.1 bt551.2.2.1 bt551.2.2.2 a1).bind fun bt557 => ((laws_toLine.f k a0_0 a0_1 a0_2 l0_3).bind fun bt565 => ((impl_DropBus.f k bt565.1 bt565.2.1 bt565.2.2.1 bt565.2.2.2 a1).bind fun bt572 => ((laws_eqLine.f k bt572.1 bt572.2.1 bt572.2.2.1 bt572.2.2.2.1 bt557.1 bt557.2.1 bt557.2.2.1 bt557.2.2.2.1).bind fun t580 => (if t580 = true then (laws_FnExactDropBus.j0 k a1 bt557.2.2.2.2 bt572.2.2.2.2 (bt572.2.2.2.2 != bt557.2.2.2.2) a0_0 a0_1 a0_2 l0_3 bt557.1 bt557.2.1 bt557.2.2.1 bt557.2.2.2.1 bt565.1 bt565.2.1 bt565.2.2.1 bt565.2.2.2 bt572.1 bt572.2.1 bt572.2.2.1 bt572.2.2.2.1) else (laws_FnExactDropBus.j0 k a1 bt557.2.2.2.2 bt572.2.2.2.2 true a0_0 a0_1 a0_2 l0_3 bt557.1 bt557.2.1 bt557.2.2.1 bt557.2.2.2.1 bt565.1 bt565.2.1 bt565.2.2.1 bt565.2.2.2 bt572.1 bt572.2.1 bt572.2.2.1 bt572.2.2.2.1)))))))) = some r := H
  have A3 := Aside0.mk A30
  clear A30
  by_cases c4 : t550 < 0
  · rw [if_pos c4] at H
    have c4b0 : decide (t550 < 0) = true := decide_eq_true c4
    clear c4
    obtain rfl := Option.some.inj H
    go_enter Try.func11, Try.ntmps11
    go_wp2_with (first | ((with_reducible refine gate_dst (N := 2) rfl ?_); refine box_event ?hg (N := 2) ?hd (cs := #[.int .i64 a0_0, .int .i64 a0_1, .int .i64 a0_2, .slice A0_3 l0_3.length c0_3]) (t := 24) ?hr ?_; (case hd => rfl); (case hg => rfl); (case hr => first | (go_simp; done) | (go_simp; rfl)); intro gb549 hg w5 hbox hb; have n0_ := Aside0.mk (below_step (by repeat (first | (with_reducible first | exact HB.out | apply below_alloc | apply pw_below_drewN | apply below_drew1) | exact HB.out)) hb); have n1_ := Aside0.mk (hbox); have n2_ := Aside0.mk ((by rw [hg]; exact (below_size (by repeat (first | (with_reducible first | exact HB.out | apply below_alloc | apply pw_below_drewN | apply below_drew1) | exact HB.out))) : w.heap.size ≤ gb549)); have n3_ := Aside0.mk ((by rw [hg]; exact (below_size (by repeat (first | (with_reducible first | exact HB.out | apply below_alloc | apply pw_below_drewN | apply below_drew1) | exact HB.out))) : w.heap.size ≤ gb549)); clear HB; have HB := n0_; have BK549 := n1_; have GW549 := n2_; have GE549 := n3_; clear n0_ n1_ n2_ n3_; clear hb hbox hg; have hcz6_0 : w5.cell? ⟨gb549, 0, none⟩ = some (.int .i64 a0_0) := (blk_cell BK549.out 0).trans rfl; have hcz6_1 : w5.cell? ⟨gb549, 1, none⟩ = some (.int .i64 a0_1) := (blk_cell BK549.out 1).trans rfl; have hcz6_2 : w5.cell? ⟨gb549, 2, none⟩ = some (.int .i64 a0_2) := (blk_cell BK549.out 2).trans rfl; have hcz6_3 : w5.cell? ⟨gb549, 3, none⟩ = some (.slice A0_3 l0_3.length c0_3) := (blk_cell BK549.out 3).trans rfl; have hfz6_0 := blk_frozen BK549.out 0; have hfz6_1 := blk_frozen BK549.out 1; have hfz6_2 := blk_frozen BK549.out 2; have hfz6_3 := blk_frozen BK549.out 3) | ((with_reducible refine gate_callee (f := 15) rfl ?_); refine goesL_ (some 18) rfl rfl Try.func15 (by kernel_rfl) rfl #[.agg #[.int .i64 a0_0, .int .i64 a0_1, .int .i64 a0_2, .slice A0_3 l0_3.length c0_3], .int .i64 1048576] rfl (by (try simp only [List.map_toArray, List.map_cons, List.map_nil]); first | done | rfl | (simp only [List.length_drop, List.length_take]; rfl)) ?_; (with_reducible refine (laws_szLine.calls a0_0 a0_1 a0_2 _ _ l0_3 1048576 t550 _ ?side1 ?side2 A3.out).mono ?_); (case side1 => repeat (first | exact (Kd.C_below HR0_3.out HB.out) | (with_reducible refine Kd.C_alloc ?_ _) | (with_reducible refine Kd.C_drewN ?_ _) | (with_reducible refine Kd.C_drew ?_))); (case side2 => exact HC0_3.out); rintro e w7 ⟨rfl, hb⟩; refine ⟨_, rfl, ?_⟩; have n0_ := Aside0.mk (blk_below (g := gb549) (o := .cells #[.int .i64 a0_0, .int .i64 a0_1, .int .i64 a0_2, .slice A0_3 l0_3.length c0_3] 24 (0, 0)) (by (with_reducible repeat (first | refine blk_drewN ?_ _ | refine blk_drew ?_ | refine blk_alloc ?_ _)); exact BK549.out) hb); have n1_ := Aside0.mk (below_step (by repeat (first | (with_reducible first | exact HB.out | apply below_alloc | apply pw_below_drewN | apply below_drew1 | refine below_set ?_ GE549.out) | exact HB.out)) hb); clear BK549; clear HB; have BK549 := n0_; have HB := n1_; clear n0_ n1_; (try clear hb); (try clear hb2); (try clear hk); (try clear hi)))
    go_ret
    exact ⟨by first | rfl | (simp [errW_none, errW_some] <;> rfl) | (simp [*, errW_none, errW_some] <;> rfl), by repeat (first | (with_reducible first | exact HB.out | apply below_alloc | apply pw_below_drewN | apply below_drew1 | refine below_set ?_ GE549.out) | exact HB.out)⟩
  · rw [if_neg c4] at H
    have c4b0 : decide (t550 < 0) = false := decide_eq_false c4
    clear c4
    replace H := Option.bind_eq_some_iff.mp H
    obtain ⟨⟨t551, t552, t553, t554⟩, A80, H⟩ := H
    replace H : ((spec_DropBus.f k t551 t552 t553 t554 a1).bind fun bt557 => ((laws_toLine.f k a0_0 a0_1 a0_2 l0_3).bind fun bt565 => ((impl_DropBus.f k bt565.1 bt565.2.1 bt565.2.2.1 bt565.2.2.2 a1).bind fun bt572 => ((laws_eqLine.f k bt572.1 bt572.2.1 bt572.2.2.1 bt572.2.2.2.1 bt557.1 bt557.2.1 bt557.2.2.1 bt557.2.2.2.1).bind fun t580 => (if t580 = true then (laws_FnExactDropBus.j0 k a1 bt557.2.2.2.2 bt572.2.2.2.2 (bt572.2.2.2.2 != bt557.2.2.2.2) a0_0 a0_1 a0_2 l0_3 bt557.1 bt557.2.1 bt557.2.2.1 bt557.2.2.2.1 bt565.1 bt565.2.1 bt565.2.2.1 bt565.2.2.2 bt572.1 bt572.2.1 bt572.2.2.1 bt572.2.2.2.1) else (laws_FnExactDropBus.j0 k a1 bt557.2.2.2.2 bt572.2.2.2.2 true a0_0 a0_1 a0_2 l0_3 bt557.1 bt557.2.1 bt557.2.2.1 bt557.2.2.2.1 bt565.1 bt565.2.1 bt565.2.2.1 bt565.2.2.2 bt572.1 bt572.2.1 bt572.2.2.1 bt572.2.2.2.1)))))) = some r := H
    have A8 := Aside0.mk A80
    clear A80
    replace H := Option.bind_eq_some_iff.mp H
    obtain ⟨⟨t557, t558, t559, t560, t563⟩, A90, H⟩ := H
    replace H : ((laws_toLine.f k a0_0 a0_1 a0_2 l0_3).bind fun bt565 => ((impl_DropBus.f k bt565.1 bt565.2.1 bt565.2.2.1 bt565.2.2.2 a1).bind fun bt572 => ((laws_eqLine.f k bt572.1 bt572.2.1 bt572.2.2.1 bt572.2.2.2.1 t557 t558 t559 t560).bind fun t580 => (if t580 = true then (laws_FnExactDropBus.j0 k a1 t563 bt572.2.2.2.2 (bt572.2.2.2.2 != t563) a0_0 a0_1 a0_2 l0_3 t557 t558 t559 t560 bt565.1 bt565.2.1 bt565.2.2.1 bt565.2.2.2 bt572.1 bt572.2.1 bt572.2.2.1 bt572.2.2.2.1) else (laws_FnExactDropBus.j0 k a1 t563 bt572.2.2.2.2 true a0_0 a0_1 a0_2 l0_3 t557 t558 t559 t560 bt565.1 bt565.2.1 bt565.2.2.1 bt565.2.2.2 bt572.1 bt572.2.1 bt572.2.2.1 bt572.2.2.2.1))))) = some r := H
    have A9 := Aside0.mk A90
    clear A90
    replace H := Option.bind_eq_some_iff.mp H
    obtain ⟨⟨t565, t566, t567, t568⟩, A100, H⟩ := H
    replace H : ((impl_DropBus.f k t565 t566 t567 t568 a1).bind fun bt572 => ((laws_eqLine.f k bt572.1 bt572.2.1 bt572.2.2.1 bt572.2.2.2.1 t557 t558 t559 t560).bind fun t580 => (if t580 = true then (laws_FnExactDropBus.j0 k a1 t563 bt572.2.2.2.2 (bt572.2.2.2.2 != t563) a0_0 a0_1 a0_2 l0_3 t557 t558 t559 t560 t565 t566 t567 t568 bt572.1 bt572.2.1 bt572.2.2.1 bt572.2.2.2.1) else (laws_FnExactDropBus.j0 k a1 t563 bt572.2.2.2.2 true a0_0 a0_1 a0_2 l0_3 t557 t558 t559 t560 t565 t566 t567 t568 bt572.1 bt572.2.1 bt572.2.2.1 bt572.2.2.2.1)))) = some r := H
    have A10 := Aside0.mk A100
    clear A100
    replace H := Option.bind_eq_some_iff.mp H
    obtain ⟨⟨t572, t573, t574, t575, t578⟩, A110, H⟩ := H
    replace H : ((laws_eqLine.f k t572 t573 t574 t575 t557 t558 t559 t560).bind fun t580 => (if t580 = true then (laws_FnExactDropBus.j0 k a1 t563 t578 (t578 != t563) a0_0 a0_1 a0_2 l0_3 t557 t558 t559 t560 t565 t566 t567 t568 t572 t573 t574 t575) else (laws_FnExactDropBus.j0 k a1 t563 t578 true a0_0 a0_1 a0_2 l0_3 t557 t558 t559 t560 t565 t566 t567 t568 t572 t573 t574 t575))) = some r := H
    have A11 := Aside0.mk A110
    clear A110
    have HC12 := Aside0.mk H
    clear H
    go_enter Try.func11, Try.ntmps11
    go_upto_region 8 with (first | ((with_reducible refine gate_dst (N := 2) rfl ?_); refine box_event ?hg (N := 2) ?hd (cs := #[.int .i64 a0_0, .int .i64 a0_1, .int .i64 a0_2, .slice A0_3 l0_3.length c0_3]) (t := 24) ?hr ?_; (case hd => rfl); (case hg => rfl); (case hr => first | (go_simp; done) | (go_simp; rfl)); intro gb549 hg w13 hbox hb; have n0_ := Aside0.mk (below_step (by repeat (first | (with_reducible first | exact HB.out | apply below_alloc | apply pw_below_drewN | apply below_drew1) | exact HB.out)) hb); have n1_ := Aside0.mk (hbox); have n2_ := Aside0.mk ((by rw [hg]; exact (below_size (by repeat (first | (with_reducible first | exact HB.out | apply below_alloc | apply pw_below_drewN | apply below_drew1) | exact HB.out))) : w.heap.size ≤ gb549)); have n3_ := Aside0.mk ((by rw [hg]; exact (below_size (by repeat (first | (with_reducible first | exact HB.out | apply below_alloc | apply pw_below_drewN | apply below_drew1) | exact HB.out))) : w.heap.size ≤ gb549)); clear HB; have HB := n0_; have BK549 := n1_; have GW549 := n2_; have GE549 := n3_; clear n0_ n1_ n2_ n3_; clear hb hbox hg; have hcz14_0 : w13.cell? ⟨gb549, 0, none⟩ = some (.int .i64 a0_0) := (blk_cell BK549.out 0).trans rfl; have hcz14_1 : w13.cell? ⟨gb549, 1, none⟩ = some (.int .i64 a0_1) := (blk_cell BK549.out 1).trans rfl; have hcz14_2 : w13.cell? ⟨gb549, 2, none⟩ = some (.int .i64 a0_2) := (blk_cell BK549.out 2).trans rfl; have hcz14_3 : w13.cell? ⟨gb549, 3, none⟩ = some (.slice A0_3 l0_3.length c0_3) := (blk_cell BK549.out 3).trans rfl; have hfz14_0 := blk_frozen BK549.out 0; have hfz14_1 := blk_frozen BK549.out 1; have hfz14_2 := blk_frozen BK549.out 2; have hfz14_3 := blk_frozen BK549.out 3) | ((with_reducible refine gate_callee (f := 15) rfl ?_); refine goesL_ (some 18) rfl rfl Try.func15 (by kernel_rfl) rfl #[.agg #[.int .i64 a0_0, .int .i64 a0_1, .int .i64 a0_2, .slice A0_3 l0_3.length c0_3], .int .i64 1048576] rfl (by (try simp only [List.map_toArray, List.map_cons, List.map_nil]); first | done | rfl | (simp only [List.length_drop, List.length_take]; rfl)) ?_; (with_reducible refine (laws_szLine.calls a0_0 a0_1 a0_2 _ _ l0_3 1048576 t550 _ ?side1 ?side2 A3.out).mono ?_); (case side1 => repeat (first | exact (Kd.C_below HR0_3.out HB.out) | (with_reducible refine Kd.C_alloc ?_ _) | (with_reducible refine Kd.C_drewN ?_ _) | (with_reducible refine Kd.C_drew ?_))); (case side2 => exact HC0_3.out); rintro e w15 ⟨rfl, hb⟩; refine ⟨_, rfl, ?_⟩; have n0_ := Aside0.mk (blk_below (g := gb549) (o := .cells #[.int .i64 a0_0, .int .i64 a0_1, .int .i64 a0_2, .slice A0_3 l0_3.length c0_3] 24 (0, 0)) (by (with_reducible repeat (first | refine blk_drewN ?_ _ | refine blk_drew ?_ | refine blk_alloc ?_ _)); exact BK549.out) hb); have n1_ := Aside0.mk (below_step (by repeat (first | (with_reducible first | exact HB.out | apply below_alloc | apply pw_below_drewN | apply below_drew1 | refine below_set ?_ GE549.out) | exact HB.out)) hb); clear BK549; clear HB; have BK549 := n0_; have HB := n1_; clear n0_ n1_; (try clear hb); (try clear hb2); (try clear hk); (try clear hi); have hcz16_0 : w15.cell? ⟨gb549, 0, none⟩ = some (.int .i64 a0_0) := (blk_cell BK549.out 0).trans rfl; have hcz16_1 : w15.cell? ⟨gb549, 1, none⟩ = some (.int .i64 a0_1) := (blk_cell BK549.out 1).trans rfl; have hcz16_2 : w15.cell? ⟨gb549, 2, none⟩ = some (.int .i64 a0_2) := (blk_cell BK549.out 2).trans rfl; have hcz16_3 : w15.cell? ⟨gb549, 3, none⟩ = some (.slice A0_3 l0_3.length c0_3) := (blk_cell BK549.out 3).trans rfl; have hfz16_0 := blk_frozen BK549.out 0; have hfz16_1 := blk_frozen BK549.out 1; have hfz16_2 := blk_frozen BK549.out 2; have hfz16_3 := blk_frozen BK549.out 3) | ((with_reducible refine gate_callee (f := 17) rfl ?_); refine goesL_ (some 23) rfl rfl Try.func17 (by kernel_rfl) rfl #[.agg #[.int .i64 a0_0, .int .i64 a0_1, .int .i64 a0_2, .slice A0_3 l0_3.length c0_3]] rfl (by (try simp only [List.map_toArray, List.map_cons, List.map_nil]); first | done | rfl | (simp only [List.length_drop, List.length_take]; rfl)) ?_; (with_reducible refine (laws_toLine.calls k a0_0 a0_1 a0_2 _ _ l0_3 t551 t552 t553 t554 _ ?side1 ?side2 A8.out).mono ?_); (case side1 => repeat (first | exact (Kd.C_below HR0_3.out HB.out) | (with_reducible refine Kd.C_alloc ?_ _) | (with_reducible refine Kd.C_drewN ?_ _) | (with_reducible refine Kd.C_drew ?_))); (case side2 => exact HC0_3.out); rintro e w17 ⟨v555, rfl, ho0, hb⟩; refine ⟨_, rfl, ?_⟩; have n0_ := Aside0.mk (Kd.R_lower ho0 (below_size (by repeat (first | (with_reducible first | exact HB.out | apply below_alloc | apply pw_below_drewN | apply below_drew1 | refine below_set ?_ GE549.out) | exact HB.out)))); have n1_ := Aside0.mk (blk_below (g := gb549) (o := .cells #[.int .i64 a0_0, .int .i64 a0_1, .int .i64 a0_2, .slice A0_3 l0_3.length c0_3] 24 (0, 0)) (by (with_reducible repeat (first | refine blk_drewN ?_ _ | refine blk_drew ?_ | refine blk_alloc ?_ _)); exact BK549.out) hb); have n2_ := Aside0.mk (below_step (by repeat (first | (with_reducible first | exact HB.out | apply below_alloc | apply pw_below_drewN | apply below_drew1 | refine below_set ?_ GE549.out) | exact HB.out)) hb); clear BK549; clear HB; have HO556 := n0_; have BK549 := n1_; have HB := n2_; clear n0_ n1_ n2_; (try clear hb); (try clear hb2); (try clear hk); (try clear hi); (try clear ho0); obtain ⟨Ao18, co18, eo18⟩ := Kd.R_slice HO556.out; subst eo18) | ((with_reducible refine gate_callee (f := 38) rfl ?_); refine goesL_ (some 25) rfl rfl Try.func38 (by kernel_rfl) rfl #[.agg #[.int .i64 t551, .int .i64 t552, .int .i64 t553, .slice Ao18 t554.length co18], .int .i64 a1] rfl (by (try simp only [List.map_toArray, List.map_cons, List.map_nil]); first | done | rfl | (simp only [List.length_drop, List.length_take]; rfl)) ?_; (with_reducible refine (spec_DropBus.calls k t551 t552 t553 _ _ t554 a1 t557 t558 t559 t560 t563 _ ?side1 ?side2 A9.out).mono ?_); (case side1 => repeat (first | exact (Kd.R_reads' HO556.out).2.2 | (with_reducible refine Kd.C_alloc ?_ _) | (with_reducible refine Kd.C_drewN ?_ _) | (with_reducible refine Kd.C_drew ?_))); (case side2 => exact (Kd.R_reads' HO556.out).2.1); rintro e w19 ⟨v561, rfl, ho0, hb⟩; refine ⟨_, rfl, ?_⟩; have n0_ := Aside0.mk (Kd.R_elder' (by (with_reducible repeat (first | apply Kd.R_alloc | apply Kd.R_drewN | apply Kd.R_drew)); exact HO556.out) (Kd.R_base ho0) hb); have n1_ := Aside0.mk (Kd.R_lower (Kd.R_new' ho0 (Kd.R_lt (by (with_reducible repeat (first | apply Kd.R_alloc | apply Kd.R_drewN | apply Kd.R_drew)); exact HO556.out))) (below_size (by repeat (first | (with_reducible first | exact HB.out | apply below_alloc | apply pw_below_drewN | apply below_drew1 | refine below_set ?_ GE549.out) | exact HB.out)))); have n2_ := Aside0.mk (blk_below (g := gb549) (o := .cells #[.int .i64 a0_0, .int .i64 a0_1, .int .i64 a0_2, .slice A0_3 l0_3.length c0_3] 24 (0, 0)) (by (with_reducible repeat (first | refine blk_drewN ?_ _ | refine blk_drew ?_ | refine blk_alloc ?_ _)); exact BK549.out) hb); have n3_ := Aside0.mk (below_step (by repeat (first | (with_reducible first | exact HB.out | apply below_alloc | apply pw_below_drewN | apply below_drew1 | refine below_set ?_ GE549.out) | exact HB.out)) hb); clear HO556; clear BK549; clear HB; have HO556 := n0_; have HO562 := n1_; have BK549 := n2_; have HB := n3_; clear n0_ n1_ n2_ n3_; (try clear hb); (try clear hb2); (try clear hk); (try clear hi); (try clear ho0)) | ((with_reducible refine gate_dst (N := 6) rfl ?_); refine box_event ?hg (N := 6) ?hd (cs := #[.int .i64 0, .int .i64 0, .int .i64 0, .slice none 0 0]) (t := 28) ?hr ?_; (case hd => rfl); (case hg => rfl); (case hr => first | (go_simp; done) | (go_simp; rfl)); intro gb564 hg w20 hbox hb; have n0_ := Aside0.mk (Kd.R_below (by (with_reducible repeat (first | apply Kd.R_alloc | apply Kd.R_drewN | apply Kd.R_drew)); exact HO556.out) hb); have n1_ := Aside0.mk (Kd.R_below (by (with_reducible repeat (first | apply Kd.R_alloc | apply Kd.R_drewN | apply Kd.R_drew)); exact HO562.out) hb); have n2_ := Aside0.mk (blk_below (g := gb549) (o := .cells #[.int .i64 a0_0, .int .i64 a0_1, .int .i64 a0_2, .slice A0_3 l0_3.length c0_3] 24 (0, 0)) (by (with_reducible repeat (first | refine blk_drewN ?_ _ | refine blk_drew ?_ | refine blk_alloc ?_ _)); exact BK549.out) hb); have n3_ := Aside0.mk (below_step (by repeat (first | (with_reducible first | exact HB.out | apply below_alloc | apply pw_below_drewN | apply below_drew1 | refine below_set ?_ GE549.out) | exact HB.out)) hb); have n4_ := Aside0.mk (hbox); have n5_ := Aside0.mk ((by rw [hg]; exact (below_size (by repeat (first | (with_reducible first | exact HB.out | apply below_alloc | apply pw_below_drewN | apply below_drew1 | refine below_set ?_ GE549.out) | exact HB.out))) : w.heap.size ≤ gb564)); have n6_ := Aside0.mk ((by rw [hg]; exact (below_size (by repeat (first | (with_reducible first | exact HB.out | apply below_alloc | apply pw_below_drewN | apply below_drew1 | refine below_set ?_ GE549.out) | exact HB.out))) : w.heap.size ≤ gb564)); have n7_ := Aside0.mk ((by rw [hg]; exact Nat.ne_of_lt (blk_lt (g := gb549) (o := .cells #[.int .i64 a0_0, .int .i64 a0_1, .int .i64 a0_2, .slice A0_3 l0_3.length c0_3] 24 (0, 0)) (by (with_reducible repeat (first | refine blk_drewN ?_ _ | refine blk_drew ?_ | refine blk_alloc ?_ _)); exact BK549.out)) : gb549 ≠ gb564)); have n8_ := Aside0.mk ((by rw [hg]; exact Nat.ne_of_gt (blk_lt (g := gb549) (o := .cells #[.int .i64 a0_0, .int .i64 a0_1, .int .i64 a0_2, .slice A0_3 l0_3.length c0_3] 24 (0, 0)) (by (with_reducible repeat (first | refine blk_drewN ?_ _ | refine blk_drew ?_ | refine blk_alloc ?_ _)); exact BK549.out)) : gb564 ≠ gb549)); clear HO556; clear HO562; clear BK549; clear HB; have HO556 := n0_; have HO562 := n1_; have BK549 := n2_; have HB := n3_; have BK564 := n4_; have GW564 := n5_; have GE564 := n6_; have NB549_564 := n7_; have NB564_549 := n8_; clear n0_ n1_ n2_ n3_ n4_ n5_ n6_ n7_ n8_; clear hb hbox hg; have hnb21 := NB564_549.out; have hnc21 := NB549_564.out; have hcz22_0 : w20.cell? ⟨gb564, 0, none⟩ = some (.int .i64 0) := (blk_cell BK564.out 0).trans rfl; have hcz22_1 : w20.cell? ⟨gb564, 1, none⟩ = some (.int .i64 0) := (blk_cell BK564.out 1).trans rfl; have hcz22_2 : w20.cell? ⟨gb564, 2, none⟩ = some (.int .i64 0) := (blk_cell BK564.out 2).trans rfl; have hcz22_3 : w20.cell? ⟨gb564, 3, none⟩ = some (.slice none 0 0) := (blk_cell BK564.out 3).trans rfl; have hfz22_0 := blk_frozen BK564.out 0; have hfz22_1 := blk_frozen BK564.out 1; have hfz22_2 := blk_frozen BK564.out 2; have hfz22_3 := blk_frozen BK564.out 3; obtain ⟨Ao23, co23, eo23⟩ := Kd.R_slice HO562.out; subst eo23; have hcz24_0 : w20.cell? ⟨gb549, 0, none⟩ = some (.int .i64 a0_0) := (blk_cell BK549.out 0).trans rfl; have hcz24_1 : w20.cell? ⟨gb549, 1, none⟩ = some (.int .i64 a0_1) := (blk_cell BK549.out 1).trans rfl; have hcz24_2 : w20.cell? ⟨gb549, 2, none⟩ = some (.int .i64 a0_2) := (blk_cell BK549.out 2).trans rfl; have hcz24_3 : w20.cell? ⟨gb549, 3, none⟩ = some (.slice A0_3 l0_3.length c0_3) := (blk_cell BK549.out 3).trans rfl; have hfz24_0 := blk_frozen BK549.out 0; have hfz24_1 := blk_frozen BK549.out 1; have hfz24_2 := blk_frozen BK549.out 2; have hfz24_3 := blk_frozen BK549.out 3) | ((with_reducible refine gate_callee (f := 17) rfl ?_); refine goesL_ (some 29) rfl rfl Try.func17 (by kernel_rfl) rfl #[.agg #[.int .i64 a0_0, .int .i64 a0_1, .int .i64 a0_2, .slice A0_3 l0_3.length c0_3]] rfl (by (try simp only [List.map_toArray, List.map_cons, List.map_nil]); first | done | rfl | (simp only [List.length_drop, List.length_take]; rfl)) ?_; (with_reducible refine (laws_toLine.calls k a0_0 a0_1 a0_2 _ _ l0_3 t565 t566 t567 t568 _ ?side1 ?side2 A10.out).mono ?_); (case side1 => exact Kd.C_below HR0_3.out (by repeat (first | (with_reducible first | exact HB.out | apply below_alloc | apply pw_below_drewN | apply below_drew1 | refine below_set ?_ GE549.out | refine below_set ?_ GE564.out) | exact HB.out))); (case side2 => exact HC0_3.out); rintro e w25 ⟨v569, rfl, ho0, hb⟩; refine ⟨_, rfl, ?_⟩; have n0_ := Aside0.mk (Kd.R_elder' (by (with_reducible repeat (first | apply Kd.R_alloc | apply Kd.R_drewN | apply Kd.R_drew)); exact (Kd.R_mono (Kd.R_far (p := ⟨gb564, 3, none⟩) (Kd.R_far (p := ⟨gb564, 2, none⟩) (Kd.R_far (p := ⟨gb564, 1, none⟩) (Kd.R_far (p := ⟨gb564, 0, none⟩) (Kd.R_types HO556.out BK564.out (by decide)) (fun _ hk => hk.2) (.int .i64 t557)) (fun _ hk => hk.2) (.int .i64 t558)) (fun _ hk => hk.2) (.int .i64 t559)) (fun _ hk => hk.2) (.slice Ao23 t560.length co23)) (fun _ h_ => h_.1))) (Kd.R_base ho0) hb); have n1_ := Aside0.mk (Kd.R_elder' (by (with_reducible repeat (first | apply Kd.R_alloc | apply Kd.R_drewN | apply Kd.R_drew)); exact (Kd.R_mono (Kd.R_far (p := ⟨gb564, 3, none⟩) (Kd.R_far (p := ⟨gb564, 2, none⟩) (Kd.R_far (p := ⟨gb564, 1, none⟩) (Kd.R_far (p := ⟨gb564, 0, none⟩) (Kd.R_types HO562.out BK564.out (by decide)) (fun _ hk => hk.2) (.int .i64 t557)) (fun _ hk => hk.2) (.int .i64 t558)) (fun _ hk => hk.2) (.int .i64 t559)) (fun _ hk => hk.2) (.slice Ao23 t560.length co23)) (fun _ h_ => h_.1))) (Kd.R_base ho0) hb); have n2_ := Aside0.mk (Kd.R_lower (Kd.R_new' (Kd.R_new' ho0 (Kd.R_lt (by (with_reducible repeat (first | apply Kd.R_alloc | apply Kd.R_drewN | apply Kd.R_drew)); exact (Kd.R_mono (Kd.R_far (p := ⟨gb564, 3, none⟩) (Kd.R_far (p := ⟨gb564, 2, none⟩) (Kd.R_far (p := ⟨gb564, 1, none⟩) (Kd.R_far (p := ⟨gb564, 0, none⟩) (Kd.R_types HO556.out BK564.out (by decide)) (fun _ hk => hk.2) (.int .i64 t557)) (fun _ hk => hk.2) (.int .i64 t558)) (fun _ hk => hk.2) (.int .i64 t559)) (fun _ hk => hk.2) (.slice Ao23 t560.length co23)) (fun _ h_ => h_.1))))) (Kd.R_lt (by (with_reducible repeat (first | apply Kd.R_alloc | apply Kd.R_drewN | apply Kd.R_drew)); exact (Kd.R_mono (Kd.R_far (p := ⟨gb564, 3, none⟩) (Kd.R_far (p := ⟨gb564, 2, none⟩) (Kd.R_far (p := ⟨gb564, 1, none⟩) (Kd.R_far (p := ⟨gb564, 0, none⟩) (Kd.R_types HO562.out BK564.out (by decide)) (fun _ hk => hk.2) (.int .i64 t557)) (fun _ hk => hk.2) (.int .i64 t558)) (fun _ hk => hk.2) (.int .i64 t559)) (fun _ hk => hk.2) (.slice Ao23 t560.length co23)) (fun _ h_ => h_.1))))) (below_size (by repeat (first | (with_reducible first | exact HB.out | apply below_alloc | apply pw_below_drewN | apply below_drew1 | refine below_set ?_ GE549.out | refine below_set ?_ GE564.out) | exact HB.out)))); have n3_ := Aside0.mk (blk_below (g := gb549) (o := .cells #[.int .i64 a0_0, .int .i64 a0_1, .int .i64 a0_2, .slice A0_3 l0_3.length c0_3] 24 (0, 0)) (by (with_reducible repeat (first | refine blk_drewN ?_ _ | refine blk_drew ?_ | refine blk_alloc ?_ _)); refine blk_far ?_ NB549_564.out _; (with_reducible repeat (first | refine blk_drewN ?_ _ | refine blk_drew ?_ | refine blk_alloc ?_ _)); refine blk_far ?_ NB549_564.out _; (with_reducible repeat (first | refine blk_drewN ?_ _ | refine blk_drew ?_ | refine blk_alloc ?_ _)); refine blk_far ?_ NB549_564.out _; (with_reducible repeat (first | refine blk_drewN ?_ _ | refine blk_drew ?_ | refine blk_alloc ?_ _)); refine blk_far ?_ NB549_564.out _; (with_reducible repeat (first | refine blk_drewN ?_ _ | refine blk_drew ?_ | refine blk_alloc ?_ _)); exact BK549.out) hb); have n4_ := Aside0.mk (blk_below (g := gb564) (o := .cells #[.int .i64 t557, .int .i64 t558, .int .i64 t559, .slice Ao23 t560.length co23] 28 (0, 0)) (by (with_reducible repeat (first | refine blk_drewN ?_ _ | refine blk_drew ?_ | refine blk_alloc ?_ _)); refine blk_put (cs := #[.int .i64 t557, .int .i64 t558, .int .i64 t559, .slice none 0 0]) ?_ 3 _ rfl; (with_reducible repeat (first | refine blk_drewN ?_ _ | refine blk_drew ?_ | refine blk_alloc ?_ _)); refine blk_put (cs := #[.int .i64 t557, .int .i64 t558, .int .i64 0, .slice none 0 0]) ?_ 2 _ rfl; (with_reducible repeat (first | refine blk_drewN ?_ _ | refine blk_drew ?_ | refine blk_alloc ?_ _)); refine blk_put (cs := #[.int .i64 t557, .int .i64 0, .int .i64 0, .slice none 0 0]) ?_ 1 _ rfl; (with_reducible repeat (first | refine blk_drewN ?_ _ | refine blk_drew ?_ | refine blk_alloc ?_ _)); refine blk_put (cs := #[.int .i64 0, .int .i64 0, .int .i64 0, .slice none 0 0]) ?_ 0 _ rfl; (with_reducible repeat (first | refine blk_drewN ?_ _ | refine blk_drew ?_ | refine blk_alloc ?_ _)); exact BK564.out) hb); have n5_ := Aside0.mk (below_step (by repeat (first | (with_reducible first | exact HB.out | apply below_alloc | apply pw_below_drewN | apply below_drew1 | refine below_set ?_ GE549.out | refine below_set ?_ GE564.out) | exact HB.out)) hb); clear HO556; clear HO562; clear BK549; clear BK564; clear HB; have HO556 := n0_; have HO562 := n1_; have HO570 := n2_; have BK549 := n3_; have BK564 := n4_; have HB := n5_; clear n0_ n1_ n2_ n3_ n4_ n5_; (try clear hb); (try clear hb2); (try clear hk); (try clear hi); (try clear ho0)) | ((with_reducible refine gate_dst (N := 8) rfl ?_); refine box_event ?hg (N := 8) ?hd (cs := #[.int .i64 0, .int .i64 0, .int .i64 0, .slice none 0 0]) (t := 28) ?hr ?_; (case hd => rfl); (case hg => rfl); (case hr => first | (go_simp; done) | (go_simp; rfl)); intro gb571 hg w26 hbox hb; have n0_ := Aside0.mk (Kd.R_below (by (with_reducible repeat (first | apply Kd.R_alloc | apply Kd.R_drewN | apply Kd.R_drew)); exact HO556.out) hb); have n1_ := Aside0.mk (Kd.R_below (by (with_reducible repeat (first | apply Kd.R_alloc | apply Kd.R_drewN | apply Kd.R_drew)); exact HO562.out) hb); have n2_ := Aside0.mk (Kd.R_below (by (with_reducible repeat (first | apply Kd.R_alloc | apply Kd.R_drewN | apply Kd.R_drew)); exact HO570.out) hb); have n3_ := Aside0.mk (blk_below (g := gb549) (o := .cells #[.int .i64 a0_0, .int .i64 a0_1, .int .i64 a0_2, .slice A0_3 l0_3.length c0_3] 24 (0, 0)) (by (with_reducible repeat (first | refine blk_drewN ?_ _ | refine blk_drew ?_ | refine blk_alloc ?_ _)); exact BK549.out) hb); have n4_ := Aside0.mk (blk_below (g := gb564) (o := .cells #[.int .i64 t557, .int .i64 t558, .int .i64 t559, .slice Ao23 t560.length co23] 28 (0, 0)) (by (with_reducible repeat (first | refine blk_drewN ?_ _ | refine blk_drew ?_ | refine blk_alloc ?_ _)); exact BK564.out) hb); have n5_ := Aside0.mk (below_step (by repeat (first | (with_reducible first | exact HB.out | apply below_alloc | apply pw_below_drewN | apply below_drew1 | refine below_set ?_ GE549.out | refine below_set ?_ GE564.out) | exact HB.out)) hb); have n6_ := Aside0.mk (hbox); have n7_ := Aside0.mk ((by rw [hg]; exact (below_size (by repeat (first | (with_reducible first | exact HB.out | apply below_alloc | apply pw_below_drewN | apply below_drew1 | refine below_set ?_ GE549.out | refine below_set ?_ GE564.out) | exact HB.out))) : w.heap.size ≤ gb571)); have n8_ := Aside0.mk ((by rw [hg]; exact (below_size (by repeat (first | (with_reducible first | exact HB.out | apply below_alloc | apply pw_below_drewN | apply below_drew1 | refine below_set ?_ GE549.out | refine below_set ?_ GE564.out) | exact HB.out))) : w.heap.size ≤ gb571)); have n9_ := Aside0.mk ((by rw [hg]; exact Nat.ne_of_lt (blk_lt (g := gb549) (o := .cells #[.int .i64 a0_0, .int .i64 a0_1, .int .i64 a0_2, .slice A0_3 l0_3.length c0_3] 24 (0, 0)) (by (with_reducible repeat (first | refine blk_drewN ?_ _ | refine blk_drew ?_ | refine blk_alloc ?_ _)); exact BK549.out)) : gb549 ≠ gb571)); have n10_ := Aside0.mk ((by rw [hg]; exact Nat.ne_of_gt (blk_lt (g := gb549) (o := .cells #[.int .i64 a0_0, .int .i64 a0_1, .int .i64 a0_2, .slice A0_3 l0_3.length c0_3] 24 (0, 0)) (by (with_reducible repeat (first | refine blk_drewN ?_ _ | refine blk_drew ?_ | refine blk_alloc ?_ _)); exact BK549.out)) : gb571 ≠ gb549)); have n11_ := Aside0.mk ((by rw [hg]; exact Nat.ne_of_lt (blk_lt (g := gb564) (o := .cells #[.int .i64 t557, .int .i64 t558, .int .i64 t559, .slice Ao23 t560.length co23] 28 (0, 0)) (by (with_reducible repeat (first | refine blk_drewN ?_ _ | refine blk_drew ?_ | refine blk_alloc ?_ _)); exact BK564.out)) : gb564 ≠ gb571)); have n12_ := Aside0.mk ((by rw [hg]; exact Nat.ne_of_gt (blk_lt (g := gb564) (o := .cells #[.int .i64 t557, .int .i64 t558, .int .i64 t559, .slice Ao23 t560.length co23] 28 (0, 0)) (by (with_reducible repeat (first | refine blk_drewN ?_ _ | refine blk_drew ?_ | refine blk_alloc ?_ _)); exact BK564.out)) : gb571 ≠ gb564)); clear HO556; clear HO562; clear HO570; clear BK549; clear BK564; clear HB; have HO556 := n0_; have HO562 := n1_; have HO570 := n2_; have BK549 := n3_; have BK564 := n4_; have HB := n5_; have BK571 := n6_; have GW571 := n7_; have GE571 := n8_; have NB549_571 := n9_; have NB571_549 := n10_; have NB564_571 := n11_; have NB571_564 := n12_; clear n0_ n1_ n2_ n3_ n4_ n5_ n6_ n7_ n8_ n9_ n10_ n11_ n12_; clear hb hbox hg; have hnb27 := NB571_549.out; have hnc27 := NB549_571.out; have hnb28 := NB571_564.out; have hnc28 := NB564_571.out; have hcz29_0 : w26.cell? ⟨gb571, 0, none⟩ = some (.int .i64 0) := (blk_cell BK571.out 0).trans rfl; have hcz29_1 : w26.cell? ⟨gb571, 1, none⟩ = some (.int .i64 0) := (blk_cell BK571.out 1).trans rfl; have hcz29_2 : w26.cell? ⟨gb571, 2, none⟩ = some (.int .i64 0) := (blk_cell BK571.out 2).trans rfl; have hcz29_3 : w26.cell? ⟨gb571, 3, none⟩ = some (.slice none 0 0) := (blk_cell BK571.out 3).trans rfl; have hfz29_0 := blk_frozen BK571.out 0; have hfz29_1 := blk_frozen BK571.out 1; have hfz29_2 := blk_frozen BK571.out 2; have hfz29_3 := blk_frozen BK571.out 3; obtain ⟨Ao30, co30, eo30⟩ := Kd.R_slice HO570.out; subst eo30) | ((with_reducible refine gate_callee (f := 39) rfl ?_); refine goesL_ (some 33) rfl rfl Try.func39 (by kernel_rfl) rfl #[.agg #[.int .i64 t565, .int .i64 t566, .int .i64 t567, .slice Ao30 t568.length co30], .int .i64 a1] rfl (by (try simp only [List.map_toArray, List.map_cons, List.map_nil]); first | done | rfl | (simp only [List.length_drop, List.length_take]; rfl)) ?_; (with_reducible refine (impl_DropBus.calls k t565 t566 t567 _ _ t568 a1 t572 t573 t574 t575 t578 _ ?side1 ?side2 A11.out).mono ?_); (case side1 => refine (Kd.R_reads' (e := 3) (base := w.heap.size) (ok := fun k_ => ((True ∧ some k_ ≠ (.slice Ao18 t554.length co18 : Value).ownBlock) ∧ some k_ ≠ (.slice Ao23 t560.length co23 : Value).ownBlock)) (n := t568.length) (c := co30) ?_).2.2; exact (by (with_reducible repeat (first | apply Kd.R_alloc | apply Kd.R_drewN | apply Kd.R_drew)); exact (Kd.R_mono (Kd.R_far (p := ⟨gb571, 3, none⟩) (Kd.R_far (p := ⟨gb571, 2, none⟩) (Kd.R_far (p := ⟨gb571, 1, none⟩) (Kd.R_far (p := ⟨gb571, 0, none⟩) (Kd.R_types HO570.out BK571.out (by decide)) (fun _ hk => hk.2) (.int .i64 t565)) (fun _ hk => hk.2) (.int .i64 t566)) (fun _ hk => hk.2) (.int .i64 t567)) (fun _ hk => hk.2) (.slice Ao30 t568.length co30)) (fun _ h_ => h_.1)))); (case side2 => exact (Kd.R_reads' HO570.out).2.1); rintro e w31 ⟨v576, rfl, ho0, hb⟩; refine ⟨_, rfl, ?_⟩; have n0_ := Aside0.mk (Kd.R_elder' (by (with_reducible repeat (first | apply Kd.R_alloc | apply Kd.R_drewN | apply Kd.R_drew)); exact (Kd.R_mono (Kd.R_far (p := ⟨gb571, 3, none⟩) (Kd.R_far (p := ⟨gb571, 2, none⟩) (Kd.R_far (p := ⟨gb571, 1, none⟩) (Kd.R_far (p := ⟨gb571, 0, none⟩) (Kd.R_types HO556.out BK571.out (by decide)) (fun _ hk => hk.2) (.int .i64 t565)) (fun _ hk => hk.2) (.int .i64 t566)) (fun _ hk => hk.2) (.int .i64 t567)) (fun _ hk => hk.2) (.slice Ao30 t568.length co30)) (fun _ h_ => h_.1))) (Kd.R_base ho0) hb); have n1_ := Aside0.mk (Kd.R_elder' (by (with_reducible repeat (first | apply Kd.R_alloc | apply Kd.R_drewN | apply Kd.R_drew)); exact (Kd.R_mono (Kd.R_far (p := ⟨gb571, 3, none⟩) (Kd.R_far (p := ⟨gb571, 2, none⟩) (Kd.R_far (p := ⟨gb571, 1, none⟩) (Kd.R_far (p := ⟨gb571, 0, none⟩) (Kd.R_types HO562.out BK571.out (by decide)) (fun _ hk => hk.2) (.int .i64 t565)) (fun _ hk => hk.2) (.int .i64 t566)) (fun _ hk => hk.2) (.int .i64 t567)) (fun _ hk => hk.2) (.slice Ao30 t568.length co30)) (fun _ h_ => h_.1))) (Kd.R_base ho0) hb); have n2_ := Aside0.mk (Kd.R_elder' (by (with_reducible repeat (first | apply Kd.R_alloc | apply Kd.R_drewN | apply Kd.R_drew)); exact (Kd.R_mono (Kd.R_far (p := ⟨gb571, 3, none⟩) (Kd.R_far (p := ⟨gb571, 2, none⟩) (Kd.R_far (p := ⟨gb571, 1, none⟩) (Kd.R_far (p := ⟨gb571, 0, none⟩) (Kd.R_types HO570.out BK571.out (by decide)) (fun _ hk => hk.2) (.int .i64 t565)) (fun _ hk => hk.2) (.int .i64 t566)) (fun _ hk => hk.2) (.int .i64 t567)) (fun _ hk => hk.2) (.slice Ao30 t568.length co30)) (fun _ h_ => h_.1))) (Kd.R_base ho0) hb); have n3_ := Aside0.mk (Kd.R_lower (Kd.R_new' (Kd.R_new' (Kd.R_new' ho0 (Kd.R_lt (by (with_reducible repeat (first | apply Kd.R_alloc | apply Kd.R_drewN | apply Kd.R_drew)); exact (Kd.R_mono (Kd.R_far (p := ⟨gb571, 3, none⟩) (Kd.R_far (p := ⟨gb571, 2, none⟩) (Kd.R_far (p := ⟨gb571, 1, none⟩) (Kd.R_far (p := ⟨gb571, 0, none⟩) (Kd.R_types HO556.out BK571.out (by decide)) (fun _ hk => hk.2) (.int .i64 t565)) (fun _ hk => hk.2) (.int .i64 t566)) (fun _ hk => hk.2) (.int .i64 t567)) (fun _ hk => hk.2) (.slice Ao30 t568.length co30)) (fun _ h_ => h_.1))))) (Kd.R_lt (by (with_reducible repeat (first | apply Kd.R_alloc | apply Kd.R_drewN | apply Kd.R_drew)); exact (Kd.R_mono (Kd.R_far (p := ⟨gb571, 3, none⟩) (Kd.R_far (p := ⟨gb571, 2, none⟩) (Kd.R_far (p := ⟨gb571, 1, none⟩) (Kd.R_far (p := ⟨gb571, 0, none⟩) (Kd.R_types HO562.out BK571.out (by decide)) (fun _ hk => hk.2) (.int .i64 t565)) (fun _ hk => hk.2) (.int .i64 t566)) (fun _ hk => hk.2) (.int .i64 t567)) (fun _ hk => hk.2) (.slice Ao30 t568.length co30)) (fun _ h_ => h_.1))))) (Kd.R_lt (by (with_reducible repeat (first | apply Kd.R_alloc | apply Kd.R_drewN | apply Kd.R_drew)); exact (Kd.R_mono (Kd.R_far (p := ⟨gb571, 3, none⟩) (Kd.R_far (p := ⟨gb571, 2, none⟩) (Kd.R_far (p := ⟨gb571, 1, none⟩) (Kd.R_far (p := ⟨gb571, 0, none⟩) (Kd.R_types HO570.out BK571.out (by decide)) (fun _ hk => hk.2) (.int .i64 t565)) (fun _ hk => hk.2) (.int .i64 t566)) (fun _ hk => hk.2) (.int .i64 t567)) (fun _ hk => hk.2) (.slice Ao30 t568.length co30)) (fun _ h_ => h_.1))))) (below_size (by repeat (first | (with_reducible first | exact HB.out | apply below_alloc | apply pw_below_drewN | apply below_drew1 | refine below_set ?_ GE549.out | refine below_set ?_ GE564.out | refine below_set ?_ GE571.out) | exact HB.out)))); have n4_ := Aside0.mk (blk_below (g := gb549) (o := .cells #[.int .i64 a0_0, .int .i64 a0_1, .int .i64 a0_2, .slice A0_3 l0_3.length c0_3] 24 (0, 0)) (by (with_reducible repeat (first | refine blk_drewN ?_ _ | refine blk_drew ?_ | refine blk_alloc ?_ _)); refine blk_far ?_ NB549_571.out _; (with_reducible repeat (first | refine blk_drewN ?_ _ | refine blk_drew ?_ | refine blk_alloc ?_ _)); refine blk_far ?_ NB549_571.out _; (with_reducible repeat (first | refine blk_drewN ?_ _ | refine blk_drew ?_ | refine blk_alloc ?_ _)); refine blk_far ?_ NB549_571.out _; (with_reducible repeat (first | refine blk_drewN ?_ _ | refine blk_drew ?_ | refine blk_alloc ?_ _)); refine blk_far ?_ NB549_571.out _; (with_reducible repeat (first | refine blk_drewN ?_ _ | refine blk_drew ?_ | refine blk_alloc ?_ _)); exact BK549.out) hb); have n5_ := Aside0.mk (blk_below (g := gb564) (o := .cells #[.int .i64 t557, .int .i64 t558, .int .i64 t559, .slice Ao23 t560.length co23] 28 (0, 0)) (by (with_reducible repeat (first | refine blk_drewN ?_ _ | refine blk_drew ?_ | refine blk_alloc ?_ _)); refine blk_far ?_ NB564_571.out _; (with_reducible repeat (first | refine blk_drewN ?_ _ | refine blk_drew ?_ | refine blk_alloc ?_ _)); refine blk_far ?_ NB564_571.out _; (with_reducible repeat (first | refine blk_drewN ?_ _ | refine blk_drew ?_ | refine blk_alloc ?_ _)); refine blk_far ?_ NB564_571.out _; (with_reducible repeat (first | refine blk_drewN ?_ _ | refine blk_drew ?_ | refine blk_alloc ?_ _)); refine blk_far ?_ NB564_571.out _; (with_reducible repeat (first | refine blk_drewN ?_ _ | refine blk_drew ?_ | refine blk_alloc ?_ _)); exact BK564.out) hb); have n6_ := Aside0.mk (blk_below (g := gb571) (o := .cells #[.int .i64 t565, .int .i64 t566, .int .i64 t567, .slice Ao30 t568.length co30] 28 (0, 0)) (by (with_reducible repeat (first | refine blk_drewN ?_ _ | refine blk_drew ?_ | refine blk_alloc ?_ _)); refine blk_put (cs := #[.int .i64 t565, .int .i64 t566, .int .i64 t567, .slice none 0 0]) ?_ 3 _ rfl; (with_reducible repeat (first | refine blk_drewN ?_ _ | refine blk_drew ?_ | refine blk_alloc ?_ _)); refine blk_put (cs := #[.int .i64 t565, .int .i64 t566, .int .i64 0, .slice none 0 0]) ?_ 2 _ rfl; (with_reducible repeat (first | refine blk_drewN ?_ _ | refine blk_drew ?_ | refine blk_alloc ?_ _)); refine blk_put (cs := #[.int .i64 t565, .int .i64 0, .int .i64 0, .slice none 0 0]) ?_ 1 _ rfl; (with_reducible repeat (first | refine blk_drewN ?_ _ | refine blk_drew ?_ | refine blk_alloc ?_ _)); refine blk_put (cs := #[.int .i64 0, .int .i64 0, .int .i64 0, .slice none 0 0]) ?_ 0 _ rfl; (with_reducible repeat (first | refine blk_drewN ?_ _ | refine blk_drew ?_ | refine blk_alloc ?_ _)); exact BK571.out) hb); have n7_ := Aside0.mk (below_step (by repeat (first | (with_reducible first | exact HB.out | apply below_alloc | apply pw_below_drewN | apply below_drew1 | refine below_set ?_ GE549.out | refine below_set ?_ GE564.out | refine below_set ?_ GE571.out) | exact HB.out)) hb); clear HO556; clear HO562; clear HO570; clear BK549; clear BK564; clear BK571; clear HB; have HO556 := n0_; have HO562 := n1_; have HO570 := n2_; have HO577 := n3_; have BK549 := n4_; have BK564 := n5_; have BK571 := n6_; have HB := n7_; clear n0_ n1_ n2_ n3_ n4_ n5_ n6_ n7_; (try clear hb); (try clear hb2); (try clear hk); (try clear hi); (try clear ho0)) | ((with_reducible refine gate_dst (N := 9) rfl ?_); refine box_event ?hg (N := 9) ?hd (cs := #[.int .i64 0, .int .i64 0, .int .i64 0, .slice none 0 0]) (t := 28) ?hr ?_; (case hd => rfl); (case hg => rfl); (case hr => first | (go_simp; done) | (go_simp; rfl)); intro gb579 hg w32 hbox hb; have n0_ := Aside0.mk (Kd.R_below (by (with_reducible repeat (first | apply Kd.R_alloc | apply Kd.R_drewN | apply Kd.R_drew)); exact HO556.out) hb); have n1_ := Aside0.mk (Kd.R_below (by (with_reducible repeat (first | apply Kd.R_alloc | apply Kd.R_drewN | apply Kd.R_drew)); exact HO562.out) hb); have n2_ := Aside0.mk (Kd.R_below (by (with_reducible repeat (first | apply Kd.R_alloc | apply Kd.R_drewN | apply Kd.R_drew)); exact HO570.out) hb); have n3_ := Aside0.mk (Kd.R_below (by (with_reducible repeat (first | apply Kd.R_alloc | apply Kd.R_drewN | apply Kd.R_drew)); exact HO577.out) hb); have n4_ := Aside0.mk (blk_below (g := gb549) (o := .cells #[.int .i64 a0_0, .int .i64 a0_1, .int .i64 a0_2, .slice A0_3 l0_3.length c0_3] 24 (0, 0)) (by (with_reducible repeat (first | refine blk_drewN ?_ _ | refine blk_drew ?_ | refine blk_alloc ?_ _)); exact BK549.out) hb); have n5_ := Aside0.mk (blk_below (g := gb564) (o := .cells #[.int .i64 t557, .int .i64 t558, .int .i64 t559, .slice Ao23 t560.length co23] 28 (0, 0)) (by (with_reducible repeat (first | refine blk_drewN ?_ _ | refine blk_drew ?_ | refine blk_alloc ?_ _)); exact BK564.out) hb); have n6_ := Aside0.mk (blk_below (g := gb571) (o := .cells #[.int .i64 t565, .int .i64 t566, .int .i64 t567, .slice Ao30 t568.length co30] 28 (0, 0)) (by (with_reducible repeat (first | refine blk_drewN ?_ _ | refine blk_drew ?_ | refine blk_alloc ?_ _)); exact BK571.out) hb); have n7_ := Aside0.mk (below_step (by repeat (first | (with_reducible first | exact HB.out | apply below_alloc | apply pw_below_drewN | apply below_drew1 | refine below_set ?_ GE549.out | refine below_set ?_ GE564.out | refine below_set ?_ GE571.out) | exact HB.out)) hb); have n8_ := Aside0.mk (hbox); have n9_ := Aside0.mk ((by rw [hg]; exact (below_size (by repeat (first | (with_reducible first | exact HB.out | apply below_alloc | apply pw_below_drewN | apply below_drew1 | refine below_set ?_ GE549.out | refine below_set ?_ GE564.out | refine below_set ?_ GE571.out) | exact HB.out))) : w.heap.size ≤ gb579)); have n10_ := Aside0.mk ((by rw [hg]; exact (below_size (by repeat (first | (with_reducible first | exact HB.out | apply below_alloc | apply pw_below_drewN | apply below_drew1 | refine below_set ?_ GE549.out | refine below_set ?_ GE564.out | refine below_set ?_ GE571.out) | exact HB.out))) : w.heap.size ≤ gb579)); have n11_ := Aside0.mk ((by rw [hg]; exact Nat.ne_of_lt (blk_lt (g := gb549) (o := .cells #[.int .i64 a0_0, .int .i64 a0_1, .int .i64 a0_2, .slice A0_3 l0_3.length c0_3] 24 (0, 0)) (by (with_reducible repeat (first | refine blk_drewN ?_ _ | refine blk_drew ?_ | refine blk_alloc ?_ _)); exact BK549.out)) : gb549 ≠ gb579)); have n12_ := Aside0.mk ((by rw [hg]; exact Nat.ne_of_gt (blk_lt (g := gb549) (o := .cells #[.int .i64 a0_0, .int .i64 a0_1, .int .i64 a0_2, .slice A0_3 l0_3.length c0_3] 24 (0, 0)) (by (with_reducible repeat (first | refine blk_drewN ?_ _ | refine blk_drew ?_ | refine blk_alloc ?_ _)); exact BK549.out)) : gb579 ≠ gb549)); have n13_ := Aside0.mk ((by rw [hg]; exact Nat.ne_of_lt (blk_lt (g := gb564) (o := .cells #[.int .i64 t557, .int .i64 t558, .int .i64 t559, .slice Ao23 t560.length co23] 28 (0, 0)) (by (with_reducible repeat (first | refine blk_drewN ?_ _ | refine blk_drew ?_ | refine blk_alloc ?_ _)); exact BK564.out)) : gb564 ≠ gb579)); have n14_ := Aside0.mk ((by rw [hg]; exact Nat.ne_of_gt (blk_lt (g := gb564) (o := .cells #[.int .i64 t557, .int .i64 t558, .int .i64 t559, .slice Ao23 t560.length co23] 28 (0, 0)) (by (with_reducible repeat (first | refine blk_drewN ?_ _ | refine blk_drew ?_ | refine blk_alloc ?_ _)); exact BK564.out)) : gb579 ≠ gb564)); have n15_ := Aside0.mk ((by rw [hg]; exact Nat.ne_of_lt (blk_lt (g := gb571) (o := .cells #[.int .i64 t565, .int .i64 t566, .int .i64 t567, .slice Ao30 t568.length co30] 28 (0, 0)) (by (with_reducible repeat (first | refine blk_drewN ?_ _ | refine blk_drew ?_ | refine blk_alloc ?_ _)); exact BK571.out)) : gb571 ≠ gb579)); have n16_ := Aside0.mk ((by rw [hg]; exact Nat.ne_of_gt (blk_lt (g := gb571) (o := .cells #[.int .i64 t565, .int .i64 t566, .int .i64 t567, .slice Ao30 t568.length co30] 28 (0, 0)) (by (with_reducible repeat (first | refine blk_drewN ?_ _ | refine blk_drew ?_ | refine blk_alloc ?_ _)); exact BK571.out)) : gb579 ≠ gb571)); clear HO556; clear HO562; clear HO570; clear HO577; clear BK549; clear BK564; clear BK571; clear HB; have HO556 := n0_; have HO562 := n1_; have HO570 := n2_; have HO577 := n3_; have BK549 := n4_; have BK564 := n5_; have BK571 := n6_; have HB := n7_; have BK579 := n8_; have GW579 := n9_; have GE579 := n10_; have NB549_579 := n11_; have NB579_549 := n12_; have NB564_579 := n13_; have NB579_564 := n14_; have NB571_579 := n15_; have NB579_571 := n16_; clear n0_ n1_ n2_ n3_ n4_ n5_ n6_ n7_ n8_ n9_ n10_ n11_ n12_ n13_ n14_ n15_ n16_; clear hb hbox hg; have hnb33 := NB579_549.out; have hnc33 := NB549_579.out; have hnb34 := NB579_564.out; have hnc34 := NB564_579.out; have hnb35 := NB579_571.out; have hnc35 := NB571_579.out; have hcz36_0 : w32.cell? ⟨gb579, 0, none⟩ = some (.int .i64 0) := (blk_cell BK579.out 0).trans rfl; have hcz36_1 : w32.cell? ⟨gb579, 1, none⟩ = some (.int .i64 0) := (blk_cell BK579.out 1).trans rfl; have hcz36_2 : w32.cell? ⟨gb579, 2, none⟩ = some (.int .i64 0) := (blk_cell BK579.out 2).trans rfl; have hcz36_3 : w32.cell? ⟨gb579, 3, none⟩ = some (.slice none 0 0) := (blk_cell BK579.out 3).trans rfl; have hfz36_0 := blk_frozen BK579.out 0; have hfz36_1 := blk_frozen BK579.out 1; have hfz36_2 := blk_frozen BK579.out 2; have hfz36_3 := blk_frozen BK579.out 3; obtain ⟨Ao37, co37, eo37⟩ := Kd.R_slice HO577.out; subst eo37))
    (try simp only [Act.put, List.setIfInBounds_toArray, List.set_cons_zero, List.set_cons_succ])
    go_cut [44] (fun v44 wc => ∃ (kq : Nat) (x44_11 : Bool), v44 = .bool x44_11 ∧ Aside0 (laws_FnExactDropBus.j0 kq a1 t563 t578 x44_11 a0_0 a0_1 a0_2 l0_3 t557 t558 t559 t560 t565 t566 t567 t568 t572 t573 t574 t575 = some r) ∧ Aside0 (kq ≤ k) ∧ Aside0 (Kd.R (Kd.int .i64) 3 wc w.heap.size (fun k_ => some k_ ≠ ((.slice Ao30 t568.length co30) : Value).ownBlock ∧ some k_ ≠ ((.slice Ao37 t575.length co37) : Value).ownBlock) (.slice Ao23 t560.length co23) t560) ∧ Aside0 (Kd.R (Kd.int .i64) 3 wc w.heap.size (fun k_ => some k_ ≠ ((.slice Ao23 t560.length co23) : Value).ownBlock ∧ some k_ ≠ ((.slice Ao37 t575.length co37) : Value).ownBlock) (.slice Ao30 t568.length co30) t568) ∧ Aside0 (Kd.R (Kd.int .i64) 3 wc w.heap.size (fun k_ => some k_ ≠ ((.slice Ao23 t560.length co23) : Value).ownBlock ∧ some k_ ≠ ((.slice Ao30 t568.length co30) : Value).ownBlock) (.slice Ao37 t575.length co37) t575) ∧ Aside0 (wc.heap[gb549]? = some (.cells #[.int .i64 a0_0, .int .i64 a0_1, .int .i64 a0_2, (.slice A0_3 l0_3.length c0_3)] 24 (0, 0))) ∧ Aside0 (wc.heap[gb564]? = some (.cells #[.int .i64 t557, .int .i64 t558, .int .i64 t559, (.slice Ao23 t560.length co23)] 28 (0, 0))) ∧ Aside0 (wc.heap[gb571]? = some (.cells #[.int .i64 t565, .int .i64 t566, .int .i64 t567, (.slice Ao30 t568.length co30)] 28 (0, 0))) ∧ Aside0 (wc.heap[gb579]? = some (.cells #[.int .i64 t572, .int .i64 t573, .int .i64 t574, (.slice Ao37 t575.length co37)] 28 (0, 0))) ∧ Aside0 (Below w.heap.size w wc))
    case first =>
      have H := HC12.out
      clear HC12
      replace H := Option.bind_eq_some_iff.mp H
      obtain ⟨t580, A380, H⟩ := H
      replace H : (if t580 = true then (laws_FnExactDropBus.j0 k a1 t563 t578 (t578 != t563) a0_0 a0_1 a0_2 l0_3 t557 t558 t559 t560 t565 t566 t567 t568 t572 t573 t574 t575) else (laws_FnExactDropBus.j0 k a1 t563 t578 true a0_0 a0_1 a0_2 l0_3 t557 t558 t559 t560 t565 t566 t567 t568 t572 t573 t574 t575)) = some r := H
      have A38 := Aside0.mk A380
      clear A380
      by_cases c39 : t580 = true
      · subst c39
        have H1 : (laws_FnExactDropBus.j0 k a1 t563 t578 (t578 != t563) a0_0 a0_1 a0_2 l0_3 t557 t558 t559 t560 t565 t566 t567 t568 t572 t573 t574 t575) = some r := by rw [if_pos rfl] at H; exact H
        clear H
        have H := H1
        clear H1
        have H' := Aside0.mk H
        clear H
        have hnb40 := NB579_549.out
        have hnc40 := NB549_579.out
        have hnb41 := NB579_564.out
        have hnc41 := NB564_579.out
        have hnb42 := NB579_571.out
        have hnc42 := NB571_579.out
        have hcz43_0 : w32.cell? ⟨gb579, 0, none⟩ = some (.int .i64 0) := (blk_cell BK579.out 0).trans rfl
        have hcz43_1 : w32.cell? ⟨gb579, 1, none⟩ = some (.int .i64 0) := (blk_cell BK579.out 1).trans rfl
        have hcz43_2 : w32.cell? ⟨gb579, 2, none⟩ = some (.int .i64 0) := (blk_cell BK579.out 2).trans rfl
        have hcz43_3 : w32.cell? ⟨gb579, 3, none⟩ = some (.slice none 0 0) := (blk_cell BK579.out 3).trans rfl
        have hfz43_0 := blk_frozen BK579.out 0
        have hfz43_1 := blk_frozen BK579.out 1
        have hfz43_2 := blk_frozen BK579.out 2
        have hfz43_3 := blk_frozen BK579.out 3
        have hnb44 := NB564_549.out
        have hnc44 := NB549_564.out
        have hnb45 := NB564_571.out
        have hnc45 := NB571_564.out
        have hcz46_0 : w32.cell? ⟨gb564, 0, none⟩ = some (.int .i64 t557) := (blk_cell BK564.out 0).trans rfl
        have hcz46_1 : w32.cell? ⟨gb564, 1, none⟩ = some (.int .i64 t558) := (blk_cell BK564.out 1).trans rfl
        have hcz46_2 : w32.cell? ⟨gb564, 2, none⟩ = some (.int .i64 t559) := (blk_cell BK564.out 2).trans rfl
        have hcz46_3 : w32.cell? ⟨gb564, 3, none⟩ = some (.slice Ao23 t560.length co23) := (blk_cell BK564.out 3).trans rfl
        have hfz46_0 := blk_frozen BK564.out 0
        have hfz46_1 := blk_frozen BK564.out 1
        have hfz46_2 := blk_frozen BK564.out 2
        have hfz46_3 := blk_frozen BK564.out 3
        go_wp2_with (first | ((with_reducible refine gate_callee (f := 19) rfl ?_); refine goesL_ (some 38) rfl rfl Try.func19 (by kernel_rfl) rfl #[.agg #[.int .i64 t572, .int .i64 t573, .int .i64 t574, .slice Ao37 t575.length co37], .agg #[.int .i64 t557, .int .i64 t558, .int .i64 t559, .slice Ao23 t560.length co23]] rfl (by (try simp only [List.map_toArray, List.map_cons, List.map_nil]); first | done | rfl | (simp only [List.length_drop, List.length_take]; rfl)) ?_; (with_reducible refine (laws_eqLine.calls k t572 t573 t574 _ _ t575 t557 t558 t559 _ _ t560 true _ ?side1 ?side2 ?side3 ?side4 A38.out).mono ?_); (case side1 => refine (Kd.R_reads' (e := 3) (base := w.heap.size) (ok := fun k_ => (((True ∧ some k_ ≠ (.slice Ao18 t554.length co18 : Value).ownBlock) ∧ some k_ ≠ (.slice Ao23 t560.length co23 : Value).ownBlock) ∧ some k_ ≠ (.slice Ao30 t568.length co30 : Value).ownBlock)) (n := t575.length) (c := co37) ?_).2.2; exact (by (with_reducible repeat (first | apply Kd.R_alloc | apply Kd.R_drewN | apply Kd.R_drew)); exact (Kd.R_mono (Kd.R_far (p := ⟨gb579, 3, none⟩) (Kd.R_far (p := ⟨gb579, 2, none⟩) (Kd.R_far (p := ⟨gb579, 1, none⟩) (Kd.R_far (p := ⟨gb579, 0, none⟩) (Kd.R_types HO577.out BK579.out (by decide)) (fun _ hk => hk.2) (.int .i64 t572)) (fun _ hk => hk.2) (.int .i64 t573)) (fun _ hk => hk.2) (.int .i64 t574)) (fun _ hk => hk.2) (.slice Ao37 t575.length co37)) (fun _ h_ => h_.1)))); (case side2 => exact (Kd.R_reads' HO577.out).2.1); (case side3 => refine (Kd.R_reads' (e := 3) (base := w.heap.size) (ok := fun k_ => (((True ∧ some k_ ≠ (.slice Ao18 t554.length co18 : Value).ownBlock) ∧ some k_ ≠ (.slice Ao30 t568.length co30 : Value).ownBlock) ∧ some k_ ≠ (.slice Ao37 t575.length co37 : Value).ownBlock)) (n := t560.length) (c := co23) ?_).2.2; exact (by (with_reducible repeat (first | apply Kd.R_alloc | apply Kd.R_drewN | apply Kd.R_drew)); exact (Kd.R_mono (Kd.R_far (p := ⟨gb579, 3, none⟩) (Kd.R_far (p := ⟨gb579, 2, none⟩) (Kd.R_far (p := ⟨gb579, 1, none⟩) (Kd.R_far (p := ⟨gb579, 0, none⟩) (Kd.R_types HO562.out BK579.out (by decide)) (fun _ hk => hk.2) (.int .i64 t572)) (fun _ hk => hk.2) (.int .i64 t573)) (fun _ hk => hk.2) (.int .i64 t574)) (fun _ hk => hk.2) (.slice Ao37 t575.length co37)) (fun _ h_ => h_.1)))); (case side4 => exact (Kd.R_reads' HO562.out).2.1); rintro e w47 ⟨rfl, hb⟩; refine ⟨_, rfl, ?_⟩; have n0_ := Aside0.mk (Kd.R_below (by (with_reducible repeat (first | apply Kd.R_alloc | apply Kd.R_drewN | apply Kd.R_drew)); exact (Kd.R_mono (Kd.R_far (p := ⟨gb579, 3, none⟩) (Kd.R_far (p := ⟨gb579, 2, none⟩) (Kd.R_far (p := ⟨gb579, 1, none⟩) (Kd.R_far (p := ⟨gb579, 0, none⟩) (Kd.R_types HO556.out BK579.out (by decide)) (fun _ hk => hk.2) (.int .i64 t572)) (fun _ hk => hk.2) (.int .i64 t573)) (fun _ hk => hk.2) (.int .i64 t574)) (fun _ hk => hk.2) (.slice Ao37 t575.length co37)) (fun _ h_ => h_.1))) hb); have n1_ := Aside0.mk (Kd.R_below (by (with_reducible repeat (first | apply Kd.R_alloc | apply Kd.R_drewN | apply Kd.R_drew)); exact (Kd.R_mono (Kd.R_far (p := ⟨gb579, 3, none⟩) (Kd.R_far (p := ⟨gb579, 2, none⟩) (Kd.R_far (p := ⟨gb579, 1, none⟩) (Kd.R_far (p := ⟨gb579, 0, none⟩) (Kd.R_types HO562.out BK579.out (by decide)) (fun _ hk => hk.2) (.int .i64 t572)) (fun _ hk => hk.2) (.int .i64 t573)) (fun _ hk => hk.2) (.int .i64 t574)) (fun _ hk => hk.2) (.slice Ao37 t575.length co37)) (fun _ h_ => h_.1))) hb); have n2_ := Aside0.mk (Kd.R_below (by (with_reducible repeat (first | apply Kd.R_alloc | apply Kd.R_drewN | apply Kd.R_drew)); exact (Kd.R_mono (Kd.R_far (p := ⟨gb579, 3, none⟩) (Kd.R_far (p := ⟨gb579, 2, none⟩) (Kd.R_far (p := ⟨gb579, 1, none⟩) (Kd.R_far (p := ⟨gb579, 0, none⟩) (Kd.R_types HO570.out BK579.out (by decide)) (fun _ hk => hk.2) (.int .i64 t572)) (fun _ hk => hk.2) (.int .i64 t573)) (fun _ hk => hk.2) (.int .i64 t574)) (fun _ hk => hk.2) (.slice Ao37 t575.length co37)) (fun _ h_ => h_.1))) hb); have n3_ := Aside0.mk (Kd.R_below (by (with_reducible repeat (first | apply Kd.R_alloc | apply Kd.R_drewN | apply Kd.R_drew)); exact (Kd.R_mono (Kd.R_far (p := ⟨gb579, 3, none⟩) (Kd.R_far (p := ⟨gb579, 2, none⟩) (Kd.R_far (p := ⟨gb579, 1, none⟩) (Kd.R_far (p := ⟨gb579, 0, none⟩) (Kd.R_types HO577.out BK579.out (by decide)) (fun _ hk => hk.2) (.int .i64 t572)) (fun _ hk => hk.2) (.int .i64 t573)) (fun _ hk => hk.2) (.int .i64 t574)) (fun _ hk => hk.2) (.slice Ao37 t575.length co37)) (fun _ h_ => h_.1))) hb); have n4_ := Aside0.mk (blk_below (g := gb549) (o := .cells #[.int .i64 a0_0, .int .i64 a0_1, .int .i64 a0_2, .slice A0_3 l0_3.length c0_3] 24 (0, 0)) (by (with_reducible repeat (first | refine blk_drewN ?_ _ | refine blk_drew ?_ | refine blk_alloc ?_ _)); refine blk_far ?_ NB549_579.out _; (with_reducible repeat (first | refine blk_drewN ?_ _ | refine blk_drew ?_ | refine blk_alloc ?_ _)); refine blk_far ?_ NB549_579.out _; (with_reducible repeat (first | refine blk_drewN ?_ _ | refine blk_drew ?_ | refine blk_alloc ?_ _)); refine blk_far ?_ NB549_579.out _; (with_reducible repeat (first | refine blk_drewN ?_ _ | refine blk_drew ?_ | refine blk_alloc ?_ _)); refine blk_far ?_ NB549_579.out _; (with_reducible repeat (first | refine blk_drewN ?_ _ | refine blk_drew ?_ | refine blk_alloc ?_ _)); exact BK549.out) hb); have n5_ := Aside0.mk (blk_below (g := gb564) (o := .cells #[.int .i64 t557, .int .i64 t558, .int .i64 t559, .slice Ao23 t560.length co23] 28 (0, 0)) (by (with_reducible repeat (first | refine blk_drewN ?_ _ | refine blk_drew ?_ | refine blk_alloc ?_ _)); refine blk_far ?_ NB564_579.out _; (with_reducible repeat (first | refine blk_drewN ?_ _ | refine blk_drew ?_ | refine blk_alloc ?_ _)); refine blk_far ?_ NB564_579.out _; (with_reducible repeat (first | refine blk_drewN ?_ _ | refine blk_drew ?_ | refine blk_alloc ?_ _)); refine blk_far ?_ NB564_579.out _; (with_reducible repeat (first | refine blk_drewN ?_ _ | refine blk_drew ?_ | refine blk_alloc ?_ _)); refine blk_far ?_ NB564_579.out _; (with_reducible repeat (first | refine blk_drewN ?_ _ | refine blk_drew ?_ | refine blk_alloc ?_ _)); exact BK564.out) hb); have n6_ := Aside0.mk (blk_below (g := gb571) (o := .cells #[.int .i64 t565, .int .i64 t566, .int .i64 t567, .slice Ao30 t568.length co30] 28 (0, 0)) (by (with_reducible repeat (first | refine blk_drewN ?_ _ | refine blk_drew ?_ | refine blk_alloc ?_ _)); refine blk_far ?_ NB571_579.out _; (with_reducible repeat (first | refine blk_drewN ?_ _ | refine blk_drew ?_ | refine blk_alloc ?_ _)); refine blk_far ?_ NB571_579.out _; (with_reducible repeat (first | refine blk_drewN ?_ _ | refine blk_drew ?_ | refine blk_alloc ?_ _)); refine blk_far ?_ NB571_579.out _; (with_reducible repeat (first | refine blk_drewN ?_ _ | refine blk_drew ?_ | refine blk_alloc ?_ _)); refine blk_far ?_ NB571_579.out _; (with_reducible repeat (first | refine blk_drewN ?_ _ | refine blk_drew ?_ | refine blk_alloc ?_ _)); exact BK571.out) hb); have n7_ := Aside0.mk (blk_below (g := gb579) (o := .cells #[.int .i64 t572, .int .i64 t573, .int .i64 t574, .slice Ao37 t575.length co37] 28 (0, 0)) (by (with_reducible repeat (first | refine blk_drewN ?_ _ | refine blk_drew ?_ | refine blk_alloc ?_ _)); refine blk_put (cs := #[.int .i64 t572, .int .i64 t573, .int .i64 t574, .slice none 0 0]) ?_ 3 _ rfl; (with_reducible repeat (first | refine blk_drewN ?_ _ | refine blk_drew ?_ | refine blk_alloc ?_ _)); refine blk_put (cs := #[.int .i64 t572, .int .i64 t573, .int .i64 0, .slice none 0 0]) ?_ 2 _ rfl; (with_reducible repeat (first | refine blk_drewN ?_ _ | refine blk_drew ?_ | refine blk_alloc ?_ _)); refine blk_put (cs := #[.int .i64 t572, .int .i64 0, .int .i64 0, .slice none 0 0]) ?_ 1 _ rfl; (with_reducible repeat (first | refine blk_drewN ?_ _ | refine blk_drew ?_ | refine blk_alloc ?_ _)); refine blk_put (cs := #[.int .i64 0, .int .i64 0, .int .i64 0, .slice none 0 0]) ?_ 0 _ rfl; (with_reducible repeat (first | refine blk_drewN ?_ _ | refine blk_drew ?_ | refine blk_alloc ?_ _)); exact BK579.out) hb); have n8_ := Aside0.mk (below_step (by repeat (first | (with_reducible first | exact HB.out | apply below_alloc | apply pw_below_drewN | apply below_drew1 | refine below_set ?_ GE549.out | refine below_set ?_ GE564.out | refine below_set ?_ GE571.out | refine below_set ?_ GE579.out) | exact HB.out)) hb); clear HO556; clear HO562; clear HO570; clear HO577; clear BK549; clear BK564; clear BK571; clear BK579; clear HB; have HO556 := n0_; have HO562 := n1_; have HO570 := n2_; have HO577 := n3_; have BK549 := n4_; have BK564 := n5_; have BK571 := n6_; have BK579 := n7_; have HB := n8_; clear n0_ n1_ n2_ n3_ n4_ n5_ n6_ n7_ n8_; (try clear hb); (try clear hb2); (try clear hk); (try clear hi)))
        go_meet
        case rel => exact ⟨_, ((t578 != t563)), (by first | rfl | (simp; done) | (simp [*]; done)), H', ⟨by first | omega | exact Nat.le_refl _⟩, ⟨by (with_reducible repeat (first | apply Kd.R_alloc | apply Kd.R_drewN | apply Kd.R_drew)); exact Kd.R_mono HO562.out (fun _ hk => ⟨hk.1.2, hk.2⟩)⟩, ⟨by (with_reducible repeat (first | apply Kd.R_alloc | apply Kd.R_drewN | apply Kd.R_drew)); exact Kd.R_mono HO570.out (fun _ hk => ⟨hk.1.2, hk.2⟩)⟩, ⟨by (with_reducible repeat (first | apply Kd.R_alloc | apply Kd.R_drewN | apply Kd.R_drew)); exact Kd.R_mono HO577.out (fun _ hk => ⟨hk.1.2, hk.2⟩)⟩, ⟨by (with_reducible repeat (first | refine blk_drewN ?_ _ | refine blk_drew ?_ | refine blk_alloc ?_ _)); exact BK549.out⟩, ⟨by (with_reducible repeat (first | refine blk_drewN ?_ _ | refine blk_drew ?_ | refine blk_alloc ?_ _)); exact BK564.out⟩, ⟨by (with_reducible repeat (first | refine blk_drewN ?_ _ | refine blk_drew ?_ | refine blk_alloc ?_ _)); exact BK571.out⟩, ⟨by (with_reducible repeat (first | refine blk_drewN ?_ _ | refine blk_drew ?_ | refine blk_alloc ?_ _)); exact BK579.out⟩, ⟨by repeat (first | (with_reducible first | exact HB.out | apply below_alloc | apply pw_below_drewN | apply below_drew1 | refine below_set ?_ GE549.out | refine below_set ?_ GE564.out | refine below_set ?_ GE571.out | refine below_set ?_ GE579.out) | exact HB.out)⟩⟩
      · replace c39 := Bool.eq_false_iff.mpr c39
        subst c39
        have H1 : (laws_FnExactDropBus.j0 k a1 t563 t578 true a0_0 a0_1 a0_2 l0_3 t557 t558 t559 t560 t565 t566 t567 t568 t572 t573 t574 t575) = some r := by rw [if_neg (show ¬ (false = true) by decide)] at H; exact H
        clear H
        have H := H1
        clear H1
        have H' := Aside0.mk H
        clear H
        have hnb48 := NB579_549.out
        have hnc48 := NB549_579.out
        have hnb49 := NB579_564.out
        have hnc49 := NB564_579.out
        have hnb50 := NB579_571.out
        have hnc50 := NB571_579.out
        have hcz51_0 : w32.cell? ⟨gb579, 0, none⟩ = some (.int .i64 0) := (blk_cell BK579.out 0).trans rfl
        have hcz51_1 : w32.cell? ⟨gb579, 1, none⟩ = some (.int .i64 0) := (blk_cell BK579.out 1).trans rfl
        have hcz51_2 : w32.cell? ⟨gb579, 2, none⟩ = some (.int .i64 0) := (blk_cell BK579.out 2).trans rfl
        have hcz51_3 : w32.cell? ⟨gb579, 3, none⟩ = some (.slice none 0 0) := (blk_cell BK579.out 3).trans rfl
        have hfz51_0 := blk_frozen BK579.out 0
        have hfz51_1 := blk_frozen BK579.out 1
        have hfz51_2 := blk_frozen BK579.out 2
        have hfz51_3 := blk_frozen BK579.out 3
        have hnb52 := NB564_549.out
        have hnc52 := NB549_564.out
        have hnb53 := NB564_571.out
        have hnc53 := NB571_564.out
        have hcz54_0 : w32.cell? ⟨gb564, 0, none⟩ = some (.int .i64 t557) := (blk_cell BK564.out 0).trans rfl
        have hcz54_1 : w32.cell? ⟨gb564, 1, none⟩ = some (.int .i64 t558) := (blk_cell BK564.out 1).trans rfl
        have hcz54_2 : w32.cell? ⟨gb564, 2, none⟩ = some (.int .i64 t559) := (blk_cell BK564.out 2).trans rfl
        have hcz54_3 : w32.cell? ⟨gb564, 3, none⟩ = some (.slice Ao23 t560.length co23) := (blk_cell BK564.out 3).trans rfl
        have hfz54_0 := blk_frozen BK564.out 0
        have hfz54_1 := blk_frozen BK564.out 1
        have hfz54_2 := blk_frozen BK564.out 2
        have hfz54_3 := blk_frozen BK564.out 3
        go_wp2_with (first | ((with_reducible refine gate_callee (f := 19) rfl ?_); refine goesL_ (some 38) rfl rfl Try.func19 (by kernel_rfl) rfl #[.agg #[.int .i64 t572, .int .i64 t573, .int .i64 t574, .slice Ao37 t575.length co37], .agg #[.int .i64 t557, .int .i64 t558, .int .i64 t559, .slice Ao23 t560.length co23]] rfl (by (try simp only [List.map_toArray, List.map_cons, List.map_nil]); first | done | rfl | (simp only [List.length_drop, List.length_take]; rfl)) ?_; (with_reducible refine (laws_eqLine.calls k t572 t573 t574 _ _ t575 t557 t558 t559 _ _ t560 false _ ?side1 ?side2 ?side3 ?side4 A38.out).mono ?_); (case side1 => refine (Kd.R_reads' (e := 3) (base := w.heap.size) (ok := fun k_ => (((True ∧ some k_ ≠ (.slice Ao18 t554.length co18 : Value).ownBlock) ∧ some k_ ≠ (.slice Ao23 t560.length co23 : Value).ownBlock) ∧ some k_ ≠ (.slice Ao30 t568.length co30 : Value).ownBlock)) (n := t575.length) (c := co37) ?_).2.2; exact (by (with_reducible repeat (first | apply Kd.R_alloc | apply Kd.R_drewN | apply Kd.R_drew)); exact (Kd.R_mono (Kd.R_far (p := ⟨gb579, 3, none⟩) (Kd.R_far (p := ⟨gb579, 2, none⟩) (Kd.R_far (p := ⟨gb579, 1, none⟩) (Kd.R_far (p := ⟨gb579, 0, none⟩) (Kd.R_types HO577.out BK579.out (by decide)) (fun _ hk => hk.2) (.int .i64 t572)) (fun _ hk => hk.2) (.int .i64 t573)) (fun _ hk => hk.2) (.int .i64 t574)) (fun _ hk => hk.2) (.slice Ao37 t575.length co37)) (fun _ h_ => h_.1)))); (case side2 => exact (Kd.R_reads' HO577.out).2.1); (case side3 => refine (Kd.R_reads' (e := 3) (base := w.heap.size) (ok := fun k_ => (((True ∧ some k_ ≠ (.slice Ao18 t554.length co18 : Value).ownBlock) ∧ some k_ ≠ (.slice Ao30 t568.length co30 : Value).ownBlock) ∧ some k_ ≠ (.slice Ao37 t575.length co37 : Value).ownBlock)) (n := t560.length) (c := co23) ?_).2.2; exact (by (with_reducible repeat (first | apply Kd.R_alloc | apply Kd.R_drewN | apply Kd.R_drew)); exact (Kd.R_mono (Kd.R_far (p := ⟨gb579, 3, none⟩) (Kd.R_far (p := ⟨gb579, 2, none⟩) (Kd.R_far (p := ⟨gb579, 1, none⟩) (Kd.R_far (p := ⟨gb579, 0, none⟩) (Kd.R_types HO562.out BK579.out (by decide)) (fun _ hk => hk.2) (.int .i64 t572)) (fun _ hk => hk.2) (.int .i64 t573)) (fun _ hk => hk.2) (.int .i64 t574)) (fun _ hk => hk.2) (.slice Ao37 t575.length co37)) (fun _ h_ => h_.1)))); (case side4 => exact (Kd.R_reads' HO562.out).2.1); rintro e w55 ⟨rfl, hb⟩; refine ⟨_, rfl, ?_⟩; have n0_ := Aside0.mk (Kd.R_below (by (with_reducible repeat (first | apply Kd.R_alloc | apply Kd.R_drewN | apply Kd.R_drew)); exact (Kd.R_mono (Kd.R_far (p := ⟨gb579, 3, none⟩) (Kd.R_far (p := ⟨gb579, 2, none⟩) (Kd.R_far (p := ⟨gb579, 1, none⟩) (Kd.R_far (p := ⟨gb579, 0, none⟩) (Kd.R_types HO556.out BK579.out (by decide)) (fun _ hk => hk.2) (.int .i64 t572)) (fun _ hk => hk.2) (.int .i64 t573)) (fun _ hk => hk.2) (.int .i64 t574)) (fun _ hk => hk.2) (.slice Ao37 t575.length co37)) (fun _ h_ => h_.1))) hb); have n1_ := Aside0.mk (Kd.R_below (by (with_reducible repeat (first | apply Kd.R_alloc | apply Kd.R_drewN | apply Kd.R_drew)); exact (Kd.R_mono (Kd.R_far (p := ⟨gb579, 3, none⟩) (Kd.R_far (p := ⟨gb579, 2, none⟩) (Kd.R_far (p := ⟨gb579, 1, none⟩) (Kd.R_far (p := ⟨gb579, 0, none⟩) (Kd.R_types HO562.out BK579.out (by decide)) (fun _ hk => hk.2) (.int .i64 t572)) (fun _ hk => hk.2) (.int .i64 t573)) (fun _ hk => hk.2) (.int .i64 t574)) (fun _ hk => hk.2) (.slice Ao37 t575.length co37)) (fun _ h_ => h_.1))) hb); have n2_ := Aside0.mk (Kd.R_below (by (with_reducible repeat (first | apply Kd.R_alloc | apply Kd.R_drewN | apply Kd.R_drew)); exact (Kd.R_mono (Kd.R_far (p := ⟨gb579, 3, none⟩) (Kd.R_far (p := ⟨gb579, 2, none⟩) (Kd.R_far (p := ⟨gb579, 1, none⟩) (Kd.R_far (p := ⟨gb579, 0, none⟩) (Kd.R_types HO570.out BK579.out (by decide)) (fun _ hk => hk.2) (.int .i64 t572)) (fun _ hk => hk.2) (.int .i64 t573)) (fun _ hk => hk.2) (.int .i64 t574)) (fun _ hk => hk.2) (.slice Ao37 t575.length co37)) (fun _ h_ => h_.1))) hb); have n3_ := Aside0.mk (Kd.R_below (by (with_reducible repeat (first | apply Kd.R_alloc | apply Kd.R_drewN | apply Kd.R_drew)); exact (Kd.R_mono (Kd.R_far (p := ⟨gb579, 3, none⟩) (Kd.R_far (p := ⟨gb579, 2, none⟩) (Kd.R_far (p := ⟨gb579, 1, none⟩) (Kd.R_far (p := ⟨gb579, 0, none⟩) (Kd.R_types HO577.out BK579.out (by decide)) (fun _ hk => hk.2) (.int .i64 t572)) (fun _ hk => hk.2) (.int .i64 t573)) (fun _ hk => hk.2) (.int .i64 t574)) (fun _ hk => hk.2) (.slice Ao37 t575.length co37)) (fun _ h_ => h_.1))) hb); have n4_ := Aside0.mk (blk_below (g := gb549) (o := .cells #[.int .i64 a0_0, .int .i64 a0_1, .int .i64 a0_2, .slice A0_3 l0_3.length c0_3] 24 (0, 0)) (by (with_reducible repeat (first | refine blk_drewN ?_ _ | refine blk_drew ?_ | refine blk_alloc ?_ _)); refine blk_far ?_ NB549_579.out _; (with_reducible repeat (first | refine blk_drewN ?_ _ | refine blk_drew ?_ | refine blk_alloc ?_ _)); refine blk_far ?_ NB549_579.out _; (with_reducible repeat (first | refine blk_drewN ?_ _ | refine blk_drew ?_ | refine blk_alloc ?_ _)); refine blk_far ?_ NB549_579.out _; (with_reducible repeat (first | refine blk_drewN ?_ _ | refine blk_drew ?_ | refine blk_alloc ?_ _)); refine blk_far ?_ NB549_579.out _; (with_reducible repeat (first | refine blk_drewN ?_ _ | refine blk_drew ?_ | refine blk_alloc ?_ _)); exact BK549.out) hb); have n5_ := Aside0.mk (blk_below (g := gb564) (o := .cells #[.int .i64 t557, .int .i64 t558, .int .i64 t559, .slice Ao23 t560.length co23] 28 (0, 0)) (by (with_reducible repeat (first | refine blk_drewN ?_ _ | refine blk_drew ?_ | refine blk_alloc ?_ _)); refine blk_far ?_ NB564_579.out _; (with_reducible repeat (first | refine blk_drewN ?_ _ | refine blk_drew ?_ | refine blk_alloc ?_ _)); refine blk_far ?_ NB564_579.out _; (with_reducible repeat (first | refine blk_drewN ?_ _ | refine blk_drew ?_ | refine blk_alloc ?_ _)); refine blk_far ?_ NB564_579.out _; (with_reducible repeat (first | refine blk_drewN ?_ _ | refine blk_drew ?_ | refine blk_alloc ?_ _)); refine blk_far ?_ NB564_579.out _; (with_reducible repeat (first | refine blk_drewN ?_ _ | refine blk_drew ?_ | refine blk_alloc ?_ _)); exact BK564.out) hb); have n6_ := Aside0.mk (blk_below (g := gb571) (o := .cells #[.int .i64 t565, .int .i64 t566, .int .i64 t567, .slice Ao30 t568.length co30] 28 (0, 0)) (by (with_reducible repeat (first | refine blk_drewN ?_ _ | refine blk_drew ?_ | refine blk_alloc ?_ _)); refine blk_far ?_ NB571_579.out _; (with_reducible repeat (first | refine blk_drewN ?_ _ | refine blk_drew ?_ | refine blk_alloc ?_ _)); refine blk_far ?_ NB571_579.out _; (with_reducible repeat (first | refine blk_drewN ?_ _ | refine blk_drew ?_ | refine blk_alloc ?_ _)); refine blk_far ?_ NB571_579.out _; (with_reducible repeat (first | refine blk_drewN ?_ _ | refine blk_drew ?_ | refine blk_alloc ?_ _)); refine blk_far ?_ NB571_579.out _; (with_reducible repeat (first | refine blk_drewN ?_ _ | refine blk_drew ?_ | refine blk_alloc ?_ _)); exact BK571.out) hb); have n7_ := Aside0.mk (blk_below (g := gb579) (o := .cells #[.int .i64 t572, .int .i64 t573, .int .i64 t574, .slice Ao37 t575.length co37] 28 (0, 0)) (by (with_reducible repeat (first | refine blk_drewN ?_ _ | refine blk_drew ?_ | refine blk_alloc ?_ _)); refine blk_put (cs := #[.int .i64 t572, .int .i64 t573, .int .i64 t574, .slice none 0 0]) ?_ 3 _ rfl; (with_reducible repeat (first | refine blk_drewN ?_ _ | refine blk_drew ?_ | refine blk_alloc ?_ _)); refine blk_put (cs := #[.int .i64 t572, .int .i64 t573, .int .i64 0, .slice none 0 0]) ?_ 2 _ rfl; (with_reducible repeat (first | refine blk_drewN ?_ _ | refine blk_drew ?_ | refine blk_alloc ?_ _)); refine blk_put (cs := #[.int .i64 t572, .int .i64 0, .int .i64 0, .slice none 0 0]) ?_ 1 _ rfl; (with_reducible repeat (first | refine blk_drewN ?_ _ | refine blk_drew ?_ | refine blk_alloc ?_ _)); refine blk_put (cs := #[.int .i64 0, .int .i64 0, .int .i64 0, .slice none 0 0]) ?_ 0 _ rfl; (with_reducible repeat (first | refine blk_drewN ?_ _ | refine blk_drew ?_ | refine blk_alloc ?_ _)); exact BK579.out) hb); have n8_ := Aside0.mk (below_step (by repeat (first | (with_reducible first | exact HB.out | apply below_alloc | apply pw_below_drewN | apply below_drew1 | refine below_set ?_ GE549.out | refine below_set ?_ GE564.out | refine below_set ?_ GE571.out | refine below_set ?_ GE579.out) | exact HB.out)) hb); clear HO556; clear HO562; clear HO570; clear HO577; clear BK549; clear BK564; clear BK571; clear BK579; clear HB; have HO556 := n0_; have HO562 := n1_; have HO570 := n2_; have HO577 := n3_; have BK549 := n4_; have BK564 := n5_; have BK571 := n6_; have BK579 := n7_; have HB := n8_; clear n0_ n1_ n2_ n3_ n4_ n5_ n6_ n7_ n8_; (try clear hb); (try clear hb2); (try clear hk); (try clear hi)))
        go_meet
        case rel => exact ⟨_, (true), (by first | rfl | (simp; done) | (simp [*]; done)), H', ⟨by first | omega | exact Nat.le_refl _⟩, ⟨by (with_reducible repeat (first | apply Kd.R_alloc | apply Kd.R_drewN | apply Kd.R_drew)); exact Kd.R_mono HO562.out (fun _ hk => ⟨hk.1.2, hk.2⟩)⟩, ⟨by (with_reducible repeat (first | apply Kd.R_alloc | apply Kd.R_drewN | apply Kd.R_drew)); exact Kd.R_mono HO570.out (fun _ hk => ⟨hk.1.2, hk.2⟩)⟩, ⟨by (with_reducible repeat (first | apply Kd.R_alloc | apply Kd.R_drewN | apply Kd.R_drew)); exact Kd.R_mono HO577.out (fun _ hk => ⟨hk.1.2, hk.2⟩)⟩, ⟨by (with_reducible repeat (first | refine blk_drewN ?_ _ | refine blk_drew ?_ | refine blk_alloc ?_ _)); exact BK549.out⟩, ⟨by (with_reducible repeat (first | refine blk_drewN ?_ _ | refine blk_drew ?_ | refine blk_alloc ?_ _)); exact BK564.out⟩, ⟨by (with_reducible repeat (first | refine blk_drewN ?_ _ | refine blk_drew ?_ | refine blk_alloc ?_ _)); exact BK571.out⟩, ⟨by (with_reducible repeat (first | refine blk_drewN ?_ _ | refine blk_drew ?_ | refine blk_alloc ?_ _)); exact BK579.out⟩, ⟨by repeat (first | (with_reducible first | exact HB.out | apply below_alloc | apply pw_below_drewN | apply below_drew1 | refine below_set ?_ GE549.out | refine below_set ?_ GE564.out | refine below_set ?_ GE571.out | refine below_set ?_ GE579.out) | exact HB.out)⟩⟩
    case rest =>
      clear HC12
      try clear c1
      try clear c2
      try clear p2
      try clear c3
      try clear c4
      try clear c4b0
      try clear c5
      try clear c11
      try clear c15
      try clear c17
      try clear c19
      try clear c21
      try clear c27
      try clear c28
      try clear c33
      try clear c34
      try clear c35
      try clear c38
      try clear c39
      try clear c40
      try clear c41
      try clear c42
      try clear c44
      try clear c45
      try clear c48
      try clear c49
      try clear c50
      try clear c52
      try clear c53
      try clear hcz14_0
      try clear hcz14_1
      try clear hcz14_2
      try clear hcz14_3
      try clear hcz16_0
      try clear hcz16_1
      try clear hcz16_2
      try clear hcz16_3
      try clear hcz22_0
      try clear hcz22_1
      try clear hcz22_2
      try clear hcz22_3
      try clear hcz24_0
      try clear hcz24_1
      try clear hcz24_2
      try clear hcz24_3
      try clear hcz29_0
      try clear hcz29_1
      try clear hcz29_2
      try clear hcz29_3
      try clear hcz36_0
      try clear hcz36_1
      try clear hcz36_2
      try clear hcz36_3
      try clear hcz43_0
      try clear hcz43_1
      try clear hcz43_2
      try clear hcz43_3
      try clear hcz46_0
      try clear hcz46_1
      try clear hcz46_2
      try clear hcz46_3
      try clear hcz51_0
      try clear hcz51_1
      try clear hcz51_2
      try clear hcz51_3
      try clear hcz54_0
      try clear hcz54_1
      try clear hcz54_2
      try clear hcz54_3
      try clear hcz6_0
      try clear hcz6_1
      try clear hcz6_2
      try clear hcz6_3
      try clear hfz14_0
      try clear hfz14_1
      try clear hfz14_2
      try clear hfz14_3
      try clear hfz16_0
      try clear hfz16_1
      try clear hfz16_2
      try clear hfz16_3
      try clear hfz22_0
      try clear hfz22_1
      try clear hfz22_2
      try clear hfz22_3
      try clear hfz24_0
      try clear hfz24_1
      try clear hfz24_2
      try clear hfz24_3
      try clear hfz29_0
      try clear hfz29_1
      try clear hfz29_2
      try clear hfz29_3
      try clear hfz36_0
      try clear hfz36_1
      try clear hfz36_2
      try clear hfz36_3
      try clear hfz43_0
      try clear hfz43_1
      try clear hfz43_2
      try clear hfz43_3
      try clear hfz46_0
      try clear hfz46_1
      try clear hfz46_2
      try clear hfz46_3
      try clear hfz51_0
      try clear hfz51_1
      try clear hfz51_2
      try clear hfz51_3
      try clear hfz54_0
      try clear hfz54_1
      try clear hfz54_2
      try clear hfz54_3
      try clear hfz6_0
      try clear hfz6_1
      try clear hfz6_2
      try clear hfz6_3
      obtain ⟨kq, x44_11, rfl, HA, HJ11, HO_565003, HO_572003, HO_580003, BK549, BK564, BK571, BK579, HB⟩ := hcut
      cases kq with
      | zero => exact absurd HA.out (by simp [laws_FnExactDropBus.j0])
      | succ kj11 =>
        have H := HA.out
        clear HA
        simp only [laws_FnExactDropBus.j0] at H
        by_cases c56 : x44_11 = true
        · subst c56
          have H1 : (some false) = some r := by rw [if_pos rfl] at H; exact H
          clear H
          have H := H1
          clear H1
          obtain rfl := Option.some.inj H
          go_wp2
          go_ret
          exact ⟨by first | rfl | (simp [errW_none, errW_some] <;> rfl) | (simp [*, errW_none, errW_some] <;> rfl), by repeat (first | (with_reducible first | exact HB.out | apply below_alloc | apply pw_below_drewN | apply below_drew1 | refine below_set ?_ GE549.out | refine below_set ?_ GE564.out | refine below_set ?_ GE571.out | refine below_set ?_ GE579.out) | exact HB.out)⟩
        · replace c56 := Bool.eq_false_iff.mpr c56
          subst c56
          have H1 : ((laws_toLine.f kj11 a0_0 a0_1 a0_2 l0_3).bind fun bt581 => ((laws_eqLine.f kj11 t565 t566 t567 t568 bt581.1 bt581.2.1 bt581.2.2.1 bt581.2.2.2).bind fun t587 => (if t587 = true then ((laws_markLine.f kj11 t565 t566 t567 t568 1).bind fun bt588 => (if bt588.1 < 0 then (laws_FnExactDropBus.j1 kj11 a1 t563 true a0_0 a0_1 a0_2 l0_3 t557 t558 t559 t560 t572 t573 t574 t575) else ((laws_eqLine.f kj11 t572 t573 t574 t575 t557 t558 t559 t560).bind fun t590 => (if t590 = true then (laws_FnExactDropBus.j1 kj11 a1 t563 (t578 != t563) a0_0 a0_1 a0_2 l0_3 t557 t558 t559 t560 t572 t573 t574 t575) else (laws_FnExactDropBus.j1 kj11 a1 t563 true a0_0 a0_1 a0_2 l0_3 t557 t558 t559 t560 t572 t573 t574 t575))))) else (some false)))) = some r := by rw [if_neg (show ¬ (false = true) by decide)] at H; exact H
          clear H
          have H := H1
          clear H1
          replace H := Option.bind_eq_some_iff.mp H
          obtain ⟨⟨t581, t582, t583, t584⟩, A570, H⟩ := H
          replace H : ((laws_eqLine.f kj11 t565 t566 t567 t568 t581 t582 t583 t584).bind fun t587 => (if t587 = true then ((laws_markLine.f kj11 t565 t566 t567 t568 1).bind fun bt588 => (if bt588.1 < 0 then (laws_FnExactDropBus.j1 kj11 a1 t563 true a0_0 a0_1 a0_2 l0_3 t557 t558 t559 t560 t572 t573 t574 t575) else ((laws_eqLine.f kj11 t572 t573 t574 t575 t557 t558 t559 t560).bind fun t590 => (if t590 = true then (laws_FnExactDropBus.j1 kj11 a1 t563 (t578 != t563) a0_0 a0_1 a0_2 l0_3 t557 t558 t559 t560 t572 t573 t574 t575) else (laws_FnExactDropBus.j1 kj11 a1 t563 true a0_0 a0_1 a0_2 l0_3 t557 t558 t559 t560 t572 t573 t574 t575))))) else (some false))) = some r := H
          have A57 := Aside0.mk A570
          clear A570
          replace H := Option.bind_eq_some_iff.mp H
          obtain ⟨t587, A580, H⟩ := H
          replace H : (if t587 = true then ((laws_markLine.f kj11 t565 t566 t567 t568 1).bind fun bt588 => (if bt588.1 < 0 then (laws_FnExactDropBus.j1 kj11 a1 t563 true a0_0 a0_1 a0_2 l0_3 t557 t558 t559 t560 t572 t573 t574 t575) else ((laws_eqLine.f kj11 t572 t573 t574 t575 t557 t558 t559 t560).bind fun t590 => (if t590 = true then (laws_FnExactDropBus.j1 kj11 a1 t563 (t578 != t563) a0_0 a0_1 a0_2 l0_3 t557 t558 t559 t560 t572 t573 t574 t575) else (laws_FnExactDropBus.j1 kj11 a1 t563 true a0_0 a0_1 a0_2 l0_3 t557 t558 t559 t560 t572 t573 t574 t575))))) else (some false)) = some r := H
          have A58 := Aside0.mk A580
          clear A580
          by_cases c59 : t587 = true
          · subst c59
            have H1 : ((laws_markLine.f kj11 t565 t566 t567 t568 1).bind fun bt588 => (if bt588.1 < 0 then (laws_FnExactDropBus.j1 kj11 a1 t563 true a0_0 a0_1 a0_2 l0_3 t557 t558 t559 t560 t572 t573 t574 t575) else ((laws_eqLine.f kj11 t572 t573 t574 t575 t557 t558 t559 t560).bind fun t590 => (if t590 = true then (laws_FnExactDropBus.j1 kj11 a1 t563 (t578 != t563) a0_0 a0_1 a0_2 l0_3 t557 t558 t559 t560 t572 t573 t574 t575) else (laws_FnExactDropBus.j1 kj11 a1 t563 true a0_0 a0_1 a0_2 l0_3 t557 t558 t559 t560 t572 t573 t574 t575))))) = some r := by rw [if_pos rfl] at H; exact H
            clear H
            have H := H1
            clear H1
            replace H := Option.bind_eq_some_iff.mp H
            obtain ⟨⟨t588, t589⟩, A600, H⟩ := H
            replace H : (if t588 < 0 then (laws_FnExactDropBus.j1 kj11 a1 t563 true a0_0 a0_1 a0_2 l0_3 t557 t558 t559 t560 t572 t573 t574 t575) else ((laws_eqLine.f kj11 t572 t573 t574 t575 t557 t558 t559 t560).bind fun t590 => (if t590 = true then (laws_FnExactDropBus.j1 kj11 a1 t563 (t578 != t563) a0_0 a0_1 a0_2 l0_3 t557 t558 t559 t560 t572 t573 t574 t575) else (laws_FnExactDropBus.j1 kj11 a1 t563 true a0_0 a0_1 a0_2 l0_3 t557 t558 t559 t560 t572 t573 t574 t575)))) = some r := H
            have A60 := Aside0.mk A600
            clear A600
            have HC61 := Aside0.mk H
            clear H
            try go_wp2
            have n0_ := Aside0.mk (Kd.R_drew HO_565003.out)
            have n1_ := Aside0.mk (Kd.R_drew HO_572003.out)
            have n2_ := Aside0.mk (Kd.R_drew HO_580003.out)
            have n3_ := Aside0.mk (blk_drew BK549.out)
            have n4_ := Aside0.mk (blk_drew BK564.out)
            have n5_ := Aside0.mk (blk_drew BK571.out)
            have n6_ := Aside0.mk (blk_drew BK579.out)
            have n7_ := Aside0.mk (below_drew1 HB.out)
            clear HO_565003
            clear HO_572003
            clear HO_580003
            clear BK549
            clear BK564
            clear BK571
            clear BK579
            clear HB
            have HO_565003 := n0_
            have HO_572003 := n1_
            have HO_580003 := n2_
            have BK549 := n3_
            have BK564 := n4_
            have BK571 := n5_
            have BK579 := n6_
            have HB := n7_
            clear n0_ n1_ n2_ n3_ n4_ n5_ n6_ n7_
            refine start_ (n := 5) (S := fun w' => w'.cell? ⟨gb571, 0, none⟩ = some (.int .i64 t565) ∧ w'.cell? ⟨gb571, 1, none⟩ = some (.int .i64 t566) ∧ w'.cell? ⟨gb571, 2, none⟩ = some (.int .i64 t567) ∧ w'.cell? ⟨gb571, 3, none⟩ = some (.slice Ao30 t568.length co30) ∧ w'.cell? ⟨gb549, 0, none⟩ = some (.int .i64 a0_0) ∧ w'.cell? ⟨gb549, 1, none⟩ = some (.int .i64 a0_1) ∧ w'.cell? ⟨gb549, 2, none⟩ = some (.int .i64 a0_2) ∧ w'.cell? ⟨gb549, 3, none⟩ = some (.slice A0_3 l0_3.length c0_3)) (ds := []) #[false, false, false, false, false] (by kernel_rfl) rfl rfl ⟨(blk_cell BK571.out 0).trans rfl, (blk_cell BK571.out 1).trans rfl, (blk_cell BK571.out 2).trans rfl, (blk_cell BK571.out 3).trans rfl, (blk_cell BK549.out 0).trans rfl, (blk_cell BK549.out 1).trans rfl, (blk_cell BK549.out 2).trans rfl, (blk_cell BK549.out 3).trans rfl⟩ (fun hHeld => ?_)
            generalize wc.drew = w62 at HO_565003 HO_572003 HO_580003 BK549 BK564 BK571 BK579 HB hHeld ⊢
            refine take_ (i := 0) (N := some 45) (v := ?_) (a' := ?_) #[true, false, false, false, false] rfl rfl (by kernel_rfl) (fun _ _ _ h => h) (Or.inl ⟨by rfl, ?_⟩) hHeld ?_ ?_
            rotate_left
            · rintro w' ⟨s0, s1, s2, s3, s4, s5, s6, s7⟩
              go_simp
              with_reducible rfl
            rotate_left
            · simp only [Act.put, List.setIfInBounds_toArray, List.set_cons_zero, List.set_cons_succ, i64_w, i32_w]
              rfl
            refine take_ (i := 1) (N := some 46) (v := ?_) (a' := ?_) #[true, true, false, false, false] rfl rfl (by kernel_rfl) (fun _ _ _ h => h) (Or.inl ⟨by rfl, ?_⟩) hHeld ?_ ?_
            rotate_left
            · rintro w' ⟨s0, s1, s2, s3, s4, s5, s6, s7⟩
              go_simp
              with_reducible rfl
            rotate_left
            · simp only [Act.put, List.setIfInBounds_toArray, List.set_cons_zero, List.set_cons_succ, i64_w, i32_w]
              rfl
            refine one_ (i := 2) (N := some 47) #[true, true, true, false, false] rfl rfl (by kernel_rfl) (by decide) (fun K hK => ?_)
            refine goes_ Try.func17 (by kernel_rfl) rfl #[.agg #[.int .i64 a0_0, .int .i64 a0_1, .int .i64 a0_2, .slice A0_3 l0_3.length c0_3]] (by rfl) rfl rfl (by (try simp only [List.map_toArray, List.map_cons, List.map_nil]); first | done | rfl | (simp only [List.length_drop, List.length_take]; rfl)) ?_
            with_reducible refine (laws_toLine.calls kj11 a0_0 a0_1 a0_2 _ _ l0_3 t581 t582 t583 t584 _ ?side1 ?side2 A57.out).mono ?_
            (case side1 => repeat (first | exact (Kd.C_below HR0_3.out HB.out) | (with_reducible refine Kd.C_alloc ?_ _) | (with_reducible refine Kd.C_drewN ?_ _) | (with_reducible refine Kd.C_drew ?_)))
            (case side2 => exact HC0_3.out)
            rintro e w63 ⟨v585, rfl, ho0, hb⟩
            refine ⟨_, rfl, ?_⟩
            have n0_ := Aside0.mk (Kd.R_elder' (by (with_reducible repeat (first | apply Kd.R_alloc | apply Kd.R_drewN | apply Kd.R_drew)); exact HO_565003.out) (Kd.R_base ho0) hb)
            have n1_ := Aside0.mk (Kd.R_elder' (by (with_reducible repeat (first | apply Kd.R_alloc | apply Kd.R_drewN | apply Kd.R_drew)); exact HO_572003.out) (Kd.R_base ho0) hb)
            have n2_ := Aside0.mk (Kd.R_elder' (by (with_reducible repeat (first | apply Kd.R_alloc | apply Kd.R_drewN | apply Kd.R_drew)); exact HO_580003.out) (Kd.R_base ho0) hb)
            have n3_ := Aside0.mk (Kd.R_lower (Kd.R_new' (Kd.R_new' (Kd.R_new' ho0 (Kd.R_lt (by (with_reducible repeat (first | apply Kd.R_alloc | apply Kd.R_drewN | apply Kd.R_drew)); exact HO_565003.out))) (Kd.R_lt (by (with_reducible repeat (first | apply Kd.R_alloc | apply Kd.R_drewN | apply Kd.R_drew)); exact HO_572003.out))) (Kd.R_lt (by (with_reducible repeat (first | apply Kd.R_alloc | apply Kd.R_drewN | apply Kd.R_drew)); exact HO_580003.out))) (below_size (by repeat (first | (with_reducible first | exact HB.out | apply below_alloc | apply pw_below_drewN | apply below_drew1 | refine below_set ?_ GE549.out | refine below_set ?_ GE564.out | refine below_set ?_ GE571.out | refine below_set ?_ GE579.out) | exact HB.out))))
            have n4_ := Aside0.mk (blk_below (g := gb549) (o := .cells #[.int .i64 a0_0, .int .i64 a0_1, .int .i64 a0_2, .slice A0_3 l0_3.length c0_3] 24 (0, 0)) (by (with_reducible repeat (first | refine blk_drewN ?_ _ | refine blk_drew ?_ | refine blk_alloc ?_ _)); exact BK549.out) hb)
            have n5_ := Aside0.mk (blk_below (g := gb564) (o := .cells #[.int .i64 t557, .int .i64 t558, .int .i64 t559, .slice Ao23 t560.length co23] 28 (0, 0)) (by (with_reducible repeat (first | refine blk_drewN ?_ _ | refine blk_drew ?_ | refine blk_alloc ?_ _)); exact BK564.out) hb)
            have n6_ := Aside0.mk (blk_below (g := gb571) (o := .cells #[.int .i64 t565, .int .i64 t566, .int .i64 t567, .slice Ao30 t568.length co30] 28 (0, 0)) (by (with_reducible repeat (first | refine blk_drewN ?_ _ | refine blk_drew ?_ | refine blk_alloc ?_ _)); exact BK571.out) hb)
            have n7_ := Aside0.mk (blk_below (g := gb579) (o := .cells #[.int .i64 t572, .int .i64 t573, .int .i64 t574, .slice Ao37 t575.length co37] 28 (0, 0)) (by (with_reducible repeat (first | refine blk_drewN ?_ _ | refine blk_drew ?_ | refine blk_alloc ?_ _)); exact BK579.out) hb)
            have n8_ := Aside0.mk (below_step (by repeat (first | (with_reducible first | exact HB.out | apply below_alloc | apply pw_below_drewN | apply below_drew1 | refine below_set ?_ GE549.out | refine below_set ?_ GE564.out | refine below_set ?_ GE571.out | refine below_set ?_ GE579.out) | exact HB.out)) hb)
            clear HO_565003
            clear HO_572003
            clear HO_580003
            clear BK549
            clear BK564
            clear BK571
            clear BK579
            clear HB
            have HO_565003 := n0_
            have HO_572003 := n1_
            have HO_580003 := n2_
            have HO586 := n3_
            have BK549 := n4_
            have BK564 := n5_
            have BK571 := n6_
            have BK579 := n7_
            have HB := n8_
            clear n0_ n1_ n2_ n3_ n4_ n5_ n6_ n7_ n8_
            (try clear hb)
            (try clear hb2)
            (try clear hk)
            (try clear hi)
            (try clear ho0)
            obtain ⟨Ao64, co64, eo64⟩ := Kd.R_slice HO586.out
            (first | subst eo64 | (injection eo64 with f1_ f2_ f3_; have f4_ := f1_.symm; have f5_ := f3_.symm; clear f1_ f2_ f3_; subst f4_; subst f5_))
            refine hK.out _ _ ⟨(blk_cell BK571.out 0).trans rfl, (blk_cell BK571.out 1).trans rfl, (blk_cell BK571.out 2).trans rfl, (blk_cell BK571.out 3).trans rfl, (blk_cell BK549.out 0).trans rfl, (blk_cell BK549.out 1).trans rfl, (blk_cell BK549.out 2).trans rfl, (blk_cell BK549.out 3).trans rfl⟩ (fun hHeld => ?_)
            clear hK K
            refine norm_ (a' := ?_) ?_ ?_
            rotate_left
            · show Act.put _ (some 47) _ = _
              simp only [Act.put, List.setIfInBounds_toArray, List.set_cons_zero, List.set_cons_succ, i64_w, i32_w]
              rfl
            refine one_ (i := 3) (N := some 48) #[true, true, true, true, false] rfl rfl (by kernel_rfl) (by decide) (fun K hK => ?_)
            refine goes_ Try.func19 (by kernel_rfl) rfl #[.agg #[.int .i64 t565, .int .i64 t566, .int .i64 t567, .slice Ao30 t568.length co30], .agg #[.int .i64 t581, .int .i64 t582, .int .i64 t583, .slice Ao64 t584.length co64]] (by rfl) rfl rfl (by (try simp only [List.map_toArray, List.map_cons, List.map_nil]); first | done | rfl | (simp only [List.length_drop, List.length_take]; rfl)) ?_
            with_reducible refine (laws_eqLine.calls kj11 t565 t566 t567 _ _ t568 t581 t582 t583 _ _ t584 true _ ?side1 ?side2 ?side3 ?side4 A58.out).mono ?_
            (case side1 => repeat (first | exact (Kd.R_reads' HO_572003.out).2.2 | (with_reducible refine Kd.C_alloc ?_ _) | (with_reducible refine Kd.C_drewN ?_ _) | (with_reducible refine Kd.C_drew ?_)))
            (case side2 => exact (Kd.R_reads' HO_572003.out).2.1)
            (case side3 => repeat (first | exact (Kd.R_reads' HO586.out).2.2 | (with_reducible refine Kd.C_alloc ?_ _) | (with_reducible refine Kd.C_drewN ?_ _) | (with_reducible refine Kd.C_drew ?_)))
            (case side4 => exact (Kd.R_reads' HO586.out).2.1)
            rintro e w65 ⟨rfl, hb⟩
            refine ⟨_, rfl, ?_⟩
            have n0_ := Aside0.mk (Kd.R_below (by (with_reducible repeat (first | apply Kd.R_alloc | apply Kd.R_drewN | apply Kd.R_drew)); exact HO_565003.out) hb)
            have n1_ := Aside0.mk (Kd.R_below (by (with_reducible repeat (first | apply Kd.R_alloc | apply Kd.R_drewN | apply Kd.R_drew)); exact HO_572003.out) hb)
            have n2_ := Aside0.mk (Kd.R_below (by (with_reducible repeat (first | apply Kd.R_alloc | apply Kd.R_drewN | apply Kd.R_drew)); exact HO_580003.out) hb)
            have n3_ := Aside0.mk (Kd.R_below (by (with_reducible repeat (first | apply Kd.R_alloc | apply Kd.R_drewN | apply Kd.R_drew)); exact HO586.out) hb)
            have n4_ := Aside0.mk (blk_below (g := gb549) (o := .cells #[.int .i64 a0_0, .int .i64 a0_1, .int .i64 a0_2, .slice A0_3 l0_3.length c0_3] 24 (0, 0)) (by (with_reducible repeat (first | refine blk_drewN ?_ _ | refine blk_drew ?_ | refine blk_alloc ?_ _)); exact BK549.out) hb)
            have n5_ := Aside0.mk (blk_below (g := gb564) (o := .cells #[.int .i64 t557, .int .i64 t558, .int .i64 t559, .slice Ao23 t560.length co23] 28 (0, 0)) (by (with_reducible repeat (first | refine blk_drewN ?_ _ | refine blk_drew ?_ | refine blk_alloc ?_ _)); exact BK564.out) hb)
            have n6_ := Aside0.mk (blk_below (g := gb571) (o := .cells #[.int .i64 t565, .int .i64 t566, .int .i64 t567, .slice Ao30 t568.length co30] 28 (0, 0)) (by (with_reducible repeat (first | refine blk_drewN ?_ _ | refine blk_drew ?_ | refine blk_alloc ?_ _)); exact BK571.out) hb)
            have n7_ := Aside0.mk (blk_below (g := gb579) (o := .cells #[.int .i64 t572, .int .i64 t573, .int .i64 t574, .slice Ao37 t575.length co37] 28 (0, 0)) (by (with_reducible repeat (first | refine blk_drewN ?_ _ | refine blk_drew ?_ | refine blk_alloc ?_ _)); exact BK579.out) hb)
            have n8_ := Aside0.mk (below_step (by repeat (first | (with_reducible first | exact HB.out | apply below_alloc | apply pw_below_drewN | apply below_drew1 | refine below_set ?_ GE549.out | refine below_set ?_ GE564.out | refine below_set ?_ GE571.out | refine below_set ?_ GE579.out) | exact HB.out)) hb)
            clear HO_565003
            clear HO_572003
            clear HO_580003
            clear HO586
            clear BK549
            clear BK564
            clear BK571
            clear BK579
            clear HB
            have HO_565003 := n0_
            have HO_572003 := n1_
            have HO_580003 := n2_
            have HO586 := n3_
            have BK549 := n4_
            have BK564 := n5_
            have BK571 := n6_
            have BK579 := n7_
            have HB := n8_
            clear n0_ n1_ n2_ n3_ n4_ n5_ n6_ n7_ n8_
            (try clear hb)
            (try clear hb2)
            (try clear hk)
            (try clear hi)
            refine hK.out _ _ ⟨(blk_cell BK571.out 0).trans rfl, (blk_cell BK571.out 1).trans rfl, (blk_cell BK571.out 2).trans rfl, (blk_cell BK571.out 3).trans rfl, (blk_cell BK549.out 0).trans rfl, (blk_cell BK549.out 1).trans rfl, (blk_cell BK549.out 2).trans rfl, (blk_cell BK549.out 3).trans rfl⟩ (fun hHeld => ?_)
            clear hK K
            refine norm_ (a' := ?_) ?_ ?_
            rotate_left
            · show Act.put _ (some 48) _ = _
              simp only [Act.put, List.setIfInBounds_toArray, List.set_cons_zero, List.set_cons_succ, i64_w, i32_w]
              rfl
            refine pure_ (i := 4) (N := some 49) (v := ?_) (a' := ?_) #[true, true, true, true, true] rfl rfl (by kernel_rfl) (fun _ _ _ h => h) (Or.inl ⟨by rfl, ?_⟩) ?_ ?_
            rotate_left
            · intro w'
              go_simp
              with_reducible rfl
            rotate_left
            · simp only [Act.put, List.setIfInBounds_toArray, List.set_cons_zero, List.set_cons_succ, i64_w, i32_w]
              rfl
            refine done_ (by kernel_rfl) ?_
            have hnb66 := NB571_549.out
            have hnc66 := NB549_571.out
            have hnb67 := NB571_564.out
            have hnc67 := NB564_571.out
            have hnb68 := NB571_579.out
            have hnc68 := NB579_571.out
            have hcz69_0 : w65.cell? ⟨gb571, 0, none⟩ = some (.int .i64 t565) := (blk_cell BK571.out 0).trans rfl
            have hcz69_1 : w65.cell? ⟨gb571, 1, none⟩ = some (.int .i64 t566) := (blk_cell BK571.out 1).trans rfl
            have hcz69_2 : w65.cell? ⟨gb571, 2, none⟩ = some (.int .i64 t567) := (blk_cell BK571.out 2).trans rfl
            have hcz69_3 : w65.cell? ⟨gb571, 3, none⟩ = some (.slice Ao30 t568.length co30) := (blk_cell BK571.out 3).trans rfl
            have hfz69_0 := blk_frozen BK571.out 0
            have hfz69_1 := blk_frozen BK571.out 1
            have hfz69_2 := blk_frozen BK571.out 2
            have hfz69_3 := blk_frozen BK571.out 3
            go_upto_region 14 with (first | ((with_reducible refine gate_callee (f := 35) rfl ?_); refine goesL_ (some 52) rfl rfl Try.func35 (by kernel_rfl) rfl #[.agg #[.int .i64 t565, .int .i64 t566, .int .i64 t567, .slice Ao30 t568.length co30], .int .i64 1] rfl (by (try simp only [List.map_toArray, List.map_cons, List.map_nil]); first | done | rfl | (simp only [List.length_drop, List.length_take]; rfl)) ?_; (with_reducible refine (laws_markLine.calls kj11 t565 t566 t567 (fun k_ => some k_ = (.slice Ao30 t568.length co30 : Value).ownBlock) (.slice Ao30 t568.length co30) t568 1 t588 t589 w _ ?side1 ?side2 A60.out).mono ?_); (case side1 => repeat (first | (with_reducible first | exact HB.out | apply below_alloc | apply pw_below_drewN | apply below_drew1 | refine below_set ?_ GE549.out | refine below_set ?_ GE564.out | refine below_set ?_ GE571.out | refine below_set ?_ GE579.out) | exact HB.out)); (case side2 => exact Kd.R_tight rfl HO_572003.out); rintro e w70 ⟨rfl, hy0, hb, hkp⟩; refine ⟨_, rfl, ?_⟩; have n0_ := Aside0.mk (Kd.R_mono (ok' := fun k_ => some k_ ≠ (.slice Ao30 t568.length co30 : Value).ownBlock ∧ some k_ ≠ (.slice Ao37 t575.length co37 : Value).ownBlock ∧ some k_ ≠ (.slice Ao64 t584.length co64 : Value).ownBlock) (Kd.R_keptB (HO_565003.out) hkp (fun k_ hk_ hs_ => (hk_.1.1) hs_)) (fun k_ hk_ => ⟨hk_.1.1.1, hk_.1.1.2, hk_.1.2⟩)); have n1_ := Aside0.mk (Kd.R_reok rfl hy0 (fun k_ e_ => HO_572003.out.1 k_ e_)); have n2_ := Aside0.mk (Kd.R_mono (ok' := fun k_ => some k_ ≠ (.slice Ao23 t560.length co23 : Value).ownBlock ∧ some k_ ≠ (.slice Ao30 t568.length co30 : Value).ownBlock ∧ some k_ ≠ (.slice Ao64 t584.length co64 : Value).ownBlock) (Kd.R_keptB (HO_580003.out) hkp (fun k_ hk_ hs_ => (hk_.1.2) hs_)) (fun k_ hk_ => ⟨hk_.1.1.1, hk_.1.1.2, hk_.1.2⟩)); have n3_ := Aside0.mk (blk_kept (by (with_reducible repeat (first | refine blk_drewN ?_ _ | refine blk_drew ?_ | refine blk_alloc ?_ _)); exact BK549.out) hkp (fun hs_ => (fun e_ => (Kd.R_ne HO_572003.out BK549.out (by decide)) e_) hs_)); have n4_ := Aside0.mk (blk_kept (by (with_reducible repeat (first | refine blk_drewN ?_ _ | refine blk_drew ?_ | refine blk_alloc ?_ _)); exact BK564.out) hkp (fun hs_ => (fun e_ => (Kd.R_ne HO_572003.out BK564.out (by decide)) e_) hs_)); have n5_ := Aside0.mk (blk_kept (by (with_reducible repeat (first | refine blk_drewN ?_ _ | refine blk_drew ?_ | refine blk_alloc ?_ _)); exact BK571.out) hkp (fun hs_ => (fun e_ => (Kd.R_ne HO_572003.out BK571.out (by decide)) e_) hs_)); have n6_ := Aside0.mk (blk_kept (by (with_reducible repeat (first | refine blk_drewN ?_ _ | refine blk_drew ?_ | refine blk_alloc ?_ _)); exact BK579.out) hkp (fun hs_ => (fun e_ => (Kd.R_ne HO_572003.out BK579.out (by decide)) e_) hs_)); have n7_ := Aside0.mk (Kd.R_mono (ok' := fun k_ => some k_ ≠ (.slice Ao23 t560.length co23 : Value).ownBlock ∧ some k_ ≠ (.slice Ao30 t568.length co30 : Value).ownBlock ∧ some k_ ≠ (.slice Ao37 t575.length co37 : Value).ownBlock) (Kd.R_keptB (HO586.out) hkp (fun k_ hk_ hs_ => (hk_.1.2) hs_)) (fun k_ hk_ => ⟨hk_.1.1.1.2, hk_.1.1.2, hk_.1.2⟩)); have n8_ := Aside0.mk (hb); clear HO_565003; clear HO_572003; clear HO_580003; clear BK549; clear BK564; clear BK571; clear BK579; clear HO586; clear HB; have HO_565003 := n0_; have HO_572003 := n1_; have HO_580003 := n2_; have BK549 := n3_; have BK564 := n4_; have BK571 := n5_; have BK579 := n6_; have HO586 := n7_; have HB := n8_; clear n0_ n1_ n2_ n3_ n4_ n5_ n6_ n7_ n8_; (try clear hb); (try clear hkp); (try clear hy0)))
            (try simp only [Act.put, List.setIfInBounds_toArray, List.set_cons_zero, List.set_cons_succ])
            go_cut [65] (fun v65 wc => ∃ (kq : Nat) (x65_60 : Bool), v65 = .bool x65_60 ∧ Aside0 (laws_FnExactDropBus.j1 kq a1 t563 x65_60 a0_0 a0_1 a0_2 l0_3 t557 t558 t559 t560 t572 t573 t574 t575 = some r) ∧ Aside0 (kq ≤ kj11) ∧ Aside0 (Kd.R (Kd.int .i64) 3 wc w.heap.size (fun k_ => some k_ ≠ ((.slice Ao30 t568.length co30) : Value).ownBlock ∧ some k_ ≠ ((.slice Ao37 t575.length co37) : Value).ownBlock) (.slice Ao23 t560.length co23) t560) ∧ Aside0 (Kd.R (Kd.int .i64) 3 wc w.heap.size (fun k_ => some k_ ≠ ((.slice Ao23 t560.length co23) : Value).ownBlock ∧ some k_ ≠ ((.slice Ao37 t575.length co37) : Value).ownBlock) (.slice Ao30 t568.length co30) t589) ∧ Aside0 (Kd.R (Kd.int .i64) 3 wc w.heap.size (fun k_ => some k_ ≠ ((.slice Ao23 t560.length co23) : Value).ownBlock ∧ some k_ ≠ ((.slice Ao30 t568.length co30) : Value).ownBlock) (.slice Ao37 t575.length co37) t575) ∧ Aside0 (wc.heap[gb549]? = some (.cells #[.int .i64 a0_0, .int .i64 a0_1, .int .i64 a0_2, (.slice A0_3 l0_3.length c0_3)] 24 (0, 0))) ∧ Aside0 (wc.heap[gb564]? = some (.cells #[.int .i64 t557, .int .i64 t558, .int .i64 t559, (.slice Ao23 t560.length co23)] 28 (0, 0))) ∧ Aside0 (wc.heap[gb571]? = some (.cells #[.int .i64 t565, .int .i64 t566, .int .i64 t567, (.slice Ao30 t568.length co30)] 28 (0, 0))) ∧ Aside0 (wc.heap[gb579]? = some (.cells #[.int .i64 t572, .int .i64 t573, .int .i64 t574, (.slice Ao37 t575.length co37)] 28 (0, 0))) ∧ Aside0 (Below w.heap.size w wc))
            case first =>
              have H := HC61.out
              clear HC61
              by_cases c71 : t588 < 0
              · rw [if_pos c71] at H
                have c71b0 : decide (t588 < 0) = true := decide_eq_true c71
                clear c71
                (first | rw [c71b0] | (simp only [i64_w, i32_w]; rw [c71b0]) | skip)
                have H' := Aside0.mk H
                clear H
                go_wp2
                go_meet
                case rel => exact ⟨_, (true), (by first | rfl | (simp; done) | (simp [*]; done)), H', ⟨by have := HJ11.out; first | omega | exact Nat.le_refl _⟩, ⟨by (with_reducible repeat (first | apply Kd.R_alloc | apply Kd.R_drewN | apply Kd.R_drew)); exact Kd.R_mono HO_565003.out (fun _ hk => ⟨hk.1, hk.2.1⟩)⟩, ⟨by (with_reducible repeat (first | apply Kd.R_alloc | apply Kd.R_drewN | apply Kd.R_drew)); exact Kd.R_mono HO_572003.out (fun _ hk => ⟨hk.1.1, hk.1.2⟩)⟩, ⟨by (with_reducible repeat (first | apply Kd.R_alloc | apply Kd.R_drewN | apply Kd.R_drew)); exact Kd.R_mono HO_580003.out (fun _ hk => ⟨hk.1, hk.2.1⟩)⟩, ⟨by (with_reducible repeat (first | refine blk_drewN ?_ _ | refine blk_drew ?_ | refine blk_alloc ?_ _)); exact BK549.out⟩, ⟨by (with_reducible repeat (first | refine blk_drewN ?_ _ | refine blk_drew ?_ | refine blk_alloc ?_ _)); exact BK564.out⟩, ⟨by (with_reducible repeat (first | refine blk_drewN ?_ _ | refine blk_drew ?_ | refine blk_alloc ?_ _)); exact BK571.out⟩, ⟨by (with_reducible repeat (first | refine blk_drewN ?_ _ | refine blk_drew ?_ | refine blk_alloc ?_ _)); exact BK579.out⟩, ⟨by repeat (first | (with_reducible first | exact HB.out | apply below_alloc | apply pw_below_drewN | apply below_drew1 | refine below_set ?_ GE549.out | refine below_set ?_ GE564.out | refine below_set ?_ GE571.out | refine below_set ?_ GE579.out) | exact HB.out)⟩⟩
              · rw [if_neg c71] at H
                have c71b0 : decide (t588 < 0) = false := decide_eq_false c71
                clear c71
                (first | rw [c71b0] | (simp only [i64_w, i32_w]; rw [c71b0]) | skip)
                replace H := Option.bind_eq_some_iff.mp H
                obtain ⟨t590, A720, H⟩ := H
                replace H : (if t590 = true then (laws_FnExactDropBus.j1 kj11 a1 t563 (t578 != t563) a0_0 a0_1 a0_2 l0_3 t557 t558 t559 t560 t572 t573 t574 t575) else (laws_FnExactDropBus.j1 kj11 a1 t563 true a0_0 a0_1 a0_2 l0_3 t557 t558 t559 t560 t572 t573 t574 t575)) = some r := H
                have A72 := Aside0.mk A720
                clear A720
                by_cases c73 : t590 = true
                · subst c73
                  have H1 : (laws_FnExactDropBus.j1 kj11 a1 t563 (t578 != t563) a0_0 a0_1 a0_2 l0_3 t557 t558 t559 t560 t572 t573 t574 t575) = some r := by rw [if_pos rfl] at H; exact H
                  clear H
                  have H := H1
                  clear H1
                  have H' := Aside0.mk H
                  clear H
                  have hnb74 := NB579_549.out
                  have hnc74 := NB549_579.out
                  have hnb75 := NB579_564.out
                  have hnc75 := NB564_579.out
                  have hnb76 := NB579_571.out
                  have hnc76 := NB571_579.out
                  have hcz77_0 : w70.cell? ⟨gb579, 0, none⟩ = some (.int .i64 t572) := (blk_cell BK579.out 0).trans rfl
                  have hcz77_1 : w70.cell? ⟨gb579, 1, none⟩ = some (.int .i64 t573) := (blk_cell BK579.out 1).trans rfl
                  have hcz77_2 : w70.cell? ⟨gb579, 2, none⟩ = some (.int .i64 t574) := (blk_cell BK579.out 2).trans rfl
                  have hcz77_3 : w70.cell? ⟨gb579, 3, none⟩ = some (.slice Ao37 t575.length co37) := (blk_cell BK579.out 3).trans rfl
                  have hfz77_0 := blk_frozen BK579.out 0
                  have hfz77_1 := blk_frozen BK579.out 1
                  have hfz77_2 := blk_frozen BK579.out 2
                  have hfz77_3 := blk_frozen BK579.out 3
                  have hnb78 := NB564_549.out
                  have hnc78 := NB549_564.out
                  have hnb79 := NB564_571.out
                  have hnc79 := NB571_564.out
                  have hcz80_0 : w70.cell? ⟨gb564, 0, none⟩ = some (.int .i64 t557) := (blk_cell BK564.out 0).trans rfl
                  have hcz80_1 : w70.cell? ⟨gb564, 1, none⟩ = some (.int .i64 t558) := (blk_cell BK564.out 1).trans rfl
                  have hcz80_2 : w70.cell? ⟨gb564, 2, none⟩ = some (.int .i64 t559) := (blk_cell BK564.out 2).trans rfl
                  have hcz80_3 : w70.cell? ⟨gb564, 3, none⟩ = some (.slice Ao23 t560.length co23) := (blk_cell BK564.out 3).trans rfl
                  have hfz80_0 := blk_frozen BK564.out 0
                  have hfz80_1 := blk_frozen BK564.out 1
                  have hfz80_2 := blk_frozen BK564.out 2
                  have hfz80_3 := blk_frozen BK564.out 3
                  go_wp2_with (first | (go_at_call 19; (with_reducible refine (laws_eqLine.calls kj11 t572 t573 t574 _ _ t575 t557 t558 t559 _ _ t560 true _ ?side1 ?side2 ?side3 ?side4 A72.out).mono ?_); (case side1 => repeat (first | exact (Kd.R_reads' HO_580003.out).2.2 | (with_reducible refine Kd.C_alloc ?_ _) | (with_reducible refine Kd.C_drewN ?_ _) | (with_reducible refine Kd.C_drew ?_))); (case side2 => exact (Kd.R_reads' HO_580003.out).2.1); (case side3 => repeat (first | exact (Kd.R_reads' HO_565003.out).2.2 | (with_reducible refine Kd.C_alloc ?_ _) | (with_reducible refine Kd.C_drewN ?_ _) | (with_reducible refine Kd.C_drew ?_))); (case side4 => exact (Kd.R_reads' HO_565003.out).2.1); rintro e w81 ⟨rfl, hb⟩; have n0_ := Aside0.mk (Kd.R_below (by (with_reducible repeat (first | apply Kd.R_alloc | apply Kd.R_drewN | apply Kd.R_drew)); exact HO_565003.out) hb); have n1_ := Aside0.mk (Kd.R_below (by (with_reducible repeat (first | apply Kd.R_alloc | apply Kd.R_drewN | apply Kd.R_drew)); exact HO_572003.out) hb); have n2_ := Aside0.mk (Kd.R_below (by (with_reducible repeat (first | apply Kd.R_alloc | apply Kd.R_drewN | apply Kd.R_drew)); exact HO_580003.out) hb); have n3_ := Aside0.mk (Kd.R_below (by (with_reducible repeat (first | apply Kd.R_alloc | apply Kd.R_drewN | apply Kd.R_drew)); exact HO586.out) hb); have n4_ := Aside0.mk (blk_below (g := gb549) (o := .cells #[.int .i64 a0_0, .int .i64 a0_1, .int .i64 a0_2, .slice A0_3 l0_3.length c0_3] 24 (0, 0)) (by (with_reducible repeat (first | refine blk_drewN ?_ _ | refine blk_drew ?_ | refine blk_alloc ?_ _)); exact BK549.out) hb); have n5_ := Aside0.mk (blk_below (g := gb564) (o := .cells #[.int .i64 t557, .int .i64 t558, .int .i64 t559, .slice Ao23 t560.length co23] 28 (0, 0)) (by (with_reducible repeat (first | refine blk_drewN ?_ _ | refine blk_drew ?_ | refine blk_alloc ?_ _)); exact BK564.out) hb); have n6_ := Aside0.mk (blk_below (g := gb571) (o := .cells #[.int .i64 t565, .int .i64 t566, .int .i64 t567, .slice Ao30 t568.length co30] 28 (0, 0)) (by (with_reducible repeat (first | refine blk_drewN ?_ _ | refine blk_drew ?_ | refine blk_alloc ?_ _)); exact BK571.out) hb); have n7_ := Aside0.mk (blk_below (g := gb579) (o := .cells #[.int .i64 t572, .int .i64 t573, .int .i64 t574, .slice Ao37 t575.length co37] 28 (0, 0)) (by (with_reducible repeat (first | refine blk_drewN ?_ _ | refine blk_drew ?_ | refine blk_alloc ?_ _)); exact BK579.out) hb); have n8_ := Aside0.mk (below_step (by repeat (first | (with_reducible first | exact HB.out | apply below_alloc | apply pw_below_drewN | apply below_drew1 | refine below_set ?_ GE549.out | refine below_set ?_ GE564.out | refine below_set ?_ GE571.out | refine below_set ?_ GE579.out) | exact HB.out)) hb); clear HO_565003; clear HO_572003; clear HO_580003; clear HO586; clear BK549; clear BK564; clear BK571; clear BK579; clear HB; have HO_565003 := n0_; have HO_572003 := n1_; have HO_580003 := n2_; have HO586 := n3_; have BK549 := n4_; have BK564 := n5_; have BK571 := n6_; have BK579 := n7_; have HB := n8_; clear n0_ n1_ n2_ n3_ n4_ n5_ n6_ n7_ n8_; (try clear hb); (try clear hb2); (try clear hk); (try clear hi)))
                  go_meet
                  case rel => exact ⟨_, ((t578 != t563)), (by first | rfl | (simp; done) | (simp [*]; done)), H', ⟨by have := HJ11.out; first | omega | exact Nat.le_refl _⟩, ⟨by (with_reducible repeat (first | apply Kd.R_alloc | apply Kd.R_drewN | apply Kd.R_drew)); exact Kd.R_mono HO_565003.out (fun _ hk => ⟨hk.1, hk.2.1⟩)⟩, ⟨by (with_reducible repeat (first | apply Kd.R_alloc | apply Kd.R_drewN | apply Kd.R_drew)); exact Kd.R_mono HO_572003.out (fun _ hk => ⟨hk.1.1, hk.1.2⟩)⟩, ⟨by (with_reducible repeat (first | apply Kd.R_alloc | apply Kd.R_drewN | apply Kd.R_drew)); exact Kd.R_mono HO_580003.out (fun _ hk => ⟨hk.1, hk.2.1⟩)⟩, ⟨by (with_reducible repeat (first | refine blk_drewN ?_ _ | refine blk_drew ?_ | refine blk_alloc ?_ _)); exact BK549.out⟩, ⟨by (with_reducible repeat (first | refine blk_drewN ?_ _ | refine blk_drew ?_ | refine blk_alloc ?_ _)); exact BK564.out⟩, ⟨by (with_reducible repeat (first | refine blk_drewN ?_ _ | refine blk_drew ?_ | refine blk_alloc ?_ _)); exact BK571.out⟩, ⟨by (with_reducible repeat (first | refine blk_drewN ?_ _ | refine blk_drew ?_ | refine blk_alloc ?_ _)); exact BK579.out⟩, ⟨by repeat (first | (with_reducible first | exact HB.out | apply below_alloc | apply pw_below_drewN | apply below_drew1 | refine below_set ?_ GE549.out | refine below_set ?_ GE564.out | refine below_set ?_ GE571.out | refine below_set ?_ GE579.out) | exact HB.out)⟩⟩
                · replace c73 := Bool.eq_false_iff.mpr c73
                  subst c73
                  have H1 : (laws_FnExactDropBus.j1 kj11 a1 t563 true a0_0 a0_1 a0_2 l0_3 t557 t558 t559 t560 t572 t573 t574 t575) = some r := by rw [if_neg (show ¬ (false = true) by decide)] at H; exact H
                  clear H
                  have H := H1
                  clear H1
                  have H' := Aside0.mk H
                  clear H
                  have hnb82 := NB579_549.out
                  have hnc82 := NB549_579.out
                  have hnb83 := NB579_564.out
                  have hnc83 := NB564_579.out
                  have hnb84 := NB579_571.out
                  have hnc84 := NB571_579.out
                  have hcz85_0 : w70.cell? ⟨gb579, 0, none⟩ = some (.int .i64 t572) := (blk_cell BK579.out 0).trans rfl
                  have hcz85_1 : w70.cell? ⟨gb579, 1, none⟩ = some (.int .i64 t573) := (blk_cell BK579.out 1).trans rfl
                  have hcz85_2 : w70.cell? ⟨gb579, 2, none⟩ = some (.int .i64 t574) := (blk_cell BK579.out 2).trans rfl
                  have hcz85_3 : w70.cell? ⟨gb579, 3, none⟩ = some (.slice Ao37 t575.length co37) := (blk_cell BK579.out 3).trans rfl
                  have hfz85_0 := blk_frozen BK579.out 0
                  have hfz85_1 := blk_frozen BK579.out 1
                  have hfz85_2 := blk_frozen BK579.out 2
                  have hfz85_3 := blk_frozen BK579.out 3
                  have hnb86 := NB564_549.out
                  have hnc86 := NB549_564.out
                  have hnb87 := NB564_571.out
                  have hnc87 := NB571_564.out
                  have hcz88_0 : w70.cell? ⟨gb564, 0, none⟩ = some (.int .i64 t557) := (blk_cell BK564.out 0).trans rfl
                  have hcz88_1 : w70.cell? ⟨gb564, 1, none⟩ = some (.int .i64 t558) := (blk_cell BK564.out 1).trans rfl
                  have hcz88_2 : w70.cell? ⟨gb564, 2, none⟩ = some (.int .i64 t559) := (blk_cell BK564.out 2).trans rfl
                  have hcz88_3 : w70.cell? ⟨gb564, 3, none⟩ = some (.slice Ao23 t560.length co23) := (blk_cell BK564.out 3).trans rfl
                  have hfz88_0 := blk_frozen BK564.out 0
                  have hfz88_1 := blk_frozen BK564.out 1
                  have hfz88_2 := blk_frozen BK564.out 2
                  have hfz88_3 := blk_frozen BK564.out 3
                  go_wp2_with (first | (go_at_call 19; (with_reducible refine (laws_eqLine.calls kj11 t572 t573 t574 _ _ t575 t557 t558 t559 _ _ t560 false _ ?side1 ?side2 ?side3 ?side4 A72.out).mono ?_); (case side1 => repeat (first | exact (Kd.R_reads' HO_580003.out).2.2 | (with_reducible refine Kd.C_alloc ?_ _) | (with_reducible refine Kd.C_drewN ?_ _) | (with_reducible refine Kd.C_drew ?_))); (case side2 => exact (Kd.R_reads' HO_580003.out).2.1); (case side3 => repeat (first | exact (Kd.R_reads' HO_565003.out).2.2 | (with_reducible refine Kd.C_alloc ?_ _) | (with_reducible refine Kd.C_drewN ?_ _) | (with_reducible refine Kd.C_drew ?_))); (case side4 => exact (Kd.R_reads' HO_565003.out).2.1); rintro e w89 ⟨rfl, hb⟩; have n0_ := Aside0.mk (Kd.R_below (by (with_reducible repeat (first | apply Kd.R_alloc | apply Kd.R_drewN | apply Kd.R_drew)); exact HO_565003.out) hb); have n1_ := Aside0.mk (Kd.R_below (by (with_reducible repeat (first | apply Kd.R_alloc | apply Kd.R_drewN | apply Kd.R_drew)); exact HO_572003.out) hb); have n2_ := Aside0.mk (Kd.R_below (by (with_reducible repeat (first | apply Kd.R_alloc | apply Kd.R_drewN | apply Kd.R_drew)); exact HO_580003.out) hb); have n3_ := Aside0.mk (Kd.R_below (by (with_reducible repeat (first | apply Kd.R_alloc | apply Kd.R_drewN | apply Kd.R_drew)); exact HO586.out) hb); have n4_ := Aside0.mk (blk_below (g := gb549) (o := .cells #[.int .i64 a0_0, .int .i64 a0_1, .int .i64 a0_2, .slice A0_3 l0_3.length c0_3] 24 (0, 0)) (by (with_reducible repeat (first | refine blk_drewN ?_ _ | refine blk_drew ?_ | refine blk_alloc ?_ _)); exact BK549.out) hb); have n5_ := Aside0.mk (blk_below (g := gb564) (o := .cells #[.int .i64 t557, .int .i64 t558, .int .i64 t559, .slice Ao23 t560.length co23] 28 (0, 0)) (by (with_reducible repeat (first | refine blk_drewN ?_ _ | refine blk_drew ?_ | refine blk_alloc ?_ _)); exact BK564.out) hb); have n6_ := Aside0.mk (blk_below (g := gb571) (o := .cells #[.int .i64 t565, .int .i64 t566, .int .i64 t567, .slice Ao30 t568.length co30] 28 (0, 0)) (by (with_reducible repeat (first | refine blk_drewN ?_ _ | refine blk_drew ?_ | refine blk_alloc ?_ _)); exact BK571.out) hb); have n7_ := Aside0.mk (blk_below (g := gb579) (o := .cells #[.int .i64 t572, .int .i64 t573, .int .i64 t574, .slice Ao37 t575.length co37] 28 (0, 0)) (by (with_reducible repeat (first | refine blk_drewN ?_ _ | refine blk_drew ?_ | refine blk_alloc ?_ _)); exact BK579.out) hb); have n8_ := Aside0.mk (below_step (by repeat (first | (with_reducible first | exact HB.out | apply below_alloc | apply pw_below_drewN | apply below_drew1 | refine below_set ?_ GE549.out | refine below_set ?_ GE564.out | refine below_set ?_ GE571.out | refine below_set ?_ GE579.out) | exact HB.out)) hb); clear HO_565003; clear HO_572003; clear HO_580003; clear HO586; clear BK549; clear BK564; clear BK571; clear BK579; clear HB; have HO_565003 := n0_; have HO_572003 := n1_; have HO_580003 := n2_; have HO586 := n3_; have BK549 := n4_; have BK564 := n5_; have BK571 := n6_; have BK579 := n7_; have HB := n8_; clear n0_ n1_ n2_ n3_ n4_ n5_ n6_ n7_ n8_; (try clear hb); (try clear hb2); (try clear hk); (try clear hi)))
                  go_meet
                  case rel => exact ⟨_, (true), (by first | rfl | (simp; done) | (simp [*]; done)), H', ⟨by have := HJ11.out; first | omega | exact Nat.le_refl _⟩, ⟨by (with_reducible repeat (first | apply Kd.R_alloc | apply Kd.R_drewN | apply Kd.R_drew)); exact Kd.R_mono HO_565003.out (fun _ hk => ⟨hk.1, hk.2.1⟩)⟩, ⟨by (with_reducible repeat (first | apply Kd.R_alloc | apply Kd.R_drewN | apply Kd.R_drew)); exact Kd.R_mono HO_572003.out (fun _ hk => ⟨hk.1.1, hk.1.2⟩)⟩, ⟨by (with_reducible repeat (first | apply Kd.R_alloc | apply Kd.R_drewN | apply Kd.R_drew)); exact Kd.R_mono HO_580003.out (fun _ hk => ⟨hk.1, hk.2.1⟩)⟩, ⟨by (with_reducible repeat (first | refine blk_drewN ?_ _ | refine blk_drew ?_ | refine blk_alloc ?_ _)); exact BK549.out⟩, ⟨by (with_reducible repeat (first | refine blk_drewN ?_ _ | refine blk_drew ?_ | refine blk_alloc ?_ _)); exact BK564.out⟩, ⟨by (with_reducible repeat (first | refine blk_drewN ?_ _ | refine blk_drew ?_ | refine blk_alloc ?_ _)); exact BK571.out⟩, ⟨by (with_reducible repeat (first | refine blk_drewN ?_ _ | refine blk_drew ?_ | refine blk_alloc ?_ _)); exact BK579.out⟩, ⟨by repeat (first | (with_reducible first | exact HB.out | apply below_alloc | apply pw_below_drewN | apply below_drew1 | refine below_set ?_ GE549.out | refine below_set ?_ GE564.out | refine below_set ?_ GE571.out | refine below_set ?_ GE579.out) | exact HB.out)⟩⟩
            case rest =>
              clear HC61
              try clear c1
              try clear c2
              try clear p2
              try clear c3
              try clear c4
              try clear c4b0
              try clear c5
              try clear c6
              try clear c7
              try clear c8
              try clear c11
              try clear c15
              try clear c17
              try clear c19
              try clear c21
              try clear c27
              try clear c28
              try clear c33
              try clear c34
              try clear c35
              try clear c38
              try clear c39
              try clear c40
              try clear c41
              try clear c42
              try clear c44
              try clear c45
              try clear c48
              try clear c49
              try clear c50
              try clear c52
              try clear c53
              try clear c56
              try clear c59
              try clear c66
              try clear c67
              try clear c68
              try clear c71
              try clear c71b0
              try clear c73
              try clear c74
              try clear c75
              try clear c76
              try clear c78
              try clear c79
              try clear c82
              try clear c83
              try clear c84
              try clear c86
              try clear c87
              try clear hcz14_0
              try clear hcz14_1
              try clear hcz14_2
              try clear hcz14_3
              try clear hcz16_0
              try clear hcz16_1
              try clear hcz16_2
              try clear hcz16_3
              try clear hcz22_0
              try clear hcz22_1
              try clear hcz22_2
              try clear hcz22_3
              try clear hcz24_0
              try clear hcz24_1
              try clear hcz24_2
              try clear hcz24_3
              try clear hcz29_0
              try clear hcz29_1
              try clear hcz29_2
              try clear hcz29_3
              try clear hcz36_0
              try clear hcz36_1
              try clear hcz36_2
              try clear hcz36_3
              try clear hcz43_0
              try clear hcz43_1
              try clear hcz43_2
              try clear hcz43_3
              try clear hcz46_0
              try clear hcz46_1
              try clear hcz46_2
              try clear hcz46_3
              try clear hcz51_0
              try clear hcz51_1
              try clear hcz51_2
              try clear hcz51_3
              try clear hcz54_0
              try clear hcz54_1
              try clear hcz54_2
              try clear hcz54_3
              try clear hcz69_0
              try clear hcz69_1
              try clear hcz69_2
              try clear hcz69_3
              try clear hcz6_0
              try clear hcz6_1
              try clear hcz6_2
              try clear hcz6_3
              try clear hcz77_0
              try clear hcz77_1
              try clear hcz77_2
              try clear hcz77_3
              try clear hcz80_0
              try clear hcz80_1
              try clear hcz80_2
              try clear hcz80_3
              try clear hcz85_0
              try clear hcz85_1
              try clear hcz85_2
              try clear hcz85_3
              try clear hcz88_0
              try clear hcz88_1
              try clear hcz88_2
              try clear hcz88_3
              try clear hfz14_0
              try clear hfz14_1
              try clear hfz14_2
              try clear hfz14_3
              try clear hfz16_0
              try clear hfz16_1
              try clear hfz16_2
              try clear hfz16_3
              try clear hfz22_0
              try clear hfz22_1
              try clear hfz22_2
              try clear hfz22_3
              try clear hfz24_0
              try clear hfz24_1
              try clear hfz24_2
              try clear hfz24_3
              try clear hfz29_0
              try clear hfz29_1
              try clear hfz29_2
              try clear hfz29_3
              try clear hfz36_0
              try clear hfz36_1
              try clear hfz36_2
              try clear hfz36_3
              try clear hfz43_0
              try clear hfz43_1
              try clear hfz43_2
              try clear hfz43_3
              try clear hfz46_0
              try clear hfz46_1
              try clear hfz46_2
              try clear hfz46_3
              try clear hfz51_0
              try clear hfz51_1
              try clear hfz51_2
              try clear hfz51_3
              try clear hfz54_0
              try clear hfz54_1
              try clear hfz54_2
              try clear hfz54_3
              try clear hfz69_0
              try clear hfz69_1
              try clear hfz69_2
              try clear hfz69_3
              try clear hfz6_0
              try clear hfz6_1
              try clear hfz6_2
              try clear hfz6_3
              try clear hfz77_0
              try clear hfz77_1
              try clear hfz77_2
              try clear hfz77_3
              try clear hfz80_0
              try clear hfz80_1
              try clear hfz80_2
              try clear hfz80_3
              try clear hfz85_0
              try clear hfz85_1
              try clear hfz85_2
              try clear hfz85_3
              try clear hfz88_0
              try clear hfz88_1
              try clear hfz88_2
              try clear hfz88_3
              try clear p2
              obtain ⟨kq, x65_60, rfl, HA, HJ60, HO_565003, HO_572003, HO_580003, BK549, BK564, BK571, BK579, HB⟩ := hcut
              have hl572003_60 := (Kd.R_reads' HO_572003.out).1
              rw [hl572003_60] at HO_572003
              (try simp only [hl572003_60])
              (try simp only [hl572003_60] at BK549)
              (try simp only [hl572003_60] at BK564)
              (try simp only [hl572003_60] at BK571)
              (try simp only [hl572003_60] at BK579)
              (try simp only [hl572003_60] at HO_565003)
              (try simp only [hl572003_60] at HO_580003)
              cases kq with
              | zero => exact absurd HA.out (by simp [laws_FnExactDropBus.j1])
              | succ kj60 =>
                have H := HA.out
                clear HA
                simp only [laws_FnExactDropBus.j1] at H
                by_cases c90 : x65_60 = true
                · subst c90
                  have H1 : (some false) = some r := by rw [if_pos rfl] at H; exact H
                  clear H
                  have H := H1
                  clear H1
                  obtain rfl := Option.some.inj H
                  go_wp2
                  go_ret
                  exact ⟨by first | rfl | (simp [errW_none, errW_some] <;> rfl) | (simp [*, errW_none, errW_some] <;> rfl), by repeat (first | (with_reducible first | exact HB.out | apply below_alloc | apply pw_below_drewN | apply below_drew1 | refine below_set ?_ GE549.out | refine below_set ?_ GE564.out | refine below_set ?_ GE571.out | refine below_set ?_ GE579.out) | exact HB.out)⟩
                · replace c90 := Bool.eq_false_iff.mpr c90
                  subst c90
                  have H1 : ((laws_markLine.f kj60 t572 t573 t574 t575 1).bind fun bt591 => ((laws_heldLine.f kj60 t572 t573 t574 bt591.2 1).bind fun t593 => (if t593 < 0 then (some false) else (if t593 = bt591.1 then ((laws_toLine.f kj60 a0_0 a0_1 a0_2 l0_3).bind fun bt594 => ((impl_DropBus.f kj60 bt594.1 bt594.2.1 bt594.2.2.1 bt594.2.2.2 a1).bind fun bt600 => ((laws_eqLine.f kj60 bt600.1 bt600.2.1 bt600.2.2.1 bt600.2.2.2.1 t557 t558 t559 t560).bind fun t608 => (if t608 = true then (laws_FnExactDropBus.j2 kj60 bt591.1 (bt600.2.2.2.2 != t563) t572 t573 t574 bt591.2) else (laws_FnExactDropBus.j2 kj60 bt591.1 true t572 t573 t574 bt591.2))))) else (some false))))) = some r := by rw [if_neg (show ¬ (false = true) by decide)] at H; exact H
                  clear H
                  have H := H1
                  clear H1
                  replace H := Option.bind_eq_some_iff.mp H
                  obtain ⟨⟨t591, t592⟩, A910, H⟩ := H
                  replace H : ((laws_heldLine.f kj60 t572 t573 t574 t592 1).bind fun t593 => (if t593 < 0 then (some false) else (if t593 = t591 then ((laws_toLine.f kj60 a0_0 a0_1 a0_2 l0_3).bind fun bt594 => ((impl_DropBus.f kj60 bt594.1 bt594.2.1 bt594.2.2.1 bt594.2.2.2 a1).bind fun bt600 => ((laws_eqLine.f kj60 bt600.1 bt600.2.1 bt600.2.2.1 bt600.2.2.2.1 t557 t558 t559 t560).bind fun t608 => (if t608 = true then (laws_FnExactDropBus.j2 kj60 t591 (bt600.2.2.2.2 != t563) t572 t573 t574 t592) else (laws_FnExactDropBus.j2 kj60 t591 true t572 t573 t574 t592))))) else (some false)))) = some r := H
                  have A91 := Aside0.mk A910
                  clear A910
                  replace H := Option.bind_eq_some_iff.mp H
                  obtain ⟨t593, A920, H⟩ := H
                  replace H : (if t593 < 0 then (some false) else (if t593 = t591 then ((laws_toLine.f kj60 a0_0 a0_1 a0_2 l0_3).bind fun bt594 => ((impl_DropBus.f kj60 bt594.1 bt594.2.1 bt594.2.2.1 bt594.2.2.2 a1).bind fun bt600 => ((laws_eqLine.f kj60 bt600.1 bt600.2.1 bt600.2.2.1 bt600.2.2.2.1 t557 t558 t559 t560).bind fun t608 => (if t608 = true then (laws_FnExactDropBus.j2 kj60 t591 (bt600.2.2.2.2 != t563) t572 t573 t574 t592) else (laws_FnExactDropBus.j2 kj60 t591 true t572 t573 t574 t592))))) else (some false))) = some r := H
                  have A92 := Aside0.mk A920
                  clear A920
                  by_cases c93 : t593 < 0
                  · rw [if_pos c93] at H
                    have c93b0 : decide (t593 < 0) = true := decide_eq_true c93
                    clear c93
                    obtain rfl := Option.some.inj H
                    have hnb94 := NB579_549.out
                    have hnc94 := NB549_579.out
                    have hnb95 := NB579_564.out
                    have hnc95 := NB564_579.out
                    have hnb96 := NB579_571.out
                    have hnc96 := NB571_579.out
                    have hcz97_0 : wc.cell? ⟨gb579, 0, none⟩ = some (.int .i64 t572) := (blk_cell BK579.out 0).trans rfl
                    have hcz97_1 : wc.cell? ⟨gb579, 1, none⟩ = some (.int .i64 t573) := (blk_cell BK579.out 1).trans rfl
                    have hcz97_2 : wc.cell? ⟨gb579, 2, none⟩ = some (.int .i64 t574) := (blk_cell BK579.out 2).trans rfl
                    have hcz97_3 : wc.cell? ⟨gb579, 3, none⟩ = some (.slice Ao37 t575.length co37) := (blk_cell BK579.out 3).trans rfl
                    have hfz97_0 := blk_frozen BK579.out 0
                    have hfz97_1 := blk_frozen BK579.out 1
                    have hfz97_2 := blk_frozen BK579.out 2
                    have hfz97_3 := blk_frozen BK579.out 3
                    go_wp2_with (first | ((with_reducible refine gate_callee (f := 35) rfl ?_); refine goesL_ (some 68) rfl rfl Try.func35 (by kernel_rfl) rfl #[.agg #[.int .i64 t572, .int .i64 t573, .int .i64 t574, .slice Ao37 t575.length co37], .int .i64 1] rfl (by (try simp only [List.map_toArray, List.map_cons, List.map_nil]); first | done | rfl | (simp only [List.length_drop, List.length_take]; rfl)) ?_; (with_reducible refine (laws_markLine.calls kj60 t572 t573 t574 (fun k_ => some k_ = (.slice Ao37 t575.length co37 : Value).ownBlock) (.slice Ao37 t575.length co37) t575 1 t591 t592 w _ ?side1 ?side2 A91.out).mono ?_); (case side1 => repeat (first | (with_reducible first | exact HB.out | apply below_alloc | apply pw_below_drewN | apply below_drew1 | refine below_set ?_ GE549.out | refine below_set ?_ GE564.out | refine below_set ?_ GE571.out | refine below_set ?_ GE579.out) | exact HB.out)); (case side2 => exact Kd.R_tight rfl HO_580003.out); rintro e w98 ⟨rfl, hy0, hb, hkp⟩; refine ⟨_, rfl, ?_⟩; have n0_ := Aside0.mk (Kd.R_mono (ok' := fun k_ => some k_ ≠ (.slice Ao30 t589.length co30 : Value).ownBlock ∧ some k_ ≠ (.slice Ao37 t575.length co37 : Value).ownBlock) (Kd.R_keptB (HO_565003.out) hkp (fun k_ hk_ hs_ => (hk_.2) hs_)) (fun k_ hk_ => ⟨hk_.1.1, hk_.1.2⟩)); have n1_ := Aside0.mk (Kd.R_mono (ok' := fun k_ => some k_ ≠ (.slice Ao23 t560.length co23 : Value).ownBlock ∧ some k_ ≠ (.slice Ao37 t575.length co37 : Value).ownBlock) (Kd.R_keptB (HO_572003.out) hkp (fun k_ hk_ hs_ => (hk_.2) hs_)) (fun k_ hk_ => ⟨hk_.1.1, hk_.1.2⟩)); have n2_ := Aside0.mk (Kd.R_reok rfl hy0 (fun k_ e_ => HO_580003.out.1 k_ e_)); have n3_ := Aside0.mk (blk_kept (by (with_reducible repeat (first | refine blk_drewN ?_ _ | refine blk_drew ?_ | refine blk_alloc ?_ _)); exact BK549.out) hkp (fun hs_ => (fun e_ => (Kd.R_ne HO_580003.out BK549.out (by decide)) e_) hs_)); have n4_ := Aside0.mk (blk_kept (by (with_reducible repeat (first | refine blk_drewN ?_ _ | refine blk_drew ?_ | refine blk_alloc ?_ _)); exact BK564.out) hkp (fun hs_ => (fun e_ => (Kd.R_ne HO_580003.out BK564.out (by decide)) e_) hs_)); have n5_ := Aside0.mk (blk_kept (by (with_reducible repeat (first | refine blk_drewN ?_ _ | refine blk_drew ?_ | refine blk_alloc ?_ _)); exact BK571.out) hkp (fun hs_ => (fun e_ => (Kd.R_ne HO_580003.out BK571.out (by decide)) e_) hs_)); have n6_ := Aside0.mk (blk_kept (by (with_reducible repeat (first | refine blk_drewN ?_ _ | refine blk_drew ?_ | refine blk_alloc ?_ _)); exact BK579.out) hkp (fun hs_ => (fun e_ => (Kd.R_ne HO_580003.out BK579.out (by decide)) e_) hs_)); have n7_ := Aside0.mk (hb); clear HO_565003; clear HO_572003; clear HO_580003; clear BK549; clear BK564; clear BK571; clear BK579; clear HB; have HO_565003 := n0_; have HO_572003 := n1_; have HO_580003 := n2_; have BK549 := n3_; have BK564 := n4_; have BK571 := n5_; have BK579 := n6_; have HB := n7_; clear n0_ n1_ n2_ n3_ n4_ n5_ n6_ n7_; (try clear hb); (try clear hkp); (try clear hy0); have hcz99_0 : w98.cell? ⟨gb579, 0, none⟩ = some (.int .i64 t572) := (blk_cell BK579.out 0).trans rfl; have hcz99_1 : w98.cell? ⟨gb579, 1, none⟩ = some (.int .i64 t573) := (blk_cell BK579.out 1).trans rfl; have hcz99_2 : w98.cell? ⟨gb579, 2, none⟩ = some (.int .i64 t574) := (blk_cell BK579.out 2).trans rfl; have hcz99_3 : w98.cell? ⟨gb579, 3, none⟩ = some (.slice Ao37 t575.length co37) := (blk_cell BK579.out 3).trans rfl; have hfz99_0 := blk_frozen BK579.out 0; have hfz99_1 := blk_frozen BK579.out 1; have hfz99_2 := blk_frozen BK579.out 2; have hfz99_3 := blk_frozen BK579.out 3) | ((with_reducible refine gate_callee (f := 40) rfl ?_); refine goesL_ (some 71) rfl rfl Try.func40 (by kernel_rfl) rfl #[.agg #[.int .i64 t572, .int .i64 t573, .int .i64 t574, .slice Ao37 t592.length co37], .int .i64 1] rfl (by (try simp only [List.map_toArray, List.map_cons, List.map_nil]); first | done | (rw [show t592.length = t575.length from (Kd.R_reads' HO_580003.out).1.symm] <;> rfl) | rfl | (simp only [List.length_drop, List.length_take]; rfl)) ?_; (with_reducible refine (laws_heldLine.calls kj60 t572 t573 t574 _ _ t592 1 t593 _ ?side1 ?side2 A92.out).mono ?_); (case side1 => repeat (first | exact (Kd.R_reads' HO_580003.out).2.2 | (with_reducible refine Kd.C_alloc ?_ _) | (with_reducible refine Kd.C_drewN ?_ _) | (with_reducible refine Kd.C_drew ?_))); (case side2 => rw [show t592.length = t575.length from (Kd.R_reads' HO_580003.out).1.symm]; exact (Kd.R_reads' HO_580003.out).2.1); rintro e w100 ⟨rfl, hb⟩; refine ⟨_, rfl, ?_⟩; have n0_ := Aside0.mk (Kd.R_below (by (with_reducible repeat (first | apply Kd.R_alloc | apply Kd.R_drewN | apply Kd.R_drew)); exact HO_565003.out) hb); have n1_ := Aside0.mk (Kd.R_below (by (with_reducible repeat (first | apply Kd.R_alloc | apply Kd.R_drewN | apply Kd.R_drew)); exact HO_572003.out) hb); have n2_ := Aside0.mk (Kd.R_below (by (with_reducible repeat (first | apply Kd.R_alloc | apply Kd.R_drewN | apply Kd.R_drew)); exact HO_580003.out) hb); have n3_ := Aside0.mk (blk_below (g := gb549) (o := .cells #[.int .i64 a0_0, .int .i64 a0_1, .int .i64 a0_2, .slice A0_3 l0_3.length c0_3] 24 (0, 0)) (by (with_reducible repeat (first | refine blk_drewN ?_ _ | refine blk_drew ?_ | refine blk_alloc ?_ _)); exact BK549.out) hb); have n4_ := Aside0.mk (blk_below (g := gb564) (o := .cells #[.int .i64 t557, .int .i64 t558, .int .i64 t559, .slice Ao23 t560.length co23] 28 (0, 0)) (by (with_reducible repeat (first | refine blk_drewN ?_ _ | refine blk_drew ?_ | refine blk_alloc ?_ _)); exact BK564.out) hb); have n5_ := Aside0.mk (blk_below (g := gb571) (o := .cells #[.int .i64 t565, .int .i64 t566, .int .i64 t567, .slice Ao30 t589.length co30] 28 (0, 0)) (by (with_reducible repeat (first | refine blk_drewN ?_ _ | refine blk_drew ?_ | refine blk_alloc ?_ _)); exact BK571.out) hb); have n6_ := Aside0.mk (blk_below (g := gb579) (o := .cells #[.int .i64 t572, .int .i64 t573, .int .i64 t574, .slice Ao37 t575.length co37] 28 (0, 0)) (by (with_reducible repeat (first | refine blk_drewN ?_ _ | refine blk_drew ?_ | refine blk_alloc ?_ _)); exact BK579.out) hb); have n7_ := Aside0.mk (below_step (by repeat (first | (with_reducible first | exact HB.out | apply below_alloc | apply pw_below_drewN | apply below_drew1 | refine below_set ?_ GE549.out | refine below_set ?_ GE564.out | refine below_set ?_ GE571.out | refine below_set ?_ GE579.out) | exact HB.out)) hb); clear HO_565003; clear HO_572003; clear HO_580003; clear BK549; clear BK564; clear BK571; clear BK579; clear HB; have HO_565003 := n0_; have HO_572003 := n1_; have HO_580003 := n2_; have BK549 := n3_; have BK564 := n4_; have BK571 := n5_; have BK579 := n6_; have HB := n7_; clear n0_ n1_ n2_ n3_ n4_ n5_ n6_ n7_; (try clear hb); (try clear hb2); (try clear hk); (try clear hi)))
                    go_ret
                    exact ⟨by first | rfl | (simp [errW_none, errW_some] <;> rfl) | (simp [*, errW_none, errW_some] <;> rfl), by repeat (first | (with_reducible first | exact HB.out | apply below_alloc | apply pw_below_drewN | apply below_drew1 | refine below_set ?_ GE549.out | refine below_set ?_ GE564.out | refine below_set ?_ GE571.out | refine below_set ?_ GE579.out) | exact HB.out)⟩
                  · rw [if_neg c93] at H
                    have c93b0 : decide (t593 < 0) = false := decide_eq_false c93
                    clear c93
                    by_cases c101 : t593 = t591
                    · rw [if_pos c101] at H
                      have c101b0 : (t593 == t591) = true := beq_iff_eq.mpr c101
                      have c101b1 : (t593 != t591) = false := bne_eq_false_iff_eq.mpr c101
                      clear c101
                      replace H := Option.bind_eq_some_iff.mp H
                      obtain ⟨⟨t594, t595, t596, t597⟩, A1020, H⟩ := H
                      replace H : ((impl_DropBus.f kj60 t594 t595 t596 t597 a1).bind fun bt600 => ((laws_eqLine.f kj60 bt600.1 bt600.2.1 bt600.2.2.1 bt600.2.2.2.1 t557 t558 t559 t560).bind fun t608 => (if t608 = true then (laws_FnExactDropBus.j2 kj60 t591 (bt600.2.2.2.2 != t563) t572 t573 t574 t592) else (laws_FnExactDropBus.j2 kj60 t591 true t572 t573 t574 t592)))) = some r := H
                      have A102 := Aside0.mk A1020
                      clear A1020
                      replace H := Option.bind_eq_some_iff.mp H
                      obtain ⟨⟨t600, t601, t602, t603, t606⟩, A1030, H⟩ := H
                      replace H : ((laws_eqLine.f kj60 t600 t601 t602 t603 t557 t558 t559 t560).bind fun t608 => (if t608 = true then (laws_FnExactDropBus.j2 kj60 t591 (t606 != t563) t572 t573 t574 t592) else (laws_FnExactDropBus.j2 kj60 t591 true t572 t573 t574 t592))) = some r := H
                      have A103 := Aside0.mk A1030
                      clear A1030
                      have HC104 := Aside0.mk H
                      clear H
                      have hnb105 := NB579_549.out
                      have hnc105 := NB549_579.out
                      have hnb106 := NB579_564.out
                      have hnc106 := NB564_579.out
                      have hnb107 := NB579_571.out
                      have hnc107 := NB571_579.out
                      have hcz108_0 : wc.cell? ⟨gb579, 0, none⟩ = some (.int .i64 t572) := (blk_cell BK579.out 0).trans rfl
                      have hcz108_1 : wc.cell? ⟨gb579, 1, none⟩ = some (.int .i64 t573) := (blk_cell BK579.out 1).trans rfl
                      have hcz108_2 : wc.cell? ⟨gb579, 2, none⟩ = some (.int .i64 t574) := (blk_cell BK579.out 2).trans rfl
                      have hcz108_3 : wc.cell? ⟨gb579, 3, none⟩ = some (.slice Ao37 t575.length co37) := (blk_cell BK579.out 3).trans rfl
                      have hfz108_0 := blk_frozen BK579.out 0
                      have hfz108_1 := blk_frozen BK579.out 1
                      have hfz108_2 := blk_frozen BK579.out 2
                      have hfz108_3 := blk_frozen BK579.out 3
                      go_upto_region 25 with (first | ((with_reducible refine gate_callee (f := 35) rfl ?_); refine goesL_ (some 68) rfl rfl Try.func35 (by kernel_rfl) rfl #[.agg #[.int .i64 t572, .int .i64 t573, .int .i64 t574, .slice Ao37 t575.length co37], .int .i64 1] rfl (by (try simp only [List.map_toArray, List.map_cons, List.map_nil]); first | done | rfl | (simp only [List.length_drop, List.length_take]; rfl)) ?_; (with_reducible refine (laws_markLine.calls kj60 t572 t573 t574 (fun k_ => some k_ = (.slice Ao37 t575.length co37 : Value).ownBlock) (.slice Ao37 t575.length co37) t575 1 t591 t592 w _ ?side1 ?side2 A91.out).mono ?_); (case side1 => repeat (first | (with_reducible first | exact HB.out | apply below_alloc | apply pw_below_drewN | apply below_drew1 | refine below_set ?_ GE549.out | refine below_set ?_ GE564.out | refine below_set ?_ GE571.out | refine below_set ?_ GE579.out) | exact HB.out)); (case side2 => exact Kd.R_tight rfl HO_580003.out); rintro e w109 ⟨rfl, hy0, hb, hkp⟩; refine ⟨_, rfl, ?_⟩; have n0_ := Aside0.mk (Kd.R_mono (ok' := fun k_ => some k_ ≠ (.slice Ao30 t589.length co30 : Value).ownBlock ∧ some k_ ≠ (.slice Ao37 t575.length co37 : Value).ownBlock) (Kd.R_keptB (HO_565003.out) hkp (fun k_ hk_ hs_ => (hk_.2) hs_)) (fun k_ hk_ => ⟨hk_.1.1, hk_.1.2⟩)); have n1_ := Aside0.mk (Kd.R_mono (ok' := fun k_ => some k_ ≠ (.slice Ao23 t560.length co23 : Value).ownBlock ∧ some k_ ≠ (.slice Ao37 t575.length co37 : Value).ownBlock) (Kd.R_keptB (HO_572003.out) hkp (fun k_ hk_ hs_ => (hk_.2) hs_)) (fun k_ hk_ => ⟨hk_.1.1, hk_.1.2⟩)); have n2_ := Aside0.mk (Kd.R_reok rfl hy0 (fun k_ e_ => HO_580003.out.1 k_ e_)); have n3_ := Aside0.mk (blk_kept (by (with_reducible repeat (first | refine blk_drewN ?_ _ | refine blk_drew ?_ | refine blk_alloc ?_ _)); exact BK549.out) hkp (fun hs_ => (fun e_ => (Kd.R_ne HO_580003.out BK549.out (by decide)) e_) hs_)); have n4_ := Aside0.mk (blk_kept (by (with_reducible repeat (first | refine blk_drewN ?_ _ | refine blk_drew ?_ | refine blk_alloc ?_ _)); exact BK564.out) hkp (fun hs_ => (fun e_ => (Kd.R_ne HO_580003.out BK564.out (by decide)) e_) hs_)); have n5_ := Aside0.mk (blk_kept (by (with_reducible repeat (first | refine blk_drewN ?_ _ | refine blk_drew ?_ | refine blk_alloc ?_ _)); exact BK571.out) hkp (fun hs_ => (fun e_ => (Kd.R_ne HO_580003.out BK571.out (by decide)) e_) hs_)); have n6_ := Aside0.mk (blk_kept (by (with_reducible repeat (first | refine blk_drewN ?_ _ | refine blk_drew ?_ | refine blk_alloc ?_ _)); exact BK579.out) hkp (fun hs_ => (fun e_ => (Kd.R_ne HO_580003.out BK579.out (by decide)) e_) hs_)); have n7_ := Aside0.mk (hb); clear HO_565003; clear HO_572003; clear HO_580003; clear BK549; clear BK564; clear BK571; clear BK579; clear HB; have HO_565003 := n0_; have HO_572003 := n1_; have HO_580003 := n2_; have BK549 := n3_; have BK564 := n4_; have BK571 := n5_; have BK579 := n6_; have HB := n7_; clear n0_ n1_ n2_ n3_ n4_ n5_ n6_ n7_; (try clear hb); (try clear hkp); (try clear hy0); have hcz110_0 : w109.cell? ⟨gb579, 0, none⟩ = some (.int .i64 t572) := (blk_cell BK579.out 0).trans rfl; have hcz110_1 : w109.cell? ⟨gb579, 1, none⟩ = some (.int .i64 t573) := (blk_cell BK579.out 1).trans rfl; have hcz110_2 : w109.cell? ⟨gb579, 2, none⟩ = some (.int .i64 t574) := (blk_cell BK579.out 2).trans rfl; have hcz110_3 : w109.cell? ⟨gb579, 3, none⟩ = some (.slice Ao37 t575.length co37) := (blk_cell BK579.out 3).trans rfl; have hfz110_0 := blk_frozen BK579.out 0; have hfz110_1 := blk_frozen BK579.out 1; have hfz110_2 := blk_frozen BK579.out 2; have hfz110_3 := blk_frozen BK579.out 3) | ((with_reducible refine gate_callee (f := 40) rfl ?_); refine goesL_ (some 71) rfl rfl Try.func40 (by kernel_rfl) rfl #[.agg #[.int .i64 t572, .int .i64 t573, .int .i64 t574, .slice Ao37 t592.length co37], .int .i64 1] rfl (by (try simp only [List.map_toArray, List.map_cons, List.map_nil]); first | done | (rw [show t592.length = t575.length from (Kd.R_reads' HO_580003.out).1.symm] <;> rfl) | rfl | (simp only [List.length_drop, List.length_take]; rfl)) ?_; (with_reducible refine (laws_heldLine.calls kj60 t572 t573 t574 _ _ t592 1 t593 _ ?side1 ?side2 A92.out).mono ?_); (case side1 => repeat (first | exact (Kd.R_reads' HO_580003.out).2.2 | (with_reducible refine Kd.C_alloc ?_ _) | (with_reducible refine Kd.C_drewN ?_ _) | (with_reducible refine Kd.C_drew ?_))); (case side2 => rw [show t592.length = t575.length from (Kd.R_reads' HO_580003.out).1.symm]; exact (Kd.R_reads' HO_580003.out).2.1); rintro e w111 ⟨rfl, hb⟩; refine ⟨_, rfl, ?_⟩; have n0_ := Aside0.mk (Kd.R_below (by (with_reducible repeat (first | apply Kd.R_alloc | apply Kd.R_drewN | apply Kd.R_drew)); exact HO_565003.out) hb); have n1_ := Aside0.mk (Kd.R_below (by (with_reducible repeat (first | apply Kd.R_alloc | apply Kd.R_drewN | apply Kd.R_drew)); exact HO_572003.out) hb); have n2_ := Aside0.mk (Kd.R_below (by (with_reducible repeat (first | apply Kd.R_alloc | apply Kd.R_drewN | apply Kd.R_drew)); exact HO_580003.out) hb); have n3_ := Aside0.mk (blk_below (g := gb549) (o := .cells #[.int .i64 a0_0, .int .i64 a0_1, .int .i64 a0_2, .slice A0_3 l0_3.length c0_3] 24 (0, 0)) (by (with_reducible repeat (first | refine blk_drewN ?_ _ | refine blk_drew ?_ | refine blk_alloc ?_ _)); exact BK549.out) hb); have n4_ := Aside0.mk (blk_below (g := gb564) (o := .cells #[.int .i64 t557, .int .i64 t558, .int .i64 t559, .slice Ao23 t560.length co23] 28 (0, 0)) (by (with_reducible repeat (first | refine blk_drewN ?_ _ | refine blk_drew ?_ | refine blk_alloc ?_ _)); exact BK564.out) hb); have n5_ := Aside0.mk (blk_below (g := gb571) (o := .cells #[.int .i64 t565, .int .i64 t566, .int .i64 t567, .slice Ao30 t589.length co30] 28 (0, 0)) (by (with_reducible repeat (first | refine blk_drewN ?_ _ | refine blk_drew ?_ | refine blk_alloc ?_ _)); exact BK571.out) hb); have n6_ := Aside0.mk (blk_below (g := gb579) (o := .cells #[.int .i64 t572, .int .i64 t573, .int .i64 t574, .slice Ao37 t575.length co37] 28 (0, 0)) (by (with_reducible repeat (first | refine blk_drewN ?_ _ | refine blk_drew ?_ | refine blk_alloc ?_ _)); exact BK579.out) hb); have n7_ := Aside0.mk (below_step (by repeat (first | (with_reducible first | exact HB.out | apply below_alloc | apply pw_below_drewN | apply below_drew1 | refine below_set ?_ GE549.out | refine below_set ?_ GE564.out | refine below_set ?_ GE571.out | refine below_set ?_ GE579.out) | exact HB.out)) hb); clear HO_565003; clear HO_572003; clear HO_580003; clear BK549; clear BK564; clear BK571; clear BK579; clear HB; have HO_565003 := n0_; have HO_572003 := n1_; have HO_580003 := n2_; have BK549 := n3_; have BK564 := n4_; have BK571 := n5_; have BK579 := n6_; have HB := n7_; clear n0_ n1_ n2_ n3_ n4_ n5_ n6_ n7_; (try clear hb); (try clear hb2); (try clear hk); (try clear hi); have hnb112 := NB549_564.out; have hnc112 := NB564_549.out; have hnb113 := NB549_571.out; have hnc113 := NB571_549.out; have hcz114_0 : w111.cell? ⟨gb549, 0, none⟩ = some (.int .i64 a0_0) := (blk_cell BK549.out 0).trans rfl; have hcz114_1 : w111.cell? ⟨gb549, 1, none⟩ = some (.int .i64 a0_1) := (blk_cell BK549.out 1).trans rfl; have hcz114_2 : w111.cell? ⟨gb549, 2, none⟩ = some (.int .i64 a0_2) := (blk_cell BK549.out 2).trans rfl; have hcz114_3 : w111.cell? ⟨gb549, 3, none⟩ = some (.slice A0_3 l0_3.length c0_3) := (blk_cell BK549.out 3).trans rfl; have hfz114_0 := blk_frozen BK549.out 0; have hfz114_1 := blk_frozen BK549.out 1; have hfz114_2 := blk_frozen BK549.out 2; have hfz114_3 := blk_frozen BK549.out 3) | ((with_reducible refine gate_callee (f := 17) rfl ?_); refine goesL_ (some 79) rfl rfl Try.func17 (by kernel_rfl) rfl #[.agg #[.int .i64 a0_0, .int .i64 a0_1, .int .i64 a0_2, .slice A0_3 l0_3.length c0_3]] rfl (by (try simp only [List.map_toArray, List.map_cons, List.map_nil]); first | done | rfl | (simp only [List.length_drop, List.length_take]; rfl)) ?_; (with_reducible refine (laws_toLine.calls kj60 a0_0 a0_1 a0_2 _ _ l0_3 t594 t595 t596 t597 _ ?side1 ?side2 A102.out).mono ?_); (case side1 => repeat (first | exact (Kd.C_below HR0_3.out HB.out) | (with_reducible refine Kd.C_alloc ?_ _) | (with_reducible refine Kd.C_drewN ?_ _) | (with_reducible refine Kd.C_drew ?_))); (case side2 => exact HC0_3.out); rintro e w115 ⟨v598, rfl, ho0, hb⟩; refine ⟨_, rfl, ?_⟩; have n0_ := Aside0.mk (Kd.R_elder' (by (with_reducible repeat (first | apply Kd.R_alloc | apply Kd.R_drewN | apply Kd.R_drew)); exact HO_565003.out) (Kd.R_base ho0) hb); have n1_ := Aside0.mk (Kd.R_elder' (by (with_reducible repeat (first | apply Kd.R_alloc | apply Kd.R_drewN | apply Kd.R_drew)); exact HO_572003.out) (Kd.R_base ho0) hb); have n2_ := Aside0.mk (Kd.R_elder' (by (with_reducible repeat (first | apply Kd.R_alloc | apply Kd.R_drewN | apply Kd.R_drew)); exact HO_580003.out) (Kd.R_base ho0) hb); have n3_ := Aside0.mk (Kd.R_lower (Kd.R_new' (Kd.R_new' (Kd.R_new' ho0 (Kd.R_lt (by (with_reducible repeat (first | apply Kd.R_alloc | apply Kd.R_drewN | apply Kd.R_drew)); exact HO_565003.out))) (Kd.R_lt (by (with_reducible repeat (first | apply Kd.R_alloc | apply Kd.R_drewN | apply Kd.R_drew)); exact HO_572003.out))) (Kd.R_lt (by (with_reducible repeat (first | apply Kd.R_alloc | apply Kd.R_drewN | apply Kd.R_drew)); exact HO_580003.out))) (below_size (by repeat (first | (with_reducible first | exact HB.out | apply below_alloc | apply pw_below_drewN | apply below_drew1 | refine below_set ?_ GE549.out | refine below_set ?_ GE564.out | refine below_set ?_ GE571.out | refine below_set ?_ GE579.out) | exact HB.out)))); have n4_ := Aside0.mk (blk_below (g := gb549) (o := .cells #[.int .i64 a0_0, .int .i64 a0_1, .int .i64 a0_2, .slice A0_3 l0_3.length c0_3] 24 (0, 0)) (by (with_reducible repeat (first | refine blk_drewN ?_ _ | refine blk_drew ?_ | refine blk_alloc ?_ _)); exact BK549.out) hb); have n5_ := Aside0.mk (blk_below (g := gb564) (o := .cells #[.int .i64 t557, .int .i64 t558, .int .i64 t559, .slice Ao23 t560.length co23] 28 (0, 0)) (by (with_reducible repeat (first | refine blk_drewN ?_ _ | refine blk_drew ?_ | refine blk_alloc ?_ _)); exact BK564.out) hb); have n6_ := Aside0.mk (blk_below (g := gb571) (o := .cells #[.int .i64 t565, .int .i64 t566, .int .i64 t567, .slice Ao30 t589.length co30] 28 (0, 0)) (by (with_reducible repeat (first | refine blk_drewN ?_ _ | refine blk_drew ?_ | refine blk_alloc ?_ _)); exact BK571.out) hb); have n7_ := Aside0.mk (blk_below (g := gb579) (o := .cells #[.int .i64 t572, .int .i64 t573, .int .i64 t574, .slice Ao37 t575.length co37] 28 (0, 0)) (by (with_reducible repeat (first | refine blk_drewN ?_ _ | refine blk_drew ?_ | refine blk_alloc ?_ _)); exact BK579.out) hb); have n8_ := Aside0.mk (below_step (by repeat (first | (with_reducible first | exact HB.out | apply below_alloc | apply pw_below_drewN | apply below_drew1 | refine below_set ?_ GE549.out | refine below_set ?_ GE564.out | refine below_set ?_ GE571.out | refine below_set ?_ GE579.out) | exact HB.out)) hb); clear HO_565003; clear HO_572003; clear HO_580003; clear BK549; clear BK564; clear BK571; clear BK579; clear HB; have HO_565003 := n0_; have HO_572003 := n1_; have HO_580003 := n2_; have HO599 := n3_; have BK549 := n4_; have BK564 := n5_; have BK571 := n6_; have BK579 := n7_; have HB := n8_; clear n0_ n1_ n2_ n3_ n4_ n5_ n6_ n7_ n8_; (try clear hb); (try clear hb2); (try clear hk); (try clear hi); (try clear ho0); obtain ⟨Ao116, co116, eo116⟩ := Kd.R_slice HO599.out; subst eo116) | ((with_reducible refine gate_callee (f := 39) rfl ?_); refine goesL_ (some 81) rfl rfl Try.func39 (by kernel_rfl) rfl #[.agg #[.int .i64 t594, .int .i64 t595, .int .i64 t596, .slice Ao116 t597.length co116], .int .i64 a1] rfl (by (try simp only [List.map_toArray, List.map_cons, List.map_nil]); first | done | rfl | (simp only [List.length_drop, List.length_take]; rfl)) ?_; (with_reducible refine (impl_DropBus.calls kj60 t594 t595 t596 _ _ t597 a1 t600 t601 t602 t603 t606 _ ?side1 ?side2 A103.out).mono ?_); (case side1 => repeat (first | exact (Kd.R_reads' HO599.out).2.2 | (with_reducible refine Kd.C_alloc ?_ _) | (with_reducible refine Kd.C_drewN ?_ _) | (with_reducible refine Kd.C_drew ?_))); (case side2 => exact (Kd.R_reads' HO599.out).2.1); rintro e w117 ⟨v604, rfl, ho0, hb⟩; refine ⟨_, rfl, ?_⟩; have n0_ := Aside0.mk (Kd.R_elder' (by (with_reducible repeat (first | apply Kd.R_alloc | apply Kd.R_drewN | apply Kd.R_drew)); exact HO_565003.out) (Kd.R_base ho0) hb); have n1_ := Aside0.mk (Kd.R_elder' (by (with_reducible repeat (first | apply Kd.R_alloc | apply Kd.R_drewN | apply Kd.R_drew)); exact HO_572003.out) (Kd.R_base ho0) hb); have n2_ := Aside0.mk (Kd.R_elder' (by (with_reducible repeat (first | apply Kd.R_alloc | apply Kd.R_drewN | apply Kd.R_drew)); exact HO_580003.out) (Kd.R_base ho0) hb); have n3_ := Aside0.mk (Kd.R_elder' (by (with_reducible repeat (first | apply Kd.R_alloc | apply Kd.R_drewN | apply Kd.R_drew)); exact HO599.out) (Kd.R_base ho0) hb); have n4_ := Aside0.mk (Kd.R_lower (Kd.R_new' (Kd.R_new' (Kd.R_new' (Kd.R_new' ho0 (Kd.R_lt (by (with_reducible repeat (first | apply Kd.R_alloc | apply Kd.R_drewN | apply Kd.R_drew)); exact HO_565003.out))) (Kd.R_lt (by (with_reducible repeat (first | apply Kd.R_alloc | apply Kd.R_drewN | apply Kd.R_drew)); exact HO_572003.out))) (Kd.R_lt (by (with_reducible repeat (first | apply Kd.R_alloc | apply Kd.R_drewN | apply Kd.R_drew)); exact HO_580003.out))) (Kd.R_lt (by (with_reducible repeat (first | apply Kd.R_alloc | apply Kd.R_drewN | apply Kd.R_drew)); exact HO599.out))) (below_size (by repeat (first | (with_reducible first | exact HB.out | apply below_alloc | apply pw_below_drewN | apply below_drew1 | refine below_set ?_ GE549.out | refine below_set ?_ GE564.out | refine below_set ?_ GE571.out | refine below_set ?_ GE579.out) | exact HB.out)))); have n5_ := Aside0.mk (blk_below (g := gb549) (o := .cells #[.int .i64 a0_0, .int .i64 a0_1, .int .i64 a0_2, .slice A0_3 l0_3.length c0_3] 24 (0, 0)) (by (with_reducible repeat (first | refine blk_drewN ?_ _ | refine blk_drew ?_ | refine blk_alloc ?_ _)); exact BK549.out) hb); have n6_ := Aside0.mk (blk_below (g := gb564) (o := .cells #[.int .i64 t557, .int .i64 t558, .int .i64 t559, .slice Ao23 t560.length co23] 28 (0, 0)) (by (with_reducible repeat (first | refine blk_drewN ?_ _ | refine blk_drew ?_ | refine blk_alloc ?_ _)); exact BK564.out) hb); have n7_ := Aside0.mk (blk_below (g := gb571) (o := .cells #[.int .i64 t565, .int .i64 t566, .int .i64 t567, .slice Ao30 t589.length co30] 28 (0, 0)) (by (with_reducible repeat (first | refine blk_drewN ?_ _ | refine blk_drew ?_ | refine blk_alloc ?_ _)); exact BK571.out) hb); have n8_ := Aside0.mk (blk_below (g := gb579) (o := .cells #[.int .i64 t572, .int .i64 t573, .int .i64 t574, .slice Ao37 t575.length co37] 28 (0, 0)) (by (with_reducible repeat (first | refine blk_drewN ?_ _ | refine blk_drew ?_ | refine blk_alloc ?_ _)); exact BK579.out) hb); have n9_ := Aside0.mk (below_step (by repeat (first | (with_reducible first | exact HB.out | apply below_alloc | apply pw_below_drewN | apply below_drew1 | refine below_set ?_ GE549.out | refine below_set ?_ GE564.out | refine below_set ?_ GE571.out | refine below_set ?_ GE579.out) | exact HB.out)) hb); clear HO_565003; clear HO_572003; clear HO_580003; clear HO599; clear BK549; clear BK564; clear BK571; clear BK579; clear HB; have HO_565003 := n0_; have HO_572003 := n1_; have HO_580003 := n2_; have HO599 := n3_; have HO605 := n4_; have BK549 := n5_; have BK564 := n6_; have BK571 := n7_; have BK579 := n8_; have HB := n9_; clear n0_ n1_ n2_ n3_ n4_ n5_ n6_ n7_ n8_ n9_; (try clear hb); (try clear hb2); (try clear hk); (try clear hi); (try clear ho0)) | ((with_reducible refine gate_dst (N := 14) rfl ?_); refine box_event ?hg (N := 14) ?hd (cs := #[.int .i64 0, .int .i64 0, .int .i64 0, .slice none 0 0]) (t := 28) ?hr ?_; (case hd => rfl); (case hg => rfl); (case hr => first | (go_simp; done) | (go_simp; rfl)); intro gb607 hg w118 hbox hb; have n0_ := Aside0.mk (Kd.R_below (by (with_reducible repeat (first | apply Kd.R_alloc | apply Kd.R_drewN | apply Kd.R_drew)); exact HO_565003.out) hb); have n1_ := Aside0.mk (Kd.R_below (by (with_reducible repeat (first | apply Kd.R_alloc | apply Kd.R_drewN | apply Kd.R_drew)); exact HO_572003.out) hb); have n2_ := Aside0.mk (Kd.R_below (by (with_reducible repeat (first | apply Kd.R_alloc | apply Kd.R_drewN | apply Kd.R_drew)); exact HO_580003.out) hb); have n3_ := Aside0.mk (Kd.R_below (by (with_reducible repeat (first | apply Kd.R_alloc | apply Kd.R_drewN | apply Kd.R_drew)); exact HO599.out) hb); have n4_ := Aside0.mk (Kd.R_below (by (with_reducible repeat (first | apply Kd.R_alloc | apply Kd.R_drewN | apply Kd.R_drew)); exact HO605.out) hb); have n5_ := Aside0.mk (blk_below (g := gb549) (o := .cells #[.int .i64 a0_0, .int .i64 a0_1, .int .i64 a0_2, .slice A0_3 l0_3.length c0_3] 24 (0, 0)) (by (with_reducible repeat (first | refine blk_drewN ?_ _ | refine blk_drew ?_ | refine blk_alloc ?_ _)); exact BK549.out) hb); have n6_ := Aside0.mk (blk_below (g := gb564) (o := .cells #[.int .i64 t557, .int .i64 t558, .int .i64 t559, .slice Ao23 t560.length co23] 28 (0, 0)) (by (with_reducible repeat (first | refine blk_drewN ?_ _ | refine blk_drew ?_ | refine blk_alloc ?_ _)); exact BK564.out) hb); have n7_ := Aside0.mk (blk_below (g := gb571) (o := .cells #[.int .i64 t565, .int .i64 t566, .int .i64 t567, .slice Ao30 t589.length co30] 28 (0, 0)) (by (with_reducible repeat (first | refine blk_drewN ?_ _ | refine blk_drew ?_ | refine blk_alloc ?_ _)); exact BK571.out) hb); have n8_ := Aside0.mk (blk_below (g := gb579) (o := .cells #[.int .i64 t572, .int .i64 t573, .int .i64 t574, .slice Ao37 t575.length co37] 28 (0, 0)) (by (with_reducible repeat (first | refine blk_drewN ?_ _ | refine blk_drew ?_ | refine blk_alloc ?_ _)); exact BK579.out) hb); have n9_ := Aside0.mk (below_step (by repeat (first | (with_reducible first | exact HB.out | apply below_alloc | apply pw_below_drewN | apply below_drew1 | refine below_set ?_ GE549.out | refine below_set ?_ GE564.out | refine below_set ?_ GE571.out | refine below_set ?_ GE579.out) | exact HB.out)) hb); have n10_ := Aside0.mk (hbox); have n11_ := Aside0.mk ((by rw [hg]; exact (below_size (by repeat (first | (with_reducible first | exact HB.out | apply below_alloc | apply pw_below_drewN | apply below_drew1 | refine below_set ?_ GE549.out | refine below_set ?_ GE564.out | refine below_set ?_ GE571.out | refine below_set ?_ GE579.out) | exact HB.out))) : w.heap.size ≤ gb607)); have n12_ := Aside0.mk ((by rw [hg]; exact (below_size (by repeat (first | (with_reducible first | exact HB.out | apply below_alloc | apply pw_below_drewN | apply below_drew1 | refine below_set ?_ GE549.out | refine below_set ?_ GE564.out | refine below_set ?_ GE571.out | refine below_set ?_ GE579.out) | exact HB.out))) : w.heap.size ≤ gb607)); have n13_ := Aside0.mk ((by rw [hg]; exact Nat.ne_of_lt (blk_lt (g := gb549) (o := .cells #[.int .i64 a0_0, .int .i64 a0_1, .int .i64 a0_2, .slice A0_3 l0_3.length c0_3] 24 (0, 0)) (by (with_reducible repeat (first | refine blk_drewN ?_ _ | refine blk_drew ?_ | refine blk_alloc ?_ _)); exact BK549.out)) : gb549 ≠ gb607)); have n14_ := Aside0.mk ((by rw [hg]; exact Nat.ne_of_gt (blk_lt (g := gb549) (o := .cells #[.int .i64 a0_0, .int .i64 a0_1, .int .i64 a0_2, .slice A0_3 l0_3.length c0_3] 24 (0, 0)) (by (with_reducible repeat (first | refine blk_drewN ?_ _ | refine blk_drew ?_ | refine blk_alloc ?_ _)); exact BK549.out)) : gb607 ≠ gb549)); have n15_ := Aside0.mk ((by rw [hg]; exact Nat.ne_of_lt (blk_lt (g := gb564) (o := .cells #[.int .i64 t557, .int .i64 t558, .int .i64 t559, .slice Ao23 t560.length co23] 28 (0, 0)) (by (with_reducible repeat (first | refine blk_drewN ?_ _ | refine blk_drew ?_ | refine blk_alloc ?_ _)); exact BK564.out)) : gb564 ≠ gb607)); have n16_ := Aside0.mk ((by rw [hg]; exact Nat.ne_of_gt (blk_lt (g := gb564) (o := .cells #[.int .i64 t557, .int .i64 t558, .int .i64 t559, .slice Ao23 t560.length co23] 28 (0, 0)) (by (with_reducible repeat (first | refine blk_drewN ?_ _ | refine blk_drew ?_ | refine blk_alloc ?_ _)); exact BK564.out)) : gb607 ≠ gb564)); have n17_ := Aside0.mk ((by rw [hg]; exact Nat.ne_of_lt (blk_lt (g := gb571) (o := .cells #[.int .i64 t565, .int .i64 t566, .int .i64 t567, .slice Ao30 t589.length co30] 28 (0, 0)) (by (with_reducible repeat (first | refine blk_drewN ?_ _ | refine blk_drew ?_ | refine blk_alloc ?_ _)); exact BK571.out)) : gb571 ≠ gb607)); have n18_ := Aside0.mk ((by rw [hg]; exact Nat.ne_of_gt (blk_lt (g := gb571) (o := .cells #[.int .i64 t565, .int .i64 t566, .int .i64 t567, .slice Ao30 t589.length co30] 28 (0, 0)) (by (with_reducible repeat (first | refine blk_drewN ?_ _ | refine blk_drew ?_ | refine blk_alloc ?_ _)); exact BK571.out)) : gb607 ≠ gb571)); have n19_ := Aside0.mk ((by rw [hg]; exact Nat.ne_of_lt (blk_lt (g := gb579) (o := .cells #[.int .i64 t572, .int .i64 t573, .int .i64 t574, .slice Ao37 t575.length co37] 28 (0, 0)) (by (with_reducible repeat (first | refine blk_drewN ?_ _ | refine blk_drew ?_ | refine blk_alloc ?_ _)); exact BK579.out)) : gb579 ≠ gb607)); have n20_ := Aside0.mk ((by rw [hg]; exact Nat.ne_of_gt (blk_lt (g := gb579) (o := .cells #[.int .i64 t572, .int .i64 t573, .int .i64 t574, .slice Ao37 t575.length co37] 28 (0, 0)) (by (with_reducible repeat (first | refine blk_drewN ?_ _ | refine blk_drew ?_ | refine blk_alloc ?_ _)); exact BK579.out)) : gb607 ≠ gb579)); clear HO_565003; clear HO_572003; clear HO_580003; clear HO599; clear HO605; clear BK549; clear BK564; clear BK571; clear BK579; clear HB; have HO_565003 := n0_; have HO_572003 := n1_; have HO_580003 := n2_; have HO599 := n3_; have HO605 := n4_; have BK549 := n5_; have BK564 := n6_; have BK571 := n7_; have BK579 := n8_; have HB := n9_; have BK607 := n10_; have GW607 := n11_; have GE607 := n12_; have NB549_607 := n13_; have NB607_549 := n14_; have NB564_607 := n15_; have NB607_564 := n16_; have NB571_607 := n17_; have NB607_571 := n18_; have NB579_607 := n19_; have NB607_579 := n20_; clear n0_ n1_ n2_ n3_ n4_ n5_ n6_ n7_ n8_ n9_ n10_ n11_ n12_ n13_ n14_ n15_ n16_ n17_ n18_ n19_ n20_; clear hb hbox hg; have hnb119 := NB607_549.out; have hnc119 := NB549_607.out; have hnb120 := NB607_564.out; have hnc120 := NB564_607.out; have hnb121 := NB607_571.out; have hnc121 := NB571_607.out; have hnb122 := NB607_579.out; have hnc122 := NB579_607.out; have hcz123_0 : w118.cell? ⟨gb607, 0, none⟩ = some (.int .i64 0) := (blk_cell BK607.out 0).trans rfl; have hcz123_1 : w118.cell? ⟨gb607, 1, none⟩ = some (.int .i64 0) := (blk_cell BK607.out 1).trans rfl; have hcz123_2 : w118.cell? ⟨gb607, 2, none⟩ = some (.int .i64 0) := (blk_cell BK607.out 2).trans rfl; have hcz123_3 : w118.cell? ⟨gb607, 3, none⟩ = some (.slice none 0 0) := (blk_cell BK607.out 3).trans rfl; have hfz123_0 := blk_frozen BK607.out 0; have hfz123_1 := blk_frozen BK607.out 1; have hfz123_2 := blk_frozen BK607.out 2; have hfz123_3 := blk_frozen BK607.out 3; obtain ⟨Ao124, co124, eo124⟩ := Kd.R_slice HO605.out; subst eo124))
                      (try simp only [Act.put, List.setIfInBounds_toArray, List.set_cons_zero, List.set_cons_succ])
                      go_cut [92] (fun v92 wc => ∃ (kq : Nat) (x92_103 : Bool), v92 = .bool x92_103 ∧ Aside0 (laws_FnExactDropBus.j2 kq t591 x92_103 t572 t573 t574 t592 = some r) ∧ Aside0 (kq ≤ kj60) ∧ Aside0 (Kd.R (Kd.int .i64) 3 wc w.heap.size (fun k_ => some k_ ≠ ((.slice Ao30 t589.length co30) : Value).ownBlock ∧ some k_ ≠ ((.slice Ao37 t575.length co37) : Value).ownBlock ∧ some k_ ≠ ((.slice Ao124 t603.length co124) : Value).ownBlock) (.slice Ao23 t560.length co23) t560) ∧ Aside0 (Kd.R (Kd.int .i64) 3 wc w.heap.size (fun k_ => some k_ ≠ ((.slice Ao23 t560.length co23) : Value).ownBlock ∧ some k_ ≠ ((.slice Ao37 t575.length co37) : Value).ownBlock ∧ some k_ ≠ ((.slice Ao124 t603.length co124) : Value).ownBlock) (.slice Ao30 t589.length co30) t589) ∧ Aside0 (Kd.R (Kd.int .i64) 3 wc w.heap.size (fun k_ => some k_ ≠ ((.slice Ao23 t560.length co23) : Value).ownBlock ∧ some k_ ≠ ((.slice Ao30 t589.length co30) : Value).ownBlock ∧ some k_ ≠ ((.slice Ao124 t603.length co124) : Value).ownBlock) (.slice Ao37 t575.length co37) t592) ∧ Aside0 (Kd.R (Kd.int .i64) 3 wc w.heap.size (fun k_ => some k_ ≠ ((.slice Ao23 t560.length co23) : Value).ownBlock ∧ some k_ ≠ ((.slice Ao30 t589.length co30) : Value).ownBlock ∧ some k_ ≠ ((.slice Ao37 t575.length co37) : Value).ownBlock) (.slice Ao124 t603.length co124) t603) ∧ Aside0 (wc.heap[gb549]? = some (.cells #[.int .i64 a0_0, .int .i64 a0_1, .int .i64 a0_2, (.slice A0_3 l0_3.length c0_3)] 24 (0, 0))) ∧ Aside0 (wc.heap[gb564]? = some (.cells #[.int .i64 t557, .int .i64 t558, .int .i64 t559, (.slice Ao23 t560.length co23)] 28 (0, 0))) ∧ Aside0 (wc.heap[gb571]? = some (.cells #[.int .i64 t565, .int .i64 t566, .int .i64 t567, (.slice Ao30 t589.length co30)] 28 (0, 0))) ∧ Aside0 (wc.heap[gb579]? = some (.cells #[.int .i64 t572, .int .i64 t573, .int .i64 t574, (.slice Ao37 t575.length co37)] 28 (0, 0))) ∧ Aside0 (wc.heap[gb607]? = some (.cells #[.int .i64 t600, .int .i64 t601, .int .i64 t602, (.slice Ao124 t603.length co124)] 28 (0, 0))) ∧ Aside0 (Below w.heap.size w wc))
                      case first =>
                        have H := HC104.out
                        clear HC104
                        replace H := Option.bind_eq_some_iff.mp H
                        obtain ⟨t608, A1250, H⟩ := H
                        replace H : (if t608 = true then (laws_FnExactDropBus.j2 kj60 t591 (t606 != t563) t572 t573 t574 t592) else (laws_FnExactDropBus.j2 kj60 t591 true t572 t573 t574 t592)) = some r := H
                        have A125 := Aside0.mk A1250
                        clear A1250
                        by_cases c126 : t608 = true
                        · subst c126
                          have H1 : (laws_FnExactDropBus.j2 kj60 t591 (t606 != t563) t572 t573 t574 t592) = some r := by rw [if_pos rfl] at H; exact H
                          clear H
                          have H := H1
                          clear H1
                          have H' := Aside0.mk H
                          clear H
                          have hnb127 := NB607_549.out
                          have hnc127 := NB549_607.out
                          have hnb128 := NB607_564.out
                          have hnc128 := NB564_607.out
                          have hnb129 := NB607_571.out
                          have hnc129 := NB571_607.out
                          have hnb130 := NB607_579.out
                          have hnc130 := NB579_607.out
                          have hcz131_0 : w118.cell? ⟨gb607, 0, none⟩ = some (.int .i64 0) := (blk_cell BK607.out 0).trans rfl
                          have hcz131_1 : w118.cell? ⟨gb607, 1, none⟩ = some (.int .i64 0) := (blk_cell BK607.out 1).trans rfl
                          have hcz131_2 : w118.cell? ⟨gb607, 2, none⟩ = some (.int .i64 0) := (blk_cell BK607.out 2).trans rfl
                          have hcz131_3 : w118.cell? ⟨gb607, 3, none⟩ = some (.slice none 0 0) := (blk_cell BK607.out 3).trans rfl
                          have hfz131_0 := blk_frozen BK607.out 0
                          have hfz131_1 := blk_frozen BK607.out 1
                          have hfz131_2 := blk_frozen BK607.out 2
                          have hfz131_3 := blk_frozen BK607.out 3
                          have hnb132 := NB564_549.out
                          have hnc132 := NB549_564.out
                          have hnb133 := NB564_571.out
                          have hnc133 := NB571_564.out
                          have hnb134 := NB564_579.out
                          have hnc134 := NB579_564.out
                          have hcz135_0 : w118.cell? ⟨gb564, 0, none⟩ = some (.int .i64 t557) := (blk_cell BK564.out 0).trans rfl
                          have hcz135_1 : w118.cell? ⟨gb564, 1, none⟩ = some (.int .i64 t558) := (blk_cell BK564.out 1).trans rfl
                          have hcz135_2 : w118.cell? ⟨gb564, 2, none⟩ = some (.int .i64 t559) := (blk_cell BK564.out 2).trans rfl
                          have hcz135_3 : w118.cell? ⟨gb564, 3, none⟩ = some (.slice Ao23 t560.length co23) := (blk_cell BK564.out 3).trans rfl
                          have hfz135_0 := blk_frozen BK564.out 0
                          have hfz135_1 := blk_frozen BK564.out 1
                          have hfz135_2 := blk_frozen BK564.out 2
                          have hfz135_3 := blk_frozen BK564.out 3
                          go_wp2_with (first | ((with_reducible refine gate_callee (f := 19) rfl ?_); refine goesL_ (some 86) rfl rfl Try.func19 (by kernel_rfl) rfl #[.agg #[.int .i64 t600, .int .i64 t601, .int .i64 t602, .slice Ao124 t603.length co124], .agg #[.int .i64 t557, .int .i64 t558, .int .i64 t559, .slice Ao23 t560.length co23]] rfl (by (try simp only [List.map_toArray, List.map_cons, List.map_nil]); first | done | rfl | (simp only [List.length_drop, List.length_take]; rfl)) ?_; (with_reducible refine (laws_eqLine.calls kj60 t600 t601 t602 _ _ t603 t557 t558 t559 _ _ t560 true _ ?side1 ?side2 ?side3 ?side4 A125.out).mono ?_); (case side1 => refine (Kd.R_reads' (e := 3) (base := w.heap.size) (ok := fun k_ => ((((True ∧ some k_ ≠ (.slice Ao23 t560.length co23 : Value).ownBlock) ∧ some k_ ≠ (.slice Ao30 t589.length co30 : Value).ownBlock) ∧ some k_ ≠ (.slice Ao37 t575.length co37 : Value).ownBlock) ∧ some k_ ≠ (.slice Ao116 t597.length co116 : Value).ownBlock)) (n := t603.length) (c := co124) ?_).2.2; exact (by (with_reducible repeat (first | apply Kd.R_alloc | apply Kd.R_drewN | apply Kd.R_drew)); exact (Kd.R_mono (Kd.R_far (p := ⟨gb607, 3, none⟩) (Kd.R_far (p := ⟨gb607, 2, none⟩) (Kd.R_far (p := ⟨gb607, 1, none⟩) (Kd.R_far (p := ⟨gb607, 0, none⟩) (Kd.R_types HO605.out BK607.out (by decide)) (fun _ hk => hk.2) (.int .i64 t600)) (fun _ hk => hk.2) (.int .i64 t601)) (fun _ hk => hk.2) (.int .i64 t602)) (fun _ hk => hk.2) (.slice Ao124 t603.length co124)) (fun _ h_ => h_.1)))); (case side2 => exact (Kd.R_reads' HO605.out).2.1); (case side3 => refine (Kd.R_reads' (e := 3) (base := w.heap.size) (ok := fun k_ => (((some k_ ≠ (.slice Ao30 t589.length co30 : Value).ownBlock ∧ some k_ ≠ (.slice Ao37 t575.length co37 : Value).ownBlock) ∧ some k_ ≠ (.slice Ao116 t597.length co116 : Value).ownBlock) ∧ some k_ ≠ (.slice Ao124 t603.length co124 : Value).ownBlock)) (n := t560.length) (c := co23) ?_).2.2; exact (by (with_reducible repeat (first | apply Kd.R_alloc | apply Kd.R_drewN | apply Kd.R_drew)); exact (Kd.R_mono (Kd.R_far (p := ⟨gb607, 3, none⟩) (Kd.R_far (p := ⟨gb607, 2, none⟩) (Kd.R_far (p := ⟨gb607, 1, none⟩) (Kd.R_far (p := ⟨gb607, 0, none⟩) (Kd.R_types HO_565003.out BK607.out (by decide)) (fun _ hk => hk.2) (.int .i64 t600)) (fun _ hk => hk.2) (.int .i64 t601)) (fun _ hk => hk.2) (.int .i64 t602)) (fun _ hk => hk.2) (.slice Ao124 t603.length co124)) (fun _ h_ => h_.1)))); (case side4 => exact (Kd.R_reads' HO_565003.out).2.1); rintro e w136 ⟨rfl, hb⟩; refine ⟨_, rfl, ?_⟩; have n0_ := Aside0.mk (Kd.R_below (by (with_reducible repeat (first | apply Kd.R_alloc | apply Kd.R_drewN | apply Kd.R_drew)); exact (Kd.R_mono (Kd.R_far (p := ⟨gb607, 3, none⟩) (Kd.R_far (p := ⟨gb607, 2, none⟩) (Kd.R_far (p := ⟨gb607, 1, none⟩) (Kd.R_far (p := ⟨gb607, 0, none⟩) (Kd.R_types HO_565003.out BK607.out (by decide)) (fun _ hk => hk.2) (.int .i64 t600)) (fun _ hk => hk.2) (.int .i64 t601)) (fun _ hk => hk.2) (.int .i64 t602)) (fun _ hk => hk.2) (.slice Ao124 t603.length co124)) (fun _ h_ => h_.1))) hb); have n1_ := Aside0.mk (Kd.R_below (by (with_reducible repeat (first | apply Kd.R_alloc | apply Kd.R_drewN | apply Kd.R_drew)); exact (Kd.R_mono (Kd.R_far (p := ⟨gb607, 3, none⟩) (Kd.R_far (p := ⟨gb607, 2, none⟩) (Kd.R_far (p := ⟨gb607, 1, none⟩) (Kd.R_far (p := ⟨gb607, 0, none⟩) (Kd.R_types HO_572003.out BK607.out (by decide)) (fun _ hk => hk.2) (.int .i64 t600)) (fun _ hk => hk.2) (.int .i64 t601)) (fun _ hk => hk.2) (.int .i64 t602)) (fun _ hk => hk.2) (.slice Ao124 t603.length co124)) (fun _ h_ => h_.1))) hb); have n2_ := Aside0.mk (Kd.R_below (by (with_reducible repeat (first | apply Kd.R_alloc | apply Kd.R_drewN | apply Kd.R_drew)); exact (Kd.R_mono (Kd.R_far (p := ⟨gb607, 3, none⟩) (Kd.R_far (p := ⟨gb607, 2, none⟩) (Kd.R_far (p := ⟨gb607, 1, none⟩) (Kd.R_far (p := ⟨gb607, 0, none⟩) (Kd.R_types HO_580003.out BK607.out (by decide)) (fun _ hk => hk.2) (.int .i64 t600)) (fun _ hk => hk.2) (.int .i64 t601)) (fun _ hk => hk.2) (.int .i64 t602)) (fun _ hk => hk.2) (.slice Ao124 t603.length co124)) (fun _ h_ => h_.1))) hb); have n3_ := Aside0.mk (Kd.R_below (by (with_reducible repeat (first | apply Kd.R_alloc | apply Kd.R_drewN | apply Kd.R_drew)); exact (Kd.R_mono (Kd.R_far (p := ⟨gb607, 3, none⟩) (Kd.R_far (p := ⟨gb607, 2, none⟩) (Kd.R_far (p := ⟨gb607, 1, none⟩) (Kd.R_far (p := ⟨gb607, 0, none⟩) (Kd.R_types HO599.out BK607.out (by decide)) (fun _ hk => hk.2) (.int .i64 t600)) (fun _ hk => hk.2) (.int .i64 t601)) (fun _ hk => hk.2) (.int .i64 t602)) (fun _ hk => hk.2) (.slice Ao124 t603.length co124)) (fun _ h_ => h_.1))) hb); have n4_ := Aside0.mk (Kd.R_below (by (with_reducible repeat (first | apply Kd.R_alloc | apply Kd.R_drewN | apply Kd.R_drew)); exact (Kd.R_mono (Kd.R_far (p := ⟨gb607, 3, none⟩) (Kd.R_far (p := ⟨gb607, 2, none⟩) (Kd.R_far (p := ⟨gb607, 1, none⟩) (Kd.R_far (p := ⟨gb607, 0, none⟩) (Kd.R_types HO605.out BK607.out (by decide)) (fun _ hk => hk.2) (.int .i64 t600)) (fun _ hk => hk.2) (.int .i64 t601)) (fun _ hk => hk.2) (.int .i64 t602)) (fun _ hk => hk.2) (.slice Ao124 t603.length co124)) (fun _ h_ => h_.1))) hb); have n5_ := Aside0.mk (blk_below (g := gb549) (o := .cells #[.int .i64 a0_0, .int .i64 a0_1, .int .i64 a0_2, .slice A0_3 l0_3.length c0_3] 24 (0, 0)) (by (with_reducible repeat (first | refine blk_drewN ?_ _ | refine blk_drew ?_ | refine blk_alloc ?_ _)); refine blk_far ?_ NB549_607.out _; (with_reducible repeat (first | refine blk_drewN ?_ _ | refine blk_drew ?_ | refine blk_alloc ?_ _)); refine blk_far ?_ NB549_607.out _; (with_reducible repeat (first | refine blk_drewN ?_ _ | refine blk_drew ?_ | refine blk_alloc ?_ _)); refine blk_far ?_ NB549_607.out _; (with_reducible repeat (first | refine blk_drewN ?_ _ | refine blk_drew ?_ | refine blk_alloc ?_ _)); refine blk_far ?_ NB549_607.out _; (with_reducible repeat (first | refine blk_drewN ?_ _ | refine blk_drew ?_ | refine blk_alloc ?_ _)); exact BK549.out) hb); have n6_ := Aside0.mk (blk_below (g := gb564) (o := .cells #[.int .i64 t557, .int .i64 t558, .int .i64 t559, .slice Ao23 t560.length co23] 28 (0, 0)) (by (with_reducible repeat (first | refine blk_drewN ?_ _ | refine blk_drew ?_ | refine blk_alloc ?_ _)); refine blk_far ?_ NB564_607.out _; (with_reducible repeat (first | refine blk_drewN ?_ _ | refine blk_drew ?_ | refine blk_alloc ?_ _)); refine blk_far ?_ NB564_607.out _; (with_reducible repeat (first | refine blk_drewN ?_ _ | refine blk_drew ?_ | refine blk_alloc ?_ _)); refine blk_far ?_ NB564_607.out _; (with_reducible repeat (first | refine blk_drewN ?_ _ | refine blk_drew ?_ | refine blk_alloc ?_ _)); refine blk_far ?_ NB564_607.out _; (with_reducible repeat (first | refine blk_drewN ?_ _ | refine blk_drew ?_ | refine blk_alloc ?_ _)); exact BK564.out) hb); have n7_ := Aside0.mk (blk_below (g := gb571) (o := .cells #[.int .i64 t565, .int .i64 t566, .int .i64 t567, .slice Ao30 t589.length co30] 28 (0, 0)) (by (with_reducible repeat (first | refine blk_drewN ?_ _ | refine blk_drew ?_ | refine blk_alloc ?_ _)); refine blk_far ?_ NB571_607.out _; (with_reducible repeat (first | refine blk_drewN ?_ _ | refine blk_drew ?_ | refine blk_alloc ?_ _)); refine blk_far ?_ NB571_607.out _; (with_reducible repeat (first | refine blk_drewN ?_ _ | refine blk_drew ?_ | refine blk_alloc ?_ _)); refine blk_far ?_ NB571_607.out _; (with_reducible repeat (first | refine blk_drewN ?_ _ | refine blk_drew ?_ | refine blk_alloc ?_ _)); refine blk_far ?_ NB571_607.out _; (with_reducible repeat (first | refine blk_drewN ?_ _ | refine blk_drew ?_ | refine blk_alloc ?_ _)); exact BK571.out) hb); have n8_ := Aside0.mk (blk_below (g := gb579) (o := .cells #[.int .i64 t572, .int .i64 t573, .int .i64 t574, .slice Ao37 t575.length co37] 28 (0, 0)) (by (with_reducible repeat (first | refine blk_drewN ?_ _ | refine blk_drew ?_ | refine blk_alloc ?_ _)); refine blk_far ?_ NB579_607.out _; (with_reducible repeat (first | refine blk_drewN ?_ _ | refine blk_drew ?_ | refine blk_alloc ?_ _)); refine blk_far ?_ NB579_607.out _; (with_reducible repeat (first | refine blk_drewN ?_ _ | refine blk_drew ?_ | refine blk_alloc ?_ _)); refine blk_far ?_ NB579_607.out _; (with_reducible repeat (first | refine blk_drewN ?_ _ | refine blk_drew ?_ | refine blk_alloc ?_ _)); refine blk_far ?_ NB579_607.out _; (with_reducible repeat (first | refine blk_drewN ?_ _ | refine blk_drew ?_ | refine blk_alloc ?_ _)); exact BK579.out) hb); have n9_ := Aside0.mk (blk_below (g := gb607) (o := .cells #[.int .i64 t600, .int .i64 t601, .int .i64 t602, .slice Ao124 t603.length co124] 28 (0, 0)) (by (with_reducible repeat (first | refine blk_drewN ?_ _ | refine blk_drew ?_ | refine blk_alloc ?_ _)); refine blk_put (cs := #[.int .i64 t600, .int .i64 t601, .int .i64 t602, .slice none 0 0]) ?_ 3 _ rfl; (with_reducible repeat (first | refine blk_drewN ?_ _ | refine blk_drew ?_ | refine blk_alloc ?_ _)); refine blk_put (cs := #[.int .i64 t600, .int .i64 t601, .int .i64 0, .slice none 0 0]) ?_ 2 _ rfl; (with_reducible repeat (first | refine blk_drewN ?_ _ | refine blk_drew ?_ | refine blk_alloc ?_ _)); refine blk_put (cs := #[.int .i64 t600, .int .i64 0, .int .i64 0, .slice none 0 0]) ?_ 1 _ rfl; (with_reducible repeat (first | refine blk_drewN ?_ _ | refine blk_drew ?_ | refine blk_alloc ?_ _)); refine blk_put (cs := #[.int .i64 0, .int .i64 0, .int .i64 0, .slice none 0 0]) ?_ 0 _ rfl; (with_reducible repeat (first | refine blk_drewN ?_ _ | refine blk_drew ?_ | refine blk_alloc ?_ _)); exact BK607.out) hb); have n10_ := Aside0.mk (below_step (by repeat (first | (with_reducible first | exact HB.out | apply below_alloc | apply pw_below_drewN | apply below_drew1 | refine below_set ?_ GE549.out | refine below_set ?_ GE564.out | refine below_set ?_ GE571.out | refine below_set ?_ GE579.out | refine below_set ?_ GE607.out) | exact HB.out)) hb); clear HO_565003; clear HO_572003; clear HO_580003; clear HO599; clear HO605; clear BK549; clear BK564; clear BK571; clear BK579; clear BK607; clear HB; have HO_565003 := n0_; have HO_572003 := n1_; have HO_580003 := n2_; have HO599 := n3_; have HO605 := n4_; have BK549 := n5_; have BK564 := n6_; have BK571 := n7_; have BK579 := n8_; have BK607 := n9_; have HB := n10_; clear n0_ n1_ n2_ n3_ n4_ n5_ n6_ n7_ n8_ n9_ n10_; (try clear hb); (try clear hb2); (try clear hk); (try clear hi)))
                          go_meet
                          case rel => exact ⟨_, ((t606 != t563)), (by first | rfl | (simp; done) | (simp [*]; done)), H', ⟨by have := HJ11.out; have := HJ60.out; first | omega | exact Nat.le_refl _⟩, ⟨by (try simp only [hl572003_60]); (with_reducible repeat (first | apply Kd.R_alloc | apply Kd.R_drewN | apply Kd.R_drew)); exact Kd.R_mono HO_565003.out (fun _ hk => ⟨hk.1.1.1, ⟨hk.1.1.2, hk.2⟩⟩)⟩, ⟨by (try simp only [hl572003_60]); (with_reducible repeat (first | apply Kd.R_alloc | apply Kd.R_drewN | apply Kd.R_drew)); exact Kd.R_mono HO_572003.out (fun _ hk => ⟨hk.1.1.1, ⟨hk.1.1.2, hk.2⟩⟩)⟩, ⟨by (try simp only [hl572003_60]); (with_reducible repeat (first | apply Kd.R_alloc | apply Kd.R_drewN | apply Kd.R_drew)); exact Kd.R_mono HO_580003.out (fun _ hk => ⟨hk.1.1.1, ⟨hk.1.1.2, hk.2⟩⟩)⟩, ⟨by (try simp only [hl572003_60]); (with_reducible repeat (first | apply Kd.R_alloc | apply Kd.R_drewN | apply Kd.R_drew)); exact Kd.R_mono HO605.out (fun _ hk => ⟨hk.1.1.1.2, ⟨hk.1.1.2, hk.1.2⟩⟩)⟩, ⟨by (try simp only [hl572003_60]); (with_reducible repeat (first | refine blk_drewN ?_ _ | refine blk_drew ?_ | refine blk_alloc ?_ _)); exact BK549.out⟩, ⟨by (try simp only [hl572003_60]); (with_reducible repeat (first | refine blk_drewN ?_ _ | refine blk_drew ?_ | refine blk_alloc ?_ _)); exact BK564.out⟩, ⟨by (try simp only [hl572003_60]); (with_reducible repeat (first | refine blk_drewN ?_ _ | refine blk_drew ?_ | refine blk_alloc ?_ _)); exact BK571.out⟩, ⟨by (try simp only [hl572003_60]); (with_reducible repeat (first | refine blk_drewN ?_ _ | refine blk_drew ?_ | refine blk_alloc ?_ _)); exact BK579.out⟩, ⟨by (try simp only [hl572003_60]); (with_reducible repeat (first | refine blk_drewN ?_ _ | refine blk_drew ?_ | refine blk_alloc ?_ _)); exact BK607.out⟩, ⟨by repeat (first | (with_reducible first | exact HB.out | apply below_alloc | apply pw_below_drewN | apply below_drew1 | refine below_set ?_ GE549.out | refine below_set ?_ GE564.out | refine below_set ?_ GE571.out | refine below_set ?_ GE579.out | refine below_set ?_ GE607.out) | exact HB.out)⟩⟩
                        · replace c126 := Bool.eq_false_iff.mpr c126
                          subst c126
                          have H1 : (laws_FnExactDropBus.j2 kj60 t591 true t572 t573 t574 t592) = some r := by rw [if_neg (show ¬ (false = true) by decide)] at H; exact H
                          clear H
                          have H := H1
                          clear H1
                          have H' := Aside0.mk H
                          clear H
                          have hnb137 := NB607_549.out
                          have hnc137 := NB549_607.out
                          have hnb138 := NB607_564.out
                          have hnc138 := NB564_607.out
                          have hnb139 := NB607_571.out
                          have hnc139 := NB571_607.out
                          have hnb140 := NB607_579.out
                          have hnc140 := NB579_607.out
                          have hcz141_0 : w118.cell? ⟨gb607, 0, none⟩ = some (.int .i64 0) := (blk_cell BK607.out 0).trans rfl
                          have hcz141_1 : w118.cell? ⟨gb607, 1, none⟩ = some (.int .i64 0) := (blk_cell BK607.out 1).trans rfl
                          have hcz141_2 : w118.cell? ⟨gb607, 2, none⟩ = some (.int .i64 0) := (blk_cell BK607.out 2).trans rfl
                          have hcz141_3 : w118.cell? ⟨gb607, 3, none⟩ = some (.slice none 0 0) := (blk_cell BK607.out 3).trans rfl
                          have hfz141_0 := blk_frozen BK607.out 0
                          have hfz141_1 := blk_frozen BK607.out 1
                          have hfz141_2 := blk_frozen BK607.out 2
                          have hfz141_3 := blk_frozen BK607.out 3
                          have hnb142 := NB564_549.out
                          have hnc142 := NB549_564.out
                          have hnb143 := NB564_571.out
                          have hnc143 := NB571_564.out
                          have hnb144 := NB564_579.out
                          have hnc144 := NB579_564.out
                          have hcz145_0 : w118.cell? ⟨gb564, 0, none⟩ = some (.int .i64 t557) := (blk_cell BK564.out 0).trans rfl
                          have hcz145_1 : w118.cell? ⟨gb564, 1, none⟩ = some (.int .i64 t558) := (blk_cell BK564.out 1).trans rfl
                          have hcz145_2 : w118.cell? ⟨gb564, 2, none⟩ = some (.int .i64 t559) := (blk_cell BK564.out 2).trans rfl
                          have hcz145_3 : w118.cell? ⟨gb564, 3, none⟩ = some (.slice Ao23 t560.length co23) := (blk_cell BK564.out 3).trans rfl
                          have hfz145_0 := blk_frozen BK564.out 0
                          have hfz145_1 := blk_frozen BK564.out 1
                          have hfz145_2 := blk_frozen BK564.out 2
                          have hfz145_3 := blk_frozen BK564.out 3
                          go_wp2_with (first | ((with_reducible refine gate_callee (f := 19) rfl ?_); refine goesL_ (some 86) rfl rfl Try.func19 (by kernel_rfl) rfl #[.agg #[.int .i64 t600, .int .i64 t601, .int .i64 t602, .slice Ao124 t603.length co124], .agg #[.int .i64 t557, .int .i64 t558, .int .i64 t559, .slice Ao23 t560.length co23]] rfl (by (try simp only [List.map_toArray, List.map_cons, List.map_nil]); first | done | rfl | (simp only [List.length_drop, List.length_take]; rfl)) ?_; (with_reducible refine (laws_eqLine.calls kj60 t600 t601 t602 _ _ t603 t557 t558 t559 _ _ t560 false _ ?side1 ?side2 ?side3 ?side4 A125.out).mono ?_); (case side1 => refine (Kd.R_reads' (e := 3) (base := w.heap.size) (ok := fun k_ => ((((True ∧ some k_ ≠ (.slice Ao23 t560.length co23 : Value).ownBlock) ∧ some k_ ≠ (.slice Ao30 t589.length co30 : Value).ownBlock) ∧ some k_ ≠ (.slice Ao37 t575.length co37 : Value).ownBlock) ∧ some k_ ≠ (.slice Ao116 t597.length co116 : Value).ownBlock)) (n := t603.length) (c := co124) ?_).2.2; exact (by (with_reducible repeat (first | apply Kd.R_alloc | apply Kd.R_drewN | apply Kd.R_drew)); exact (Kd.R_mono (Kd.R_far (p := ⟨gb607, 3, none⟩) (Kd.R_far (p := ⟨gb607, 2, none⟩) (Kd.R_far (p := ⟨gb607, 1, none⟩) (Kd.R_far (p := ⟨gb607, 0, none⟩) (Kd.R_types HO605.out BK607.out (by decide)) (fun _ hk => hk.2) (.int .i64 t600)) (fun _ hk => hk.2) (.int .i64 t601)) (fun _ hk => hk.2) (.int .i64 t602)) (fun _ hk => hk.2) (.slice Ao124 t603.length co124)) (fun _ h_ => h_.1)))); (case side2 => exact (Kd.R_reads' HO605.out).2.1); (case side3 => refine (Kd.R_reads' (e := 3) (base := w.heap.size) (ok := fun k_ => (((some k_ ≠ (.slice Ao30 t589.length co30 : Value).ownBlock ∧ some k_ ≠ (.slice Ao37 t575.length co37 : Value).ownBlock) ∧ some k_ ≠ (.slice Ao116 t597.length co116 : Value).ownBlock) ∧ some k_ ≠ (.slice Ao124 t603.length co124 : Value).ownBlock)) (n := t560.length) (c := co23) ?_).2.2; exact (by (with_reducible repeat (first | apply Kd.R_alloc | apply Kd.R_drewN | apply Kd.R_drew)); exact (Kd.R_mono (Kd.R_far (p := ⟨gb607, 3, none⟩) (Kd.R_far (p := ⟨gb607, 2, none⟩) (Kd.R_far (p := ⟨gb607, 1, none⟩) (Kd.R_far (p := ⟨gb607, 0, none⟩) (Kd.R_types HO_565003.out BK607.out (by decide)) (fun _ hk => hk.2) (.int .i64 t600)) (fun _ hk => hk.2) (.int .i64 t601)) (fun _ hk => hk.2) (.int .i64 t602)) (fun _ hk => hk.2) (.slice Ao124 t603.length co124)) (fun _ h_ => h_.1)))); (case side4 => exact (Kd.R_reads' HO_565003.out).2.1); rintro e w146 ⟨rfl, hb⟩; refine ⟨_, rfl, ?_⟩; have n0_ := Aside0.mk (Kd.R_below (by (with_reducible repeat (first | apply Kd.R_alloc | apply Kd.R_drewN | apply Kd.R_drew)); exact (Kd.R_mono (Kd.R_far (p := ⟨gb607, 3, none⟩) (Kd.R_far (p := ⟨gb607, 2, none⟩) (Kd.R_far (p := ⟨gb607, 1, none⟩) (Kd.R_far (p := ⟨gb607, 0, none⟩) (Kd.R_types HO_565003.out BK607.out (by decide)) (fun _ hk => hk.2) (.int .i64 t600)) (fun _ hk => hk.2) (.int .i64 t601)) (fun _ hk => hk.2) (.int .i64 t602)) (fun _ hk => hk.2) (.slice Ao124 t603.length co124)) (fun _ h_ => h_.1))) hb); have n1_ := Aside0.mk (Kd.R_below (by (with_reducible repeat (first | apply Kd.R_alloc | apply Kd.R_drewN | apply Kd.R_drew)); exact (Kd.R_mono (Kd.R_far (p := ⟨gb607, 3, none⟩) (Kd.R_far (p := ⟨gb607, 2, none⟩) (Kd.R_far (p := ⟨gb607, 1, none⟩) (Kd.R_far (p := ⟨gb607, 0, none⟩) (Kd.R_types HO_572003.out BK607.out (by decide)) (fun _ hk => hk.2) (.int .i64 t600)) (fun _ hk => hk.2) (.int .i64 t601)) (fun _ hk => hk.2) (.int .i64 t602)) (fun _ hk => hk.2) (.slice Ao124 t603.length co124)) (fun _ h_ => h_.1))) hb); have n2_ := Aside0.mk (Kd.R_below (by (with_reducible repeat (first | apply Kd.R_alloc | apply Kd.R_drewN | apply Kd.R_drew)); exact (Kd.R_mono (Kd.R_far (p := ⟨gb607, 3, none⟩) (Kd.R_far (p := ⟨gb607, 2, none⟩) (Kd.R_far (p := ⟨gb607, 1, none⟩) (Kd.R_far (p := ⟨gb607, 0, none⟩) (Kd.R_types HO_580003.out BK607.out (by decide)) (fun _ hk => hk.2) (.int .i64 t600)) (fun _ hk => hk.2) (.int .i64 t601)) (fun _ hk => hk.2) (.int .i64 t602)) (fun _ hk => hk.2) (.slice Ao124 t603.length co124)) (fun _ h_ => h_.1))) hb); have n3_ := Aside0.mk (Kd.R_below (by (with_reducible repeat (first | apply Kd.R_alloc | apply Kd.R_drewN | apply Kd.R_drew)); exact (Kd.R_mono (Kd.R_far (p := ⟨gb607, 3, none⟩) (Kd.R_far (p := ⟨gb607, 2, none⟩) (Kd.R_far (p := ⟨gb607, 1, none⟩) (Kd.R_far (p := ⟨gb607, 0, none⟩) (Kd.R_types HO599.out BK607.out (by decide)) (fun _ hk => hk.2) (.int .i64 t600)) (fun _ hk => hk.2) (.int .i64 t601)) (fun _ hk => hk.2) (.int .i64 t602)) (fun _ hk => hk.2) (.slice Ao124 t603.length co124)) (fun _ h_ => h_.1))) hb); have n4_ := Aside0.mk (Kd.R_below (by (with_reducible repeat (first | apply Kd.R_alloc | apply Kd.R_drewN | apply Kd.R_drew)); exact (Kd.R_mono (Kd.R_far (p := ⟨gb607, 3, none⟩) (Kd.R_far (p := ⟨gb607, 2, none⟩) (Kd.R_far (p := ⟨gb607, 1, none⟩) (Kd.R_far (p := ⟨gb607, 0, none⟩) (Kd.R_types HO605.out BK607.out (by decide)) (fun _ hk => hk.2) (.int .i64 t600)) (fun _ hk => hk.2) (.int .i64 t601)) (fun _ hk => hk.2) (.int .i64 t602)) (fun _ hk => hk.2) (.slice Ao124 t603.length co124)) (fun _ h_ => h_.1))) hb); have n5_ := Aside0.mk (blk_below (g := gb549) (o := .cells #[.int .i64 a0_0, .int .i64 a0_1, .int .i64 a0_2, .slice A0_3 l0_3.length c0_3] 24 (0, 0)) (by (with_reducible repeat (first | refine blk_drewN ?_ _ | refine blk_drew ?_ | refine blk_alloc ?_ _)); refine blk_far ?_ NB549_607.out _; (with_reducible repeat (first | refine blk_drewN ?_ _ | refine blk_drew ?_ | refine blk_alloc ?_ _)); refine blk_far ?_ NB549_607.out _; (with_reducible repeat (first | refine blk_drewN ?_ _ | refine blk_drew ?_ | refine blk_alloc ?_ _)); refine blk_far ?_ NB549_607.out _; (with_reducible repeat (first | refine blk_drewN ?_ _ | refine blk_drew ?_ | refine blk_alloc ?_ _)); refine blk_far ?_ NB549_607.out _; (with_reducible repeat (first | refine blk_drewN ?_ _ | refine blk_drew ?_ | refine blk_alloc ?_ _)); exact BK549.out) hb); have n6_ := Aside0.mk (blk_below (g := gb564) (o := .cells #[.int .i64 t557, .int .i64 t558, .int .i64 t559, .slice Ao23 t560.length co23] 28 (0, 0)) (by (with_reducible repeat (first | refine blk_drewN ?_ _ | refine blk_drew ?_ | refine blk_alloc ?_ _)); refine blk_far ?_ NB564_607.out _; (with_reducible repeat (first | refine blk_drewN ?_ _ | refine blk_drew ?_ | refine blk_alloc ?_ _)); refine blk_far ?_ NB564_607.out _; (with_reducible repeat (first | refine blk_drewN ?_ _ | refine blk_drew ?_ | refine blk_alloc ?_ _)); refine blk_far ?_ NB564_607.out _; (with_reducible repeat (first | refine blk_drewN ?_ _ | refine blk_drew ?_ | refine blk_alloc ?_ _)); refine blk_far ?_ NB564_607.out _; (with_reducible repeat (first | refine blk_drewN ?_ _ | refine blk_drew ?_ | refine blk_alloc ?_ _)); exact BK564.out) hb); have n7_ := Aside0.mk (blk_below (g := gb571) (o := .cells #[.int .i64 t565, .int .i64 t566, .int .i64 t567, .slice Ao30 t589.length co30] 28 (0, 0)) (by (with_reducible repeat (first | refine blk_drewN ?_ _ | refine blk_drew ?_ | refine blk_alloc ?_ _)); refine blk_far ?_ NB571_607.out _; (with_reducible repeat (first | refine blk_drewN ?_ _ | refine blk_drew ?_ | refine blk_alloc ?_ _)); refine blk_far ?_ NB571_607.out _; (with_reducible repeat (first | refine blk_drewN ?_ _ | refine blk_drew ?_ | refine blk_alloc ?_ _)); refine blk_far ?_ NB571_607.out _; (with_reducible repeat (first | refine blk_drewN ?_ _ | refine blk_drew ?_ | refine blk_alloc ?_ _)); refine blk_far ?_ NB571_607.out _; (with_reducible repeat (first | refine blk_drewN ?_ _ | refine blk_drew ?_ | refine blk_alloc ?_ _)); exact BK571.out) hb); have n8_ := Aside0.mk (blk_below (g := gb579) (o := .cells #[.int .i64 t572, .int .i64 t573, .int .i64 t574, .slice Ao37 t575.length co37] 28 (0, 0)) (by (with_reducible repeat (first | refine blk_drewN ?_ _ | refine blk_drew ?_ | refine blk_alloc ?_ _)); refine blk_far ?_ NB579_607.out _; (with_reducible repeat (first | refine blk_drewN ?_ _ | refine blk_drew ?_ | refine blk_alloc ?_ _)); refine blk_far ?_ NB579_607.out _; (with_reducible repeat (first | refine blk_drewN ?_ _ | refine blk_drew ?_ | refine blk_alloc ?_ _)); refine blk_far ?_ NB579_607.out _; (with_reducible repeat (first | refine blk_drewN ?_ _ | refine blk_drew ?_ | refine blk_alloc ?_ _)); refine blk_far ?_ NB579_607.out _; (with_reducible repeat (first | refine blk_drewN ?_ _ | refine blk_drew ?_ | refine blk_alloc ?_ _)); exact BK579.out) hb); have n9_ := Aside0.mk (blk_below (g := gb607) (o := .cells #[.int .i64 t600, .int .i64 t601, .int .i64 t602, .slice Ao124 t603.length co124] 28 (0, 0)) (by (with_reducible repeat (first | refine blk_drewN ?_ _ | refine blk_drew ?_ | refine blk_alloc ?_ _)); refine blk_put (cs := #[.int .i64 t600, .int .i64 t601, .int .i64 t602, .slice none 0 0]) ?_ 3 _ rfl; (with_reducible repeat (first | refine blk_drewN ?_ _ | refine blk_drew ?_ | refine blk_alloc ?_ _)); refine blk_put (cs := #[.int .i64 t600, .int .i64 t601, .int .i64 0, .slice none 0 0]) ?_ 2 _ rfl; (with_reducible repeat (first | refine blk_drewN ?_ _ | refine blk_drew ?_ | refine blk_alloc ?_ _)); refine blk_put (cs := #[.int .i64 t600, .int .i64 0, .int .i64 0, .slice none 0 0]) ?_ 1 _ rfl; (with_reducible repeat (first | refine blk_drewN ?_ _ | refine blk_drew ?_ | refine blk_alloc ?_ _)); refine blk_put (cs := #[.int .i64 0, .int .i64 0, .int .i64 0, .slice none 0 0]) ?_ 0 _ rfl; (with_reducible repeat (first | refine blk_drewN ?_ _ | refine blk_drew ?_ | refine blk_alloc ?_ _)); exact BK607.out) hb); have n10_ := Aside0.mk (below_step (by repeat (first | (with_reducible first | exact HB.out | apply below_alloc | apply pw_below_drewN | apply below_drew1 | refine below_set ?_ GE549.out | refine below_set ?_ GE564.out | refine below_set ?_ GE571.out | refine below_set ?_ GE579.out | refine below_set ?_ GE607.out) | exact HB.out)) hb); clear HO_565003; clear HO_572003; clear HO_580003; clear HO599; clear HO605; clear BK549; clear BK564; clear BK571; clear BK579; clear BK607; clear HB; have HO_565003 := n0_; have HO_572003 := n1_; have HO_580003 := n2_; have HO599 := n3_; have HO605 := n4_; have BK549 := n5_; have BK564 := n6_; have BK571 := n7_; have BK579 := n8_; have BK607 := n9_; have HB := n10_; clear n0_ n1_ n2_ n3_ n4_ n5_ n6_ n7_ n8_ n9_ n10_; (try clear hb); (try clear hb2); (try clear hk); (try clear hi)))
                          go_meet
                          case rel => exact ⟨_, (true), (by first | rfl | (simp; done) | (simp [*]; done)), H', ⟨by have := HJ11.out; have := HJ60.out; first | omega | exact Nat.le_refl _⟩, ⟨by (try simp only [hl572003_60]); (with_reducible repeat (first | apply Kd.R_alloc | apply Kd.R_drewN | apply Kd.R_drew)); exact Kd.R_mono HO_565003.out (fun _ hk => ⟨hk.1.1.1, ⟨hk.1.1.2, hk.2⟩⟩)⟩, ⟨by (try simp only [hl572003_60]); (with_reducible repeat (first | apply Kd.R_alloc | apply Kd.R_drewN | apply Kd.R_drew)); exact Kd.R_mono HO_572003.out (fun _ hk => ⟨hk.1.1.1, ⟨hk.1.1.2, hk.2⟩⟩)⟩, ⟨by (try simp only [hl572003_60]); (with_reducible repeat (first | apply Kd.R_alloc | apply Kd.R_drewN | apply Kd.R_drew)); exact Kd.R_mono HO_580003.out (fun _ hk => ⟨hk.1.1.1, ⟨hk.1.1.2, hk.2⟩⟩)⟩, ⟨by (try simp only [hl572003_60]); (with_reducible repeat (first | apply Kd.R_alloc | apply Kd.R_drewN | apply Kd.R_drew)); exact Kd.R_mono HO605.out (fun _ hk => ⟨hk.1.1.1.2, ⟨hk.1.1.2, hk.1.2⟩⟩)⟩, ⟨by (try simp only [hl572003_60]); (with_reducible repeat (first | refine blk_drewN ?_ _ | refine blk_drew ?_ | refine blk_alloc ?_ _)); exact BK549.out⟩, ⟨by (try simp only [hl572003_60]); (with_reducible repeat (first | refine blk_drewN ?_ _ | refine blk_drew ?_ | refine blk_alloc ?_ _)); exact BK564.out⟩, ⟨by (try simp only [hl572003_60]); (with_reducible repeat (first | refine blk_drewN ?_ _ | refine blk_drew ?_ | refine blk_alloc ?_ _)); exact BK571.out⟩, ⟨by (try simp only [hl572003_60]); (with_reducible repeat (first | refine blk_drewN ?_ _ | refine blk_drew ?_ | refine blk_alloc ?_ _)); exact BK579.out⟩, ⟨by (try simp only [hl572003_60]); (with_reducible repeat (first | refine blk_drewN ?_ _ | refine blk_drew ?_ | refine blk_alloc ?_ _)); exact BK607.out⟩, ⟨by repeat (first | (with_reducible first | exact HB.out | apply below_alloc | apply pw_below_drewN | apply below_drew1 | refine below_set ?_ GE549.out | refine below_set ?_ GE564.out | refine below_set ?_ GE571.out | refine below_set ?_ GE579.out | refine below_set ?_ GE607.out) | exact HB.out)⟩⟩
                      case rest =>
                        clear HC104
                        try clear c1
                        try clear c2
                        try clear p2
                        try clear c3
                        try clear c4
                        try clear c4b0
                        try clear c5
                        try clear c6
                        try clear c7
                        try clear c8
                        try clear c9
                        try clear c10
                        try clear c11
                        try clear c12
                        try clear c13
                        try clear c14
                        try clear c15
                        try clear c17
                        try clear c19
                        try clear c21
                        try clear c27
                        try clear c28
                        try clear c33
                        try clear c34
                        try clear c35
                        try clear c38
                        try clear c39
                        try clear c40
                        try clear c41
                        try clear c42
                        try clear c44
                        try clear c45
                        try clear c48
                        try clear c49
                        try clear c50
                        try clear c52
                        try clear c53
                        try clear c56
                        try clear c59
                        try clear c66
                        try clear c67
                        try clear c68
                        try clear c71
                        try clear c71b0
                        try clear c73
                        try clear c74
                        try clear c75
                        try clear c76
                        try clear c78
                        try clear c79
                        try clear c82
                        try clear c83
                        try clear c84
                        try clear c86
                        try clear c87
                        try clear c90
                        try clear c93
                        try clear c93b0
                        try clear c94
                        try clear c95
                        try clear c96
                        try clear c101
                        try clear c101b0
                        try clear c101b1
                        try clear c105
                        try clear c106
                        try clear c107
                        try clear c112
                        try clear c113
                        try clear c119
                        try clear c120
                        try clear c121
                        try clear c122
                        try clear c126
                        try clear c127
                        try clear c128
                        try clear c129
                        try clear c130
                        try clear c132
                        try clear c133
                        try clear c134
                        try clear c137
                        try clear c138
                        try clear c139
                        try clear c140
                        try clear c142
                        try clear c143
                        try clear c144
                        try clear hcz108_0
                        try clear hcz108_1
                        try clear hcz108_2
                        try clear hcz108_3
                        try clear hcz110_0
                        try clear hcz110_1
                        try clear hcz110_2
                        try clear hcz110_3
                        try clear hcz114_0
                        try clear hcz114_1
                        try clear hcz114_2
                        try clear hcz114_3
                        try clear hcz123_0
                        try clear hcz123_1
                        try clear hcz123_2
                        try clear hcz123_3
                        try clear hcz131_0
                        try clear hcz131_1
                        try clear hcz131_2
                        try clear hcz131_3
                        try clear hcz135_0
                        try clear hcz135_1
                        try clear hcz135_2
                        try clear hcz135_3
                        try clear hcz141_0
                        try clear hcz141_1
                        try clear hcz141_2
                        try clear hcz141_3
                        try clear hcz145_0
                        try clear hcz145_1
                        try clear hcz145_2
                        try clear hcz145_3
                        try clear hcz14_0
                        try clear hcz14_1
                        try clear hcz14_2
                        try clear hcz14_3
                        try clear hcz16_0
                        try clear hcz16_1
                        try clear hcz16_2
                        try clear hcz16_3
                        try clear hcz22_0
                        try clear hcz22_1
                        try clear hcz22_2
                        try clear hcz22_3
                        try clear hcz24_0
                        try clear hcz24_1
                        try clear hcz24_2
                        try clear hcz24_3
                        try clear hcz29_0
                        try clear hcz29_1
                        try clear hcz29_2
                        try clear hcz29_3
                        try clear hcz36_0
                        try clear hcz36_1
                        try clear hcz36_2
                        try clear hcz36_3
                        try clear hcz43_0
                        try clear hcz43_1
                        try clear hcz43_2
                        try clear hcz43_3
                        try clear hcz46_0
                        try clear hcz46_1
                        try clear hcz46_2
                        try clear hcz46_3
                        try clear hcz51_0
                        try clear hcz51_1
                        try clear hcz51_2
                        try clear hcz51_3
                        try clear hcz54_0
                        try clear hcz54_1
                        try clear hcz54_2
                        try clear hcz54_3
                        try clear hcz69_0
                        try clear hcz69_1
                        try clear hcz69_2
                        try clear hcz69_3
                        try clear hcz6_0
                        try clear hcz6_1
                        try clear hcz6_2
                        try clear hcz6_3
                        try clear hcz77_0
                        try clear hcz77_1
                        try clear hcz77_2
                        try clear hcz77_3
                        try clear hcz80_0
                        try clear hcz80_1
                        try clear hcz80_2
                        try clear hcz80_3
                        try clear hcz85_0
                        try clear hcz85_1
                        try clear hcz85_2
                        try clear hcz85_3
                        try clear hcz88_0
                        try clear hcz88_1
                        try clear hcz88_2
                        try clear hcz88_3
                        try clear hcz97_0
                        try clear hcz97_1
                        try clear hcz97_2
                        try clear hcz97_3
                        try clear hcz99_0
                        try clear hcz99_1
                        try clear hcz99_2
                        try clear hcz99_3
                        try clear hfz108_0
                        try clear hfz108_1
                        try clear hfz108_2
                        try clear hfz108_3
                        try clear hfz110_0
                        try clear hfz110_1
                        try clear hfz110_2
                        try clear hfz110_3
                        try clear hfz114_0
                        try clear hfz114_1
                        try clear hfz114_2
                        try clear hfz114_3
                        try clear hfz123_0
                        try clear hfz123_1
                        try clear hfz123_2
                        try clear hfz123_3
                        try clear hfz131_0
                        try clear hfz131_1
                        try clear hfz131_2
                        try clear hfz131_3
                        try clear hfz135_0
                        try clear hfz135_1
                        try clear hfz135_2
                        try clear hfz135_3
                        try clear hfz141_0
                        try clear hfz141_1
                        try clear hfz141_2
                        try clear hfz141_3
                        try clear hfz145_0
                        try clear hfz145_1
                        try clear hfz145_2
                        try clear hfz145_3
                        try clear hfz14_0
                        try clear hfz14_1
                        try clear hfz14_2
                        try clear hfz14_3
                        try clear hfz16_0
                        try clear hfz16_1
                        try clear hfz16_2
                        try clear hfz16_3
                        try clear hfz22_0
                        try clear hfz22_1
                        try clear hfz22_2
                        try clear hfz22_3
                        try clear hfz24_0
                        try clear hfz24_1
                        try clear hfz24_2
                        try clear hfz24_3
                        try clear hfz29_0
                        try clear hfz29_1
                        try clear hfz29_2
                        try clear hfz29_3
                        try clear hfz36_0
                        try clear hfz36_1
                        try clear hfz36_2
                        try clear hfz36_3
                        try clear hfz43_0
                        try clear hfz43_1
                        try clear hfz43_2
                        try clear hfz43_3
                        try clear hfz46_0
                        try clear hfz46_1
                        try clear hfz46_2
                        try clear hfz46_3
                        try clear hfz51_0
                        try clear hfz51_1
                        try clear hfz51_2
                        try clear hfz51_3
                        try clear hfz54_0
                        try clear hfz54_1
                        try clear hfz54_2
                        try clear hfz54_3
                        try clear hfz69_0
                        try clear hfz69_1
                        try clear hfz69_2
                        try clear hfz69_3
                        try clear hfz6_0
                        try clear hfz6_1
                        try clear hfz6_2
                        try clear hfz6_3
                        try clear hfz77_0
                        try clear hfz77_1
                        try clear hfz77_2
                        try clear hfz77_3
                        try clear hfz80_0
                        try clear hfz80_1
                        try clear hfz80_2
                        try clear hfz80_3
                        try clear hfz85_0
                        try clear hfz85_1
                        try clear hfz85_2
                        try clear hfz85_3
                        try clear hfz88_0
                        try clear hfz88_1
                        try clear hfz88_2
                        try clear hfz88_3
                        try clear hfz97_0
                        try clear hfz97_1
                        try clear hfz97_2
                        try clear hfz97_3
                        try clear hfz99_0
                        try clear hfz99_1
                        try clear hfz99_2
                        try clear hfz99_3
                        try clear p2
                        obtain ⟨kq, x92_103, rfl, HA, HJ103, HO_565003, HO_572003, HO_580003, HO_608003, BK549, BK564, BK571, BK579, BK607, HB⟩ := hcut
                        have hl580003_103 := (Kd.R_reads' HO_580003.out).1
                        rw [hl580003_103] at HO_580003
                        (try simp only [hl580003_103])
                        (try simp only [hl580003_103] at BK549)
                        (try simp only [hl580003_103] at BK564)
                        (try simp only [hl580003_103] at BK571)
                        (try simp only [hl580003_103] at BK579)
                        (try simp only [hl580003_103] at BK607)
                        (try simp only [hl580003_103] at HO_565003)
                        (try simp only [hl580003_103] at HO_572003)
                        (try simp only [hl580003_103] at HO_608003)
                        cases kq with
                        | zero => exact absurd HA.out (by simp [laws_FnExactDropBus.j2])
                        | succ kj103 =>
                          have H := HA.out
                          clear HA
                          simp only [laws_FnExactDropBus.j2] at H
                          by_cases c147 : x92_103 = true
                          · subst c147
                            have H1 : (some false) = some r := by rw [if_pos rfl] at H; exact H
                            clear H
                            have H := H1
                            clear H1
                            obtain rfl := Option.some.inj H
                            go_wp2
                            go_ret
                            exact ⟨by first | rfl | (simp [errW_none, errW_some] <;> rfl) | (simp [*, errW_none, errW_some] <;> rfl), by repeat (first | (with_reducible first | exact HB.out | apply below_alloc | apply pw_below_drewN | apply below_drew1 | refine below_set ?_ GE549.out | refine below_set ?_ GE564.out | refine below_set ?_ GE571.out | refine below_set ?_ GE579.out | refine below_set ?_ GE607.out) | exact HB.out)⟩
                          · replace c147 := Bool.eq_false_iff.mpr c147
                            subst c147
                            have H1 : ((laws_heldLine.f kj103 t572 t573 t574 t592 1).bind fun t609 => (if t609 < 0 then (some false) else (if t609 = t591 then (some true) else (some false)))) = some r := by rw [if_neg (show ¬ (false = true) by decide)] at H; exact H
                            clear H
                            have H := H1
                            clear H1
                            replace H := Option.bind_eq_some_iff.mp H
                            obtain ⟨t609, A1480, H⟩ := H
                            replace H : (if t609 < 0 then (some false) else (if t609 = t591 then (some true) else (some false))) = some r := H
                            have A148 := Aside0.mk A1480
                            clear A1480
                            by_cases c149 : t609 < 0
                            · rw [if_pos c149] at H
                              have c149b0 : decide (t609 < 0) = true := decide_eq_true c149
                              clear c149
                              obtain rfl := Option.some.inj H
                              have hnb150 := NB579_549.out
                              have hnc150 := NB549_579.out
                              have hnb151 := NB579_564.out
                              have hnc151 := NB564_579.out
                              have hnb152 := NB579_571.out
                              have hnc152 := NB571_579.out
                              have hnb153 := NB579_607.out
                              have hnc153 := NB607_579.out
                              have hcz154_0 : wc.cell? ⟨gb579, 0, none⟩ = some (.int .i64 t572) := (blk_cell BK579.out 0).trans rfl
                              have hcz154_1 : wc.cell? ⟨gb579, 1, none⟩ = some (.int .i64 t573) := (blk_cell BK579.out 1).trans rfl
                              have hcz154_2 : wc.cell? ⟨gb579, 2, none⟩ = some (.int .i64 t574) := (blk_cell BK579.out 2).trans rfl
                              have hcz154_3 : wc.cell? ⟨gb579, 3, none⟩ = some (.slice Ao37 t592.length co37) := (blk_cell BK579.out 3).trans rfl
                              have hfz154_0 := blk_frozen BK579.out 0
                              have hfz154_1 := blk_frozen BK579.out 1
                              have hfz154_2 := blk_frozen BK579.out 2
                              have hfz154_3 := blk_frozen BK579.out 3
                              go_wp2_with (first | ((with_reducible refine gate_callee (f := 40) rfl ?_); refine goesL_ (some 95) rfl rfl Try.func40 (by kernel_rfl) rfl #[.agg #[.int .i64 t572, .int .i64 t573, .int .i64 t574, .slice Ao37 t592.length co37], .int .i64 1] rfl (by (try simp only [List.map_toArray, List.map_cons, List.map_nil]); first | done | rfl | (simp only [List.length_drop, List.length_take]; rfl)) ?_; (with_reducible refine (laws_heldLine.calls kj103 t572 t573 t574 _ _ t592 1 t609 _ ?side1 ?side2 A148.out).mono ?_); (case side1 => repeat (first | exact (Kd.R_reads' HO_580003.out).2.2 | (with_reducible refine Kd.C_alloc ?_ _) | (with_reducible refine Kd.C_drewN ?_ _) | (with_reducible refine Kd.C_drew ?_))); (case side2 => exact (Kd.R_reads' HO_580003.out).2.1); rintro e w155 ⟨rfl, hb⟩; refine ⟨_, rfl, ?_⟩; have n0_ := Aside0.mk (Kd.R_below (by (with_reducible repeat (first | apply Kd.R_alloc | apply Kd.R_drewN | apply Kd.R_drew)); exact HO_565003.out) hb); have n1_ := Aside0.mk (Kd.R_below (by (with_reducible repeat (first | apply Kd.R_alloc | apply Kd.R_drewN | apply Kd.R_drew)); exact HO_572003.out) hb); have n2_ := Aside0.mk (Kd.R_below (by (with_reducible repeat (first | apply Kd.R_alloc | apply Kd.R_drewN | apply Kd.R_drew)); exact HO_580003.out) hb); have n3_ := Aside0.mk (Kd.R_below (by (with_reducible repeat (first | apply Kd.R_alloc | apply Kd.R_drewN | apply Kd.R_drew)); exact HO_608003.out) hb); have n4_ := Aside0.mk (blk_below (g := gb549) (o := .cells #[.int .i64 a0_0, .int .i64 a0_1, .int .i64 a0_2, .slice A0_3 l0_3.length c0_3] 24 (0, 0)) (by (with_reducible repeat (first | refine blk_drewN ?_ _ | refine blk_drew ?_ | refine blk_alloc ?_ _)); exact BK549.out) hb); have n5_ := Aside0.mk (blk_below (g := gb564) (o := .cells #[.int .i64 t557, .int .i64 t558, .int .i64 t559, .slice Ao23 t560.length co23] 28 (0, 0)) (by (with_reducible repeat (first | refine blk_drewN ?_ _ | refine blk_drew ?_ | refine blk_alloc ?_ _)); exact BK564.out) hb); have n6_ := Aside0.mk (blk_below (g := gb571) (o := .cells #[.int .i64 t565, .int .i64 t566, .int .i64 t567, .slice Ao30 t589.length co30] 28 (0, 0)) (by (with_reducible repeat (first | refine blk_drewN ?_ _ | refine blk_drew ?_ | refine blk_alloc ?_ _)); exact BK571.out) hb); have n7_ := Aside0.mk (blk_below (g := gb579) (o := .cells #[.int .i64 t572, .int .i64 t573, .int .i64 t574, .slice Ao37 t592.length co37] 28 (0, 0)) (by (with_reducible repeat (first | refine blk_drewN ?_ _ | refine blk_drew ?_ | refine blk_alloc ?_ _)); exact BK579.out) hb); have n8_ := Aside0.mk (blk_below (g := gb607) (o := .cells #[.int .i64 t600, .int .i64 t601, .int .i64 t602, .slice Ao124 t603.length co124] 28 (0, 0)) (by (with_reducible repeat (first | refine blk_drewN ?_ _ | refine blk_drew ?_ | refine blk_alloc ?_ _)); exact BK607.out) hb); have n9_ := Aside0.mk (below_step (by repeat (first | (with_reducible first | exact HB.out | apply below_alloc | apply pw_below_drewN | apply below_drew1 | refine below_set ?_ GE549.out | refine below_set ?_ GE564.out | refine below_set ?_ GE571.out | refine below_set ?_ GE579.out | refine below_set ?_ GE607.out) | exact HB.out)) hb); clear HO_565003; clear HO_572003; clear HO_580003; clear HO_608003; clear BK549; clear BK564; clear BK571; clear BK579; clear BK607; clear HB; have HO_565003 := n0_; have HO_572003 := n1_; have HO_580003 := n2_; have HO_608003 := n3_; have BK549 := n4_; have BK564 := n5_; have BK571 := n6_; have BK579 := n7_; have BK607 := n8_; have HB := n9_; clear n0_ n1_ n2_ n3_ n4_ n5_ n6_ n7_ n8_ n9_; (try clear hb); (try clear hb2); (try clear hk); (try clear hi)))
                              go_ret
                              exact ⟨by first | rfl | (simp [errW_none, errW_some] <;> rfl) | (simp [*, errW_none, errW_some] <;> rfl), by repeat (first | (with_reducible first | exact HB.out | apply below_alloc | apply pw_below_drewN | apply below_drew1 | refine below_set ?_ GE549.out | refine below_set ?_ GE564.out | refine below_set ?_ GE571.out | refine below_set ?_ GE579.out | refine below_set ?_ GE607.out) | exact HB.out)⟩
                            · rw [if_neg c149] at H
                              have c149b0 : decide (t609 < 0) = false := decide_eq_false c149
                              clear c149
                              by_cases c156 : t609 = t591
                              · rw [if_pos c156] at H
                                have c156b0 : (t609 == t591) = true := beq_iff_eq.mpr c156
                                have c156b1 : (t609 != t591) = false := bne_eq_false_iff_eq.mpr c156
                                clear c156
                                obtain rfl := Option.some.inj H
                                have hnb157 := NB579_549.out
                                have hnc157 := NB549_579.out
                                have hnb158 := NB579_564.out
                                have hnc158 := NB564_579.out
                                have hnb159 := NB579_571.out
                                have hnc159 := NB571_579.out
                                have hnb160 := NB579_607.out
                                have hnc160 := NB607_579.out
                                have hcz161_0 : wc.cell? ⟨gb579, 0, none⟩ = some (.int .i64 t572) := (blk_cell BK579.out 0).trans rfl
                                have hcz161_1 : wc.cell? ⟨gb579, 1, none⟩ = some (.int .i64 t573) := (blk_cell BK579.out 1).trans rfl
                                have hcz161_2 : wc.cell? ⟨gb579, 2, none⟩ = some (.int .i64 t574) := (blk_cell BK579.out 2).trans rfl
                                have hcz161_3 : wc.cell? ⟨gb579, 3, none⟩ = some (.slice Ao37 t592.length co37) := (blk_cell BK579.out 3).trans rfl
                                have hfz161_0 := blk_frozen BK579.out 0
                                have hfz161_1 := blk_frozen BK579.out 1
                                have hfz161_2 := blk_frozen BK579.out 2
                                have hfz161_3 := blk_frozen BK579.out 3
                                go_wp2_with (first | ((with_reducible refine gate_callee (f := 40) rfl ?_); refine goesL_ (some 95) rfl rfl Try.func40 (by kernel_rfl) rfl #[.agg #[.int .i64 t572, .int .i64 t573, .int .i64 t574, .slice Ao37 t592.length co37], .int .i64 1] rfl (by (try simp only [List.map_toArray, List.map_cons, List.map_nil]); first | done | rfl | (simp only [List.length_drop, List.length_take]; rfl)) ?_; (with_reducible refine (laws_heldLine.calls kj103 t572 t573 t574 _ _ t592 1 t609 _ ?side1 ?side2 A148.out).mono ?_); (case side1 => repeat (first | exact (Kd.R_reads' HO_580003.out).2.2 | (with_reducible refine Kd.C_alloc ?_ _) | (with_reducible refine Kd.C_drewN ?_ _) | (with_reducible refine Kd.C_drew ?_))); (case side2 => exact (Kd.R_reads' HO_580003.out).2.1); rintro e w162 ⟨rfl, hb⟩; refine ⟨_, rfl, ?_⟩; have n0_ := Aside0.mk (Kd.R_below (by (with_reducible repeat (first | apply Kd.R_alloc | apply Kd.R_drewN | apply Kd.R_drew)); exact HO_565003.out) hb); have n1_ := Aside0.mk (Kd.R_below (by (with_reducible repeat (first | apply Kd.R_alloc | apply Kd.R_drewN | apply Kd.R_drew)); exact HO_572003.out) hb); have n2_ := Aside0.mk (Kd.R_below (by (with_reducible repeat (first | apply Kd.R_alloc | apply Kd.R_drewN | apply Kd.R_drew)); exact HO_580003.out) hb); have n3_ := Aside0.mk (Kd.R_below (by (with_reducible repeat (first | apply Kd.R_alloc | apply Kd.R_drewN | apply Kd.R_drew)); exact HO_608003.out) hb); have n4_ := Aside0.mk (blk_below (g := gb549) (o := .cells #[.int .i64 a0_0, .int .i64 a0_1, .int .i64 a0_2, .slice A0_3 l0_3.length c0_3] 24 (0, 0)) (by (with_reducible repeat (first | refine blk_drewN ?_ _ | refine blk_drew ?_ | refine blk_alloc ?_ _)); exact BK549.out) hb); have n5_ := Aside0.mk (blk_below (g := gb564) (o := .cells #[.int .i64 t557, .int .i64 t558, .int .i64 t559, .slice Ao23 t560.length co23] 28 (0, 0)) (by (with_reducible repeat (first | refine blk_drewN ?_ _ | refine blk_drew ?_ | refine blk_alloc ?_ _)); exact BK564.out) hb); have n6_ := Aside0.mk (blk_below (g := gb571) (o := .cells #[.int .i64 t565, .int .i64 t566, .int .i64 t567, .slice Ao30 t589.length co30] 28 (0, 0)) (by (with_reducible repeat (first | refine blk_drewN ?_ _ | refine blk_drew ?_ | refine blk_alloc ?_ _)); exact BK571.out) hb); have n7_ := Aside0.mk (blk_below (g := gb579) (o := .cells #[.int .i64 t572, .int .i64 t573, .int .i64 t574, .slice Ao37 t592.length co37] 28 (0, 0)) (by (with_reducible repeat (first | refine blk_drewN ?_ _ | refine blk_drew ?_ | refine blk_alloc ?_ _)); exact BK579.out) hb); have n8_ := Aside0.mk (blk_below (g := gb607) (o := .cells #[.int .i64 t600, .int .i64 t601, .int .i64 t602, .slice Ao124 t603.length co124] 28 (0, 0)) (by (with_reducible repeat (first | refine blk_drewN ?_ _ | refine blk_drew ?_ | refine blk_alloc ?_ _)); exact BK607.out) hb); have n9_ := Aside0.mk (below_step (by repeat (first | (with_reducible first | exact HB.out | apply below_alloc | apply pw_below_drewN | apply below_drew1 | refine below_set ?_ GE549.out | refine below_set ?_ GE564.out | refine below_set ?_ GE571.out | refine below_set ?_ GE579.out | refine below_set ?_ GE607.out) | exact HB.out)) hb); clear HO_565003; clear HO_572003; clear HO_580003; clear HO_608003; clear BK549; clear BK564; clear BK571; clear BK579; clear BK607; clear HB; have HO_565003 := n0_; have HO_572003 := n1_; have HO_580003 := n2_; have HO_608003 := n3_; have BK549 := n4_; have BK564 := n5_; have BK571 := n6_; have BK579 := n7_; have BK607 := n8_; have HB := n9_; clear n0_ n1_ n2_ n3_ n4_ n5_ n6_ n7_ n8_ n9_; (try clear hb); (try clear hb2); (try clear hk); (try clear hi)))
                                go_ret
                                exact ⟨by first | rfl | (simp [errW_none, errW_some] <;> rfl) | (simp [*, errW_none, errW_some] <;> rfl), by repeat (first | (with_reducible first | exact HB.out | apply below_alloc | apply pw_below_drewN | apply below_drew1 | refine below_set ?_ GE549.out | refine below_set ?_ GE564.out | refine below_set ?_ GE571.out | refine below_set ?_ GE579.out | refine below_set ?_ GE607.out) | exact HB.out)⟩
                              · rw [if_neg c156] at H
                                have c156b0 : (t609 == t591) = false := beq_eq_false_iff_ne.mpr c156
                                have c156b1 : (t609 != t591) = true := bne_iff_ne.mpr c156
                                obtain rfl := Option.some.inj H
                                have hnb163 := NB579_549.out
                                have hnc163 := NB549_579.out
                                have hnb164 := NB579_564.out
                                have hnc164 := NB564_579.out
                                have hnb165 := NB579_571.out
                                have hnc165 := NB571_579.out
                                have hnb166 := NB579_607.out
                                have hnc166 := NB607_579.out
                                have hcz167_0 : wc.cell? ⟨gb579, 0, none⟩ = some (.int .i64 t572) := (blk_cell BK579.out 0).trans rfl
                                have hcz167_1 : wc.cell? ⟨gb579, 1, none⟩ = some (.int .i64 t573) := (blk_cell BK579.out 1).trans rfl
                                have hcz167_2 : wc.cell? ⟨gb579, 2, none⟩ = some (.int .i64 t574) := (blk_cell BK579.out 2).trans rfl
                                have hcz167_3 : wc.cell? ⟨gb579, 3, none⟩ = some (.slice Ao37 t592.length co37) := (blk_cell BK579.out 3).trans rfl
                                have hfz167_0 := blk_frozen BK579.out 0
                                have hfz167_1 := blk_frozen BK579.out 1
                                have hfz167_2 := blk_frozen BK579.out 2
                                have hfz167_3 := blk_frozen BK579.out 3
                                go_wp2_with (first | ((with_reducible refine gate_callee (f := 40) rfl ?_); refine goesL_ (some 95) rfl rfl Try.func40 (by kernel_rfl) rfl #[.agg #[.int .i64 t572, .int .i64 t573, .int .i64 t574, .slice Ao37 t592.length co37], .int .i64 1] rfl (by (try simp only [List.map_toArray, List.map_cons, List.map_nil]); first | done | rfl | (simp only [List.length_drop, List.length_take]; rfl)) ?_; (with_reducible refine (laws_heldLine.calls kj103 t572 t573 t574 _ _ t592 1 t609 _ ?side1 ?side2 A148.out).mono ?_); (case side1 => repeat (first | exact (Kd.R_reads' HO_580003.out).2.2 | (with_reducible refine Kd.C_alloc ?_ _) | (with_reducible refine Kd.C_drewN ?_ _) | (with_reducible refine Kd.C_drew ?_))); (case side2 => exact (Kd.R_reads' HO_580003.out).2.1); rintro e w168 ⟨rfl, hb⟩; refine ⟨_, rfl, ?_⟩; have n0_ := Aside0.mk (Kd.R_below (by (with_reducible repeat (first | apply Kd.R_alloc | apply Kd.R_drewN | apply Kd.R_drew)); exact HO_565003.out) hb); have n1_ := Aside0.mk (Kd.R_below (by (with_reducible repeat (first | apply Kd.R_alloc | apply Kd.R_drewN | apply Kd.R_drew)); exact HO_572003.out) hb); have n2_ := Aside0.mk (Kd.R_below (by (with_reducible repeat (first | apply Kd.R_alloc | apply Kd.R_drewN | apply Kd.R_drew)); exact HO_580003.out) hb); have n3_ := Aside0.mk (Kd.R_below (by (with_reducible repeat (first | apply Kd.R_alloc | apply Kd.R_drewN | apply Kd.R_drew)); exact HO_608003.out) hb); have n4_ := Aside0.mk (blk_below (g := gb549) (o := .cells #[.int .i64 a0_0, .int .i64 a0_1, .int .i64 a0_2, .slice A0_3 l0_3.length c0_3] 24 (0, 0)) (by (with_reducible repeat (first | refine blk_drewN ?_ _ | refine blk_drew ?_ | refine blk_alloc ?_ _)); exact BK549.out) hb); have n5_ := Aside0.mk (blk_below (g := gb564) (o := .cells #[.int .i64 t557, .int .i64 t558, .int .i64 t559, .slice Ao23 t560.length co23] 28 (0, 0)) (by (with_reducible repeat (first | refine blk_drewN ?_ _ | refine blk_drew ?_ | refine blk_alloc ?_ _)); exact BK564.out) hb); have n6_ := Aside0.mk (blk_below (g := gb571) (o := .cells #[.int .i64 t565, .int .i64 t566, .int .i64 t567, .slice Ao30 t589.length co30] 28 (0, 0)) (by (with_reducible repeat (first | refine blk_drewN ?_ _ | refine blk_drew ?_ | refine blk_alloc ?_ _)); exact BK571.out) hb); have n7_ := Aside0.mk (blk_below (g := gb579) (o := .cells #[.int .i64 t572, .int .i64 t573, .int .i64 t574, .slice Ao37 t592.length co37] 28 (0, 0)) (by (with_reducible repeat (first | refine blk_drewN ?_ _ | refine blk_drew ?_ | refine blk_alloc ?_ _)); exact BK579.out) hb); have n8_ := Aside0.mk (blk_below (g := gb607) (o := .cells #[.int .i64 t600, .int .i64 t601, .int .i64 t602, .slice Ao124 t603.length co124] 28 (0, 0)) (by (with_reducible repeat (first | refine blk_drewN ?_ _ | refine blk_drew ?_ | refine blk_alloc ?_ _)); exact BK607.out) hb); have n9_ := Aside0.mk (below_step (by repeat (first | (with_reducible first | exact HB.out | apply below_alloc | apply pw_below_drewN | apply below_drew1 | refine below_set ?_ GE549.out | refine below_set ?_ GE564.out | refine below_set ?_ GE571.out | refine below_set ?_ GE579.out | refine below_set ?_ GE607.out) | exact HB.out)) hb); clear HO_565003; clear HO_572003; clear HO_580003; clear HO_608003; clear BK549; clear BK564; clear BK571; clear BK579; clear BK607; clear HB; have HO_565003 := n0_; have HO_572003 := n1_; have HO_580003 := n2_; have HO_608003 := n3_; have BK549 := n4_; have BK564 := n5_; have BK571 := n6_; have BK579 := n7_; have BK607 := n8_; have HB := n9_; clear n0_ n1_ n2_ n3_ n4_ n5_ n6_ n7_ n8_ n9_; (try clear hb); (try clear hb2); (try clear hk); (try clear hi)))
                                go_ret
                                exact ⟨by first | rfl | (simp [errW_none, errW_some] <;> rfl) | (simp [*, errW_none, errW_some] <;> rfl), by repeat (first | (with_reducible first | exact HB.out | apply below_alloc | apply pw_below_drewN | apply below_drew1 | refine below_set ?_ GE549.out | refine below_set ?_ GE564.out | refine below_set ?_ GE571.out | refine below_set ?_ GE579.out | refine below_set ?_ GE607.out) | exact HB.out)⟩
                    · rw [if_neg c101] at H
                      have c101b0 : (t593 == t591) = false := beq_eq_false_iff_ne.mpr c101
                      have c101b1 : (t593 != t591) = true := bne_iff_ne.mpr c101
                      obtain rfl := Option.some.inj H
                      have hnb169 := NB579_549.out
                      have hnc169 := NB549_579.out
                      have hnb170 := NB579_564.out
                      have hnc170 := NB564_579.out
                      have hnb171 := NB579_571.out
                      have hnc171 := NB571_579.out
                      have hcz172_0 : wc.cell? ⟨gb579, 0, none⟩ = some (.int .i64 t572) := (blk_cell BK579.out 0).trans rfl
                      have hcz172_1 : wc.cell? ⟨gb579, 1, none⟩ = some (.int .i64 t573) := (blk_cell BK579.out 1).trans rfl
                      have hcz172_2 : wc.cell? ⟨gb579, 2, none⟩ = some (.int .i64 t574) := (blk_cell BK579.out 2).trans rfl
                      have hcz172_3 : wc.cell? ⟨gb579, 3, none⟩ = some (.slice Ao37 t575.length co37) := (blk_cell BK579.out 3).trans rfl
                      have hfz172_0 := blk_frozen BK579.out 0
                      have hfz172_1 := blk_frozen BK579.out 1
                      have hfz172_2 := blk_frozen BK579.out 2
                      have hfz172_3 := blk_frozen BK579.out 3
                      go_wp2_with (first | ((with_reducible refine gate_callee (f := 35) rfl ?_); refine goesL_ (some 68) rfl rfl Try.func35 (by kernel_rfl) rfl #[.agg #[.int .i64 t572, .int .i64 t573, .int .i64 t574, .slice Ao37 t575.length co37], .int .i64 1] rfl (by (try simp only [List.map_toArray, List.map_cons, List.map_nil]); first | done | rfl | (simp only [List.length_drop, List.length_take]; rfl)) ?_; (with_reducible refine (laws_markLine.calls kj60 t572 t573 t574 (fun k_ => some k_ = (.slice Ao37 t575.length co37 : Value).ownBlock) (.slice Ao37 t575.length co37) t575 1 t591 t592 w _ ?side1 ?side2 A91.out).mono ?_); (case side1 => repeat (first | (with_reducible first | exact HB.out | apply below_alloc | apply pw_below_drewN | apply below_drew1 | refine below_set ?_ GE549.out | refine below_set ?_ GE564.out | refine below_set ?_ GE571.out | refine below_set ?_ GE579.out) | exact HB.out)); (case side2 => exact Kd.R_tight rfl HO_580003.out); rintro e w173 ⟨rfl, hy0, hb, hkp⟩; refine ⟨_, rfl, ?_⟩; have n0_ := Aside0.mk (Kd.R_mono (ok' := fun k_ => some k_ ≠ (.slice Ao30 t589.length co30 : Value).ownBlock ∧ some k_ ≠ (.slice Ao37 t575.length co37 : Value).ownBlock) (Kd.R_keptB (HO_565003.out) hkp (fun k_ hk_ hs_ => (hk_.2) hs_)) (fun k_ hk_ => ⟨hk_.1.1, hk_.1.2⟩)); have n1_ := Aside0.mk (Kd.R_mono (ok' := fun k_ => some k_ ≠ (.slice Ao23 t560.length co23 : Value).ownBlock ∧ some k_ ≠ (.slice Ao37 t575.length co37 : Value).ownBlock) (Kd.R_keptB (HO_572003.out) hkp (fun k_ hk_ hs_ => (hk_.2) hs_)) (fun k_ hk_ => ⟨hk_.1.1, hk_.1.2⟩)); have n2_ := Aside0.mk (Kd.R_reok rfl hy0 (fun k_ e_ => HO_580003.out.1 k_ e_)); have n3_ := Aside0.mk (blk_kept (by (with_reducible repeat (first | refine blk_drewN ?_ _ | refine blk_drew ?_ | refine blk_alloc ?_ _)); exact BK549.out) hkp (fun hs_ => (fun e_ => (Kd.R_ne HO_580003.out BK549.out (by decide)) e_) hs_)); have n4_ := Aside0.mk (blk_kept (by (with_reducible repeat (first | refine blk_drewN ?_ _ | refine blk_drew ?_ | refine blk_alloc ?_ _)); exact BK564.out) hkp (fun hs_ => (fun e_ => (Kd.R_ne HO_580003.out BK564.out (by decide)) e_) hs_)); have n5_ := Aside0.mk (blk_kept (by (with_reducible repeat (first | refine blk_drewN ?_ _ | refine blk_drew ?_ | refine blk_alloc ?_ _)); exact BK571.out) hkp (fun hs_ => (fun e_ => (Kd.R_ne HO_580003.out BK571.out (by decide)) e_) hs_)); have n6_ := Aside0.mk (blk_kept (by (with_reducible repeat (first | refine blk_drewN ?_ _ | refine blk_drew ?_ | refine blk_alloc ?_ _)); exact BK579.out) hkp (fun hs_ => (fun e_ => (Kd.R_ne HO_580003.out BK579.out (by decide)) e_) hs_)); have n7_ := Aside0.mk (hb); clear HO_565003; clear HO_572003; clear HO_580003; clear BK549; clear BK564; clear BK571; clear BK579; clear HB; have HO_565003 := n0_; have HO_572003 := n1_; have HO_580003 := n2_; have BK549 := n3_; have BK564 := n4_; have BK571 := n5_; have BK579 := n6_; have HB := n7_; clear n0_ n1_ n2_ n3_ n4_ n5_ n6_ n7_; (try clear hb); (try clear hkp); (try clear hy0); have hcz174_0 : w173.cell? ⟨gb579, 0, none⟩ = some (.int .i64 t572) := (blk_cell BK579.out 0).trans rfl; have hcz174_1 : w173.cell? ⟨gb579, 1, none⟩ = some (.int .i64 t573) := (blk_cell BK579.out 1).trans rfl; have hcz174_2 : w173.cell? ⟨gb579, 2, none⟩ = some (.int .i64 t574) := (blk_cell BK579.out 2).trans rfl; have hcz174_3 : w173.cell? ⟨gb579, 3, none⟩ = some (.slice Ao37 t575.length co37) := (blk_cell BK579.out 3).trans rfl; have hfz174_0 := blk_frozen BK579.out 0; have hfz174_1 := blk_frozen BK579.out 1; have hfz174_2 := blk_frozen BK579.out 2; have hfz174_3 := blk_frozen BK579.out 3) | ((with_reducible refine gate_callee (f := 40) rfl ?_); refine goesL_ (some 71) rfl rfl Try.func40 (by kernel_rfl) rfl #[.agg #[.int .i64 t572, .int .i64 t573, .int .i64 t574, .slice Ao37 t592.length co37], .int .i64 1] rfl (by (try simp only [List.map_toArray, List.map_cons, List.map_nil]); first | done | (rw [show t592.length = t575.length from (Kd.R_reads' HO_580003.out).1.symm] <;> rfl) | rfl | (simp only [List.length_drop, List.length_take]; rfl)) ?_; (with_reducible refine (laws_heldLine.calls kj60 t572 t573 t574 _ _ t592 1 t593 _ ?side1 ?side2 A92.out).mono ?_); (case side1 => repeat (first | exact (Kd.R_reads' HO_580003.out).2.2 | (with_reducible refine Kd.C_alloc ?_ _) | (with_reducible refine Kd.C_drewN ?_ _) | (with_reducible refine Kd.C_drew ?_))); (case side2 => rw [show t592.length = t575.length from (Kd.R_reads' HO_580003.out).1.symm]; exact (Kd.R_reads' HO_580003.out).2.1); rintro e w175 ⟨rfl, hb⟩; refine ⟨_, rfl, ?_⟩; have n0_ := Aside0.mk (Kd.R_below (by (with_reducible repeat (first | apply Kd.R_alloc | apply Kd.R_drewN | apply Kd.R_drew)); exact HO_565003.out) hb); have n1_ := Aside0.mk (Kd.R_below (by (with_reducible repeat (first | apply Kd.R_alloc | apply Kd.R_drewN | apply Kd.R_drew)); exact HO_572003.out) hb); have n2_ := Aside0.mk (Kd.R_below (by (with_reducible repeat (first | apply Kd.R_alloc | apply Kd.R_drewN | apply Kd.R_drew)); exact HO_580003.out) hb); have n3_ := Aside0.mk (blk_below (g := gb549) (o := .cells #[.int .i64 a0_0, .int .i64 a0_1, .int .i64 a0_2, .slice A0_3 l0_3.length c0_3] 24 (0, 0)) (by (with_reducible repeat (first | refine blk_drewN ?_ _ | refine blk_drew ?_ | refine blk_alloc ?_ _)); exact BK549.out) hb); have n4_ := Aside0.mk (blk_below (g := gb564) (o := .cells #[.int .i64 t557, .int .i64 t558, .int .i64 t559, .slice Ao23 t560.length co23] 28 (0, 0)) (by (with_reducible repeat (first | refine blk_drewN ?_ _ | refine blk_drew ?_ | refine blk_alloc ?_ _)); exact BK564.out) hb); have n5_ := Aside0.mk (blk_below (g := gb571) (o := .cells #[.int .i64 t565, .int .i64 t566, .int .i64 t567, .slice Ao30 t589.length co30] 28 (0, 0)) (by (with_reducible repeat (first | refine blk_drewN ?_ _ | refine blk_drew ?_ | refine blk_alloc ?_ _)); exact BK571.out) hb); have n6_ := Aside0.mk (blk_below (g := gb579) (o := .cells #[.int .i64 t572, .int .i64 t573, .int .i64 t574, .slice Ao37 t575.length co37] 28 (0, 0)) (by (with_reducible repeat (first | refine blk_drewN ?_ _ | refine blk_drew ?_ | refine blk_alloc ?_ _)); exact BK579.out) hb); have n7_ := Aside0.mk (below_step (by repeat (first | (with_reducible first | exact HB.out | apply below_alloc | apply pw_below_drewN | apply below_drew1 | refine below_set ?_ GE549.out | refine below_set ?_ GE564.out | refine below_set ?_ GE571.out | refine below_set ?_ GE579.out) | exact HB.out)) hb); clear HO_565003; clear HO_572003; clear HO_580003; clear BK549; clear BK564; clear BK571; clear BK579; clear HB; have HO_565003 := n0_; have HO_572003 := n1_; have HO_580003 := n2_; have BK549 := n3_; have BK564 := n4_; have BK571 := n5_; have BK579 := n6_; have HB := n7_; clear n0_ n1_ n2_ n3_ n4_ n5_ n6_ n7_; (try clear hb); (try clear hb2); (try clear hk); (try clear hi)))
                      go_ret
                      exact ⟨by first | rfl | (simp [errW_none, errW_some] <;> rfl) | (simp [*, errW_none, errW_some] <;> rfl), by repeat (first | (with_reducible first | exact HB.out | apply below_alloc | apply pw_below_drewN | apply below_drew1 | refine below_set ?_ GE549.out | refine below_set ?_ GE564.out | refine below_set ?_ GE571.out | refine below_set ?_ GE579.out) | exact HB.out)⟩
          · replace c59 := Bool.eq_false_iff.mpr c59
            subst c59
            have H1 : (some false) = some r := by rw [if_neg (show ¬ (false = true) by decide)] at H; exact H
            clear H
            have H := H1
            clear H1
            obtain rfl := Option.some.inj H
            try go_wp2
            have n0_ := Aside0.mk (Kd.R_drew HO_565003.out)
            have n1_ := Aside0.mk (Kd.R_drew HO_572003.out)
            have n2_ := Aside0.mk (Kd.R_drew HO_580003.out)
            have n3_ := Aside0.mk (blk_drew BK549.out)
            have n4_ := Aside0.mk (blk_drew BK564.out)
            have n5_ := Aside0.mk (blk_drew BK571.out)
            have n6_ := Aside0.mk (blk_drew BK579.out)
            have n7_ := Aside0.mk (below_drew1 HB.out)
            clear HO_565003
            clear HO_572003
            clear HO_580003
            clear BK549
            clear BK564
            clear BK571
            clear BK579
            clear HB
            have HO_565003 := n0_
            have HO_572003 := n1_
            have HO_580003 := n2_
            have BK549 := n3_
            have BK564 := n4_
            have BK571 := n5_
            have BK579 := n6_
            have HB := n7_
            clear n0_ n1_ n2_ n3_ n4_ n5_ n6_ n7_
            refine start_ (n := 5) (S := fun w' => w'.cell? ⟨gb571, 0, none⟩ = some (.int .i64 t565) ∧ w'.cell? ⟨gb571, 1, none⟩ = some (.int .i64 t566) ∧ w'.cell? ⟨gb571, 2, none⟩ = some (.int .i64 t567) ∧ w'.cell? ⟨gb571, 3, none⟩ = some (.slice Ao30 t568.length co30) ∧ w'.cell? ⟨gb549, 0, none⟩ = some (.int .i64 a0_0) ∧ w'.cell? ⟨gb549, 1, none⟩ = some (.int .i64 a0_1) ∧ w'.cell? ⟨gb549, 2, none⟩ = some (.int .i64 a0_2) ∧ w'.cell? ⟨gb549, 3, none⟩ = some (.slice A0_3 l0_3.length c0_3)) (ds := []) #[false, false, false, false, false] (by kernel_rfl) rfl rfl ⟨(blk_cell BK571.out 0).trans rfl, (blk_cell BK571.out 1).trans rfl, (blk_cell BK571.out 2).trans rfl, (blk_cell BK571.out 3).trans rfl, (blk_cell BK549.out 0).trans rfl, (blk_cell BK549.out 1).trans rfl, (blk_cell BK549.out 2).trans rfl, (blk_cell BK549.out 3).trans rfl⟩ (fun hHeld => ?_)
            generalize wc.drew = w176 at HO_565003 HO_572003 HO_580003 BK549 BK564 BK571 BK579 HB hHeld ⊢
            refine take_ (i := 0) (N := some 45) (v := ?_) (a' := ?_) #[true, false, false, false, false] rfl rfl (by kernel_rfl) (fun _ _ _ h => h) (Or.inl ⟨by rfl, ?_⟩) hHeld ?_ ?_
            rotate_left
            · rintro w' ⟨s0, s1, s2, s3, s4, s5, s6, s7⟩
              go_simp
              with_reducible rfl
            rotate_left
            · simp only [Act.put, List.setIfInBounds_toArray, List.set_cons_zero, List.set_cons_succ, i64_w, i32_w]
              rfl
            refine take_ (i := 1) (N := some 46) (v := ?_) (a' := ?_) #[true, true, false, false, false] rfl rfl (by kernel_rfl) (fun _ _ _ h => h) (Or.inl ⟨by rfl, ?_⟩) hHeld ?_ ?_
            rotate_left
            · rintro w' ⟨s0, s1, s2, s3, s4, s5, s6, s7⟩
              go_simp
              with_reducible rfl
            rotate_left
            · simp only [Act.put, List.setIfInBounds_toArray, List.set_cons_zero, List.set_cons_succ, i64_w, i32_w]
              rfl
            refine one_ (i := 2) (N := some 47) #[true, true, true, false, false] rfl rfl (by kernel_rfl) (by decide) (fun K hK => ?_)
            refine goes_ Try.func17 (by kernel_rfl) rfl #[.agg #[.int .i64 a0_0, .int .i64 a0_1, .int .i64 a0_2, .slice A0_3 l0_3.length c0_3]] (by rfl) rfl rfl (by (try simp only [List.map_toArray, List.map_cons, List.map_nil]); first | done | rfl | (simp only [List.length_drop, List.length_take]; rfl)) ?_
            with_reducible refine (laws_toLine.calls kj11 a0_0 a0_1 a0_2 _ _ l0_3 t581 t582 t583 t584 _ ?side1 ?side2 A57.out).mono ?_
            (case side1 => repeat (first | exact (Kd.C_below HR0_3.out HB.out) | (with_reducible refine Kd.C_alloc ?_ _) | (with_reducible refine Kd.C_drewN ?_ _) | (with_reducible refine Kd.C_drew ?_)))
            (case side2 => exact HC0_3.out)
            rintro e w177 ⟨v585, rfl, ho0, hb⟩
            refine ⟨_, rfl, ?_⟩
            have n0_ := Aside0.mk (Kd.R_elder' (by (with_reducible repeat (first | apply Kd.R_alloc | apply Kd.R_drewN | apply Kd.R_drew)); exact HO_565003.out) (Kd.R_base ho0) hb)
            have n1_ := Aside0.mk (Kd.R_elder' (by (with_reducible repeat (first | apply Kd.R_alloc | apply Kd.R_drewN | apply Kd.R_drew)); exact HO_572003.out) (Kd.R_base ho0) hb)
            have n2_ := Aside0.mk (Kd.R_elder' (by (with_reducible repeat (first | apply Kd.R_alloc | apply Kd.R_drewN | apply Kd.R_drew)); exact HO_580003.out) (Kd.R_base ho0) hb)
            have n3_ := Aside0.mk (Kd.R_lower (Kd.R_new' (Kd.R_new' (Kd.R_new' ho0 (Kd.R_lt (by (with_reducible repeat (first | apply Kd.R_alloc | apply Kd.R_drewN | apply Kd.R_drew)); exact HO_565003.out))) (Kd.R_lt (by (with_reducible repeat (first | apply Kd.R_alloc | apply Kd.R_drewN | apply Kd.R_drew)); exact HO_572003.out))) (Kd.R_lt (by (with_reducible repeat (first | apply Kd.R_alloc | apply Kd.R_drewN | apply Kd.R_drew)); exact HO_580003.out))) (below_size (by repeat (first | (with_reducible first | exact HB.out | apply below_alloc | apply pw_below_drewN | apply below_drew1 | refine below_set ?_ GE549.out | refine below_set ?_ GE564.out | refine below_set ?_ GE571.out | refine below_set ?_ GE579.out) | exact HB.out))))
            have n4_ := Aside0.mk (blk_below (g := gb549) (o := .cells #[.int .i64 a0_0, .int .i64 a0_1, .int .i64 a0_2, .slice A0_3 l0_3.length c0_3] 24 (0, 0)) (by (with_reducible repeat (first | refine blk_drewN ?_ _ | refine blk_drew ?_ | refine blk_alloc ?_ _)); exact BK549.out) hb)
            have n5_ := Aside0.mk (blk_below (g := gb564) (o := .cells #[.int .i64 t557, .int .i64 t558, .int .i64 t559, .slice Ao23 t560.length co23] 28 (0, 0)) (by (with_reducible repeat (first | refine blk_drewN ?_ _ | refine blk_drew ?_ | refine blk_alloc ?_ _)); exact BK564.out) hb)
            have n6_ := Aside0.mk (blk_below (g := gb571) (o := .cells #[.int .i64 t565, .int .i64 t566, .int .i64 t567, .slice Ao30 t568.length co30] 28 (0, 0)) (by (with_reducible repeat (first | refine blk_drewN ?_ _ | refine blk_drew ?_ | refine blk_alloc ?_ _)); exact BK571.out) hb)
            have n7_ := Aside0.mk (blk_below (g := gb579) (o := .cells #[.int .i64 t572, .int .i64 t573, .int .i64 t574, .slice Ao37 t575.length co37] 28 (0, 0)) (by (with_reducible repeat (first | refine blk_drewN ?_ _ | refine blk_drew ?_ | refine blk_alloc ?_ _)); exact BK579.out) hb)
            have n8_ := Aside0.mk (below_step (by repeat (first | (with_reducible first | exact HB.out | apply below_alloc | apply pw_below_drewN | apply below_drew1 | refine below_set ?_ GE549.out | refine below_set ?_ GE564.out | refine below_set ?_ GE571.out | refine below_set ?_ GE579.out) | exact HB.out)) hb)
            clear HO_565003
            clear HO_572003
            clear HO_580003
            clear BK549
            clear BK564
            clear BK571
            clear BK579
            clear HB
            have HO_565003 := n0_
            have HO_572003 := n1_
            have HO_580003 := n2_
            have HO586 := n3_
            have BK549 := n4_
            have BK564 := n5_
            have BK571 := n6_
            have BK579 := n7_
            have HB := n8_
            clear n0_ n1_ n2_ n3_ n4_ n5_ n6_ n7_ n8_
            (try clear hb)
            (try clear hb2)
            (try clear hk)
            (try clear hi)
            (try clear ho0)
            obtain ⟨Ao178, co178, eo178⟩ := Kd.R_slice HO586.out
            (first | subst eo178 | (injection eo178 with f1_ f2_ f3_; have f4_ := f1_.symm; have f5_ := f3_.symm; clear f1_ f2_ f3_; subst f4_; subst f5_))
            refine hK.out _ _ ⟨(blk_cell BK571.out 0).trans rfl, (blk_cell BK571.out 1).trans rfl, (blk_cell BK571.out 2).trans rfl, (blk_cell BK571.out 3).trans rfl, (blk_cell BK549.out 0).trans rfl, (blk_cell BK549.out 1).trans rfl, (blk_cell BK549.out 2).trans rfl, (blk_cell BK549.out 3).trans rfl⟩ (fun hHeld => ?_)
            clear hK K
            refine norm_ (a' := ?_) ?_ ?_
            rotate_left
            · show Act.put _ (some 47) _ = _
              simp only [Act.put, List.setIfInBounds_toArray, List.set_cons_zero, List.set_cons_succ, i64_w, i32_w]
              rfl
            refine one_ (i := 3) (N := some 48) #[true, true, true, true, false] rfl rfl (by kernel_rfl) (by decide) (fun K hK => ?_)
            refine goes_ Try.func19 (by kernel_rfl) rfl #[.agg #[.int .i64 t565, .int .i64 t566, .int .i64 t567, .slice Ao30 t568.length co30], .agg #[.int .i64 t581, .int .i64 t582, .int .i64 t583, .slice Ao178 t584.length co178]] (by rfl) rfl rfl (by (try simp only [List.map_toArray, List.map_cons, List.map_nil]); first | done | rfl | (simp only [List.length_drop, List.length_take]; rfl)) ?_
            with_reducible refine (laws_eqLine.calls kj11 t565 t566 t567 _ _ t568 t581 t582 t583 _ _ t584 false _ ?side1 ?side2 ?side3 ?side4 A58.out).mono ?_
            (case side1 => repeat (first | exact (Kd.R_reads' HO_572003.out).2.2 | (with_reducible refine Kd.C_alloc ?_ _) | (with_reducible refine Kd.C_drewN ?_ _) | (with_reducible refine Kd.C_drew ?_)))
            (case side2 => exact (Kd.R_reads' HO_572003.out).2.1)
            (case side3 => repeat (first | exact (Kd.R_reads' HO586.out).2.2 | (with_reducible refine Kd.C_alloc ?_ _) | (with_reducible refine Kd.C_drewN ?_ _) | (with_reducible refine Kd.C_drew ?_)))
            (case side4 => exact (Kd.R_reads' HO586.out).2.1)
            rintro e w179 ⟨rfl, hb⟩
            refine ⟨_, rfl, ?_⟩
            have n0_ := Aside0.mk (Kd.R_below (by (with_reducible repeat (first | apply Kd.R_alloc | apply Kd.R_drewN | apply Kd.R_drew)); exact HO_565003.out) hb)
            have n1_ := Aside0.mk (Kd.R_below (by (with_reducible repeat (first | apply Kd.R_alloc | apply Kd.R_drewN | apply Kd.R_drew)); exact HO_572003.out) hb)
            have n2_ := Aside0.mk (Kd.R_below (by (with_reducible repeat (first | apply Kd.R_alloc | apply Kd.R_drewN | apply Kd.R_drew)); exact HO_580003.out) hb)
            have n3_ := Aside0.mk (Kd.R_below (by (with_reducible repeat (first | apply Kd.R_alloc | apply Kd.R_drewN | apply Kd.R_drew)); exact HO586.out) hb)
            have n4_ := Aside0.mk (blk_below (g := gb549) (o := .cells #[.int .i64 a0_0, .int .i64 a0_1, .int .i64 a0_2, .slice A0_3 l0_3.length c0_3] 24 (0, 0)) (by (with_reducible repeat (first | refine blk_drewN ?_ _ | refine blk_drew ?_ | refine blk_alloc ?_ _)); exact BK549.out) hb)
            have n5_ := Aside0.mk (blk_below (g := gb564) (o := .cells #[.int .i64 t557, .int .i64 t558, .int .i64 t559, .slice Ao23 t560.length co23] 28 (0, 0)) (by (with_reducible repeat (first | refine blk_drewN ?_ _ | refine blk_drew ?_ | refine blk_alloc ?_ _)); exact BK564.out) hb)
            have n6_ := Aside0.mk (blk_below (g := gb571) (o := .cells #[.int .i64 t565, .int .i64 t566, .int .i64 t567, .slice Ao30 t568.length co30] 28 (0, 0)) (by (with_reducible repeat (first | refine blk_drewN ?_ _ | refine blk_drew ?_ | refine blk_alloc ?_ _)); exact BK571.out) hb)
            have n7_ := Aside0.mk (blk_below (g := gb579) (o := .cells #[.int .i64 t572, .int .i64 t573, .int .i64 t574, .slice Ao37 t575.length co37] 28 (0, 0)) (by (with_reducible repeat (first | refine blk_drewN ?_ _ | refine blk_drew ?_ | refine blk_alloc ?_ _)); exact BK579.out) hb)
            have n8_ := Aside0.mk (below_step (by repeat (first | (with_reducible first | exact HB.out | apply below_alloc | apply pw_below_drewN | apply below_drew1 | refine below_set ?_ GE549.out | refine below_set ?_ GE564.out | refine below_set ?_ GE571.out | refine below_set ?_ GE579.out) | exact HB.out)) hb)
            clear HO_565003
            clear HO_572003
            clear HO_580003
            clear HO586
            clear BK549
            clear BK564
            clear BK571
            clear BK579
            clear HB
            have HO_565003 := n0_
            have HO_572003 := n1_
            have HO_580003 := n2_
            have HO586 := n3_
            have BK549 := n4_
            have BK564 := n5_
            have BK571 := n6_
            have BK579 := n7_
            have HB := n8_
            clear n0_ n1_ n2_ n3_ n4_ n5_ n6_ n7_ n8_
            (try clear hb)
            (try clear hb2)
            (try clear hk)
            (try clear hi)
            refine hK.out _ _ ⟨(blk_cell BK571.out 0).trans rfl, (blk_cell BK571.out 1).trans rfl, (blk_cell BK571.out 2).trans rfl, (blk_cell BK571.out 3).trans rfl, (blk_cell BK549.out 0).trans rfl, (blk_cell BK549.out 1).trans rfl, (blk_cell BK549.out 2).trans rfl, (blk_cell BK549.out 3).trans rfl⟩ (fun hHeld => ?_)
            clear hK K
            refine norm_ (a' := ?_) ?_ ?_
            rotate_left
            · show Act.put _ (some 48) _ = _
              simp only [Act.put, List.setIfInBounds_toArray, List.set_cons_zero, List.set_cons_succ, i64_w, i32_w]
              rfl
            refine pure_ (i := 4) (N := some 49) (v := ?_) (a' := ?_) #[true, true, true, true, true] rfl rfl (by kernel_rfl) (fun _ _ _ h => h) (Or.inl ⟨by rfl, ?_⟩) ?_ ?_
            rotate_left
            · intro w'
              go_simp
              with_reducible rfl
            rotate_left
            · simp only [Act.put, List.setIfInBounds_toArray, List.set_cons_zero, List.set_cons_succ, i64_w, i32_w]
              rfl
            refine done_ (by kernel_rfl) ?_
            try go_wp2
            go_ret
            exact ⟨by first | rfl | (simp [errW_none, errW_some] <;> rfl) | (simp [*, errW_none, errW_some] <;> rfl), by repeat (first | (with_reducible first | exact HB.out | apply below_alloc | apply pw_below_drewN | apply below_drew1 | refine below_set ?_ GE549.out | refine below_set ?_ GE564.out | refine below_set ?_ GE571.out | refine below_set ?_ GE579.out) | exact HB.out)⟩

/-- The one pure statement of laws_FnExactDropBus. -/
def laws_FnExactDropBus.Pure : Prop := ∀ (a0_0 : Int) (a0_1 : Int) (a0_2 : Int) (l0_3 : List Int) (a1 : Int), l0_3.length ≤ maxLen → (Lit.int .i64 a1).wf = true → ∃ k, laws_FnExactDropBus.f k a0_0 a0_1 a0_2 l0_3 a1 = some true

end Go.Proofs.Ytomgfijlnfljpaa.QB
