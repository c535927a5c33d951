import Derived.Test.YtbhnpccbjgbcbaaGreatDoorQDx0
namespace Go.Proofs.YtbhnpccbjgbcbaaGreatDoor.QD
open Go.Proofs.YtbhnpccbjgbcbaaGreatDoor.X Go.RowKit Go.Proofs.YtbhnpccbjgbcbaaGreatDoorW.PrintWords Go.Proofs.YtbhnpccbjgbcbaaGreatDoorW.PrintLast Go.Proofs.YtbhnpccbjgbcbaaGreatDoorW.PrintMore
set_option maxHeartbeats 8000000
set_option maxRecDepth 100000
attribute [local go_sem] max2_int min2_int max_two min_two max_three min_three max_four min_four
set_option linter.unusedVariables false
set_option linter.unusedSimpArgs false
def IsS75 (w0 W : World) (g : Nat) (f0 : List Int) (f1 : Int) (f2 : Int) : Prop := ∃ A0 c0, W.heap[g]? = some (.cells #[.slice A0 f0.length c0, .int .i64 f1, .int .u64 f2] 75 (0, 0)) ∧ w0.heap.size ≤ g ∧ Kd.C (Kd.int .u8) w0 A0 f0.length f0
theorem IsS75.grown {w0 W : World} {g : Nat} {f0 : List Int} {f1 : Int} {f2 : Int} {W1 : World} {row : Option Nat} (h : IsS75 w0 W g f0 f1 f2) (hw : W.grownBy W1 row) (hne : some g ≠ row) : IsS75 w0 W1 g f0 f1 f2 := by
 obtain ⟨A0, c0, hb, hg, hr0⟩ := h
 exact ⟨A0, c0, blk_grown hb hw hne, hg, hr0⟩
theorem IsS75.own_neN {w0 W : World} {g : Nat} {f0 : List Int} {f1 : Int} {f2 : Int} {α : Type} {d : Kd α} {e : Nat} {base : Nat} {ok : Nat → Prop} {v : Value} {xs : List α} (h : IsS75 w0 W g f0 f1 f2) (ho : Kd.N d e W base ok v xs) (ht : e ≠ 75) : some g ≠ v.ownBlock := by
 obtain ⟨A0, c0, hb, hg, hr0⟩ := h
 exact Kd.N_ne ho hb ht
theorem IsS75.fresh {w0 W : World} {g : Nat} {f0 : List Int} {f1 : Int} {f2 : Int} (h : IsS75 w0 W g f0 f1 f2) : ∀ k, W.heap.size ≤ k → k ≠ g := by
 obtain ⟨A0, c0, hb, hg, hr0⟩ := h
 exact Kd.freshB hb
theorem IsS75.kept {w0 W : World} {g : Nat} {f0 : List Int} {f1 : Int} {f2 : Int} {W1 : World} {S : Nat → Prop} (h : IsS75 w0 W g f0 f1 f2) (hk : Kept W W1 S) (hne : ¬ S g) : IsS75 w0 W1 g f0 f1 f2 := by
 obtain ⟨A0, c0, hb, hg, hr0⟩ := h
 exact ⟨A0, c0, blk_kept hb hk hne, hg, hr0⟩
theorem IsS75.below {w0 W : World} {g : Nat} {f0 : List Int} {f1 : Int} {f2 : Int} {W1 : World} (h : IsS75 w0 W g f0 f1 f2) (hw : Below W.heap.size W W1) : IsS75 w0 W1 g f0 f1 f2 := h.grown (grown_of_below hw none) (by simp)
theorem IsS75.alloc {w0 W : World} {g : Nat} {f0 : List Int} {f1 : Int} {f2 : Int} (h : IsS75 w0 W g f0 f1 f2) (o : Obj) : IsS75 w0 (W.alloc o) g f0 f1 f2 := h.below (below_alloc (Below.refl _ _) o)
theorem IsS75.drewN {w0 W : World} {g : Nat} {f0 : List Int} {f1 : Int} {f2 : Int} (h : IsS75 w0 W g f0 f1 f2) (m : Nat) : IsS75 w0 (W.drewN m) g f0 f1 f2 := h
theorem IsS75.drew {w0 W : World} {g : Nat} {f0 : List Int} {f1 : Int} {f2 : Int} (h : IsS75 w0 W g f0 f1 f2) : IsS75 w0 W.drew g f0 f1 f2 := h
theorem IsS75.at_ {w0 W : World} {g : Nat} {f0 : List Int} {f1 : Int} {f2 : Int} {w' : World} {m : Nat} (hq : W.drewN m = w') (h : IsS75 w0 W g f0 f1 f2) : IsS75 w0 w' g f0 f1 f2 := by subst hq; exact IsS75.drewN h m
theorem IsS75.apart {w0 W : World} {g : Nat} {f0 : List Int} {f1 : Int} {f2 : Int} {α : Type} {d : Kd α} {e : Nat} {base : Nat} {ok : Nat → Prop} {v : Value} {xs : List α} (h : IsS75 w0 W g f0 f1 f2) (ho : d.R e W base ok v xs) (ht : ∀ q, q ∈ e :: d.E → q ≠ 75) : d.R e W base (fun k => ok k ∧ k ≠ g) v xs := by
 obtain ⟨A0, c0, hb, hg, hr0⟩ := h
 exact Kd.R_types ho hb ht
theorem IsS75.own_ne {w0 W : World} {g : Nat} {f0 : List Int} {f1 : Int} {f2 : Int} {α : Type} {d : Kd α} {e : Nat} {base : Nat} {ok : Nat → Prop} {v : Value} {xs : List α} (h : IsS75 w0 W g f0 f1 f2) (ho : d.R e W base ok v xs) (ht : e ≠ 75) : some g ≠ v.ownBlock := by
 obtain ⟨A0, c0, hb, hg, hr0⟩ := h
 exact Kd.R_ne ho hb ht
theorem IsS75.apartQ {w0 W : World} {g : Nat} {f0 : List Int} {f1 : Int} {f2 : Int} {α : Type} {d : Kd α} {e : Nat} {base : Nat} {ok : Nat → Prop} {v : Value} {xs : List α} (h : IsS75 w0 W g f0 f1 f2) (ho : d.Q e W base ok v xs) (ht : ∀ q, q ∈ e :: d.E → q ≠ 75) : d.Q e W base (fun k => ok k ∧ k ≠ g) v xs := by
 obtain ⟨A0, c0, hb, hg, hr0⟩ := h
 exact Kd.Q_types ho hb ht
theorem IsS75.own_neQ {w0 W : World} {g : Nat} {f0 : List Int} {f1 : Int} {f2 : Int} {α : Type} {d : Kd α} {e : Nat} {base : Nat} {ok : Nat → Prop} {v : Value} {xs : List α} (h : IsS75 w0 W g f0 f1 f2) (ho : d.Q e W base ok v xs) (ht : e ≠ 75) : some g ≠ v.ownBlock := by
 obtain ⟨A0, c0, hb, hg, hr0⟩ := h
 exact Kd.Q_ne ho hb ht
theorem IsS75.apartS {w0 W : World} {g : Nat} {f0 : List Int} {f1 : Int} {f2 : Int} {α : Type} {d : Kd α} {e : Nat} {base : Nat} {ok : Nat → Prop} {v : Value} {xs : List α} (h : IsS75 w0 W g f0 f1 f2) (ho : d.S e W base ok v xs) (ht : ∀ q, q ∈ e :: d.E → q ≠ 75) : d.S e W base (fun k => ok k ∧ k ≠ g) v xs := by
 obtain ⟨A0, c0, hb, hg, hr0⟩ := h
 exact Kd.S_types ho hb ht
theorem IsS75.own_neS {w0 W : World} {g : Nat} {f0 : List Int} {f1 : Int} {f2 : Int} {α : Type} {d : Kd α} {e : Nat} {base : Nat} {ok : Nat → Prop} {v : Value} {xs : List α} (h : IsS75 w0 W g f0 f1 f2) (ho : d.S e W base ok v xs) (ht : e ≠ 75) : some g ≠ v.ownBlock := by
 obtain ⟨A0, c0, hb, hg, hr0⟩ := h
 exact Kd.S_ne ho hb ht
theorem IsS75.lt {w0 W : World} {g : Nat} {f0 : List Int} {f1 : Int} {f2 : Int} (h : IsS75 w0 W g f0 f1 f2) : g < W.heap.size := by
 obtain ⟨A0, c0, hb, hg, hr0⟩ := h
 exact blk_lt hb
theorem IsS75.ge {w0 W : World} {g : Nat} {f0 : List Int} {f1 : Int} {f2 : Int} (h : IsS75 w0 W g f0 f1 f2) : w0.heap.size ≤ g := by
 obtain ⟨A0, c0, hb, hg, hr0⟩ := h
 exact hg
theorem IsS75.ne_blk {w0 W : World} {g : Nat} {f0 : List Int} {f1 : Int} {f2 : Int} {a : Nat} {cs : Array Value} {t : TypeId} {fr : Nat × Nat} (h : IsS75 w0 W g f0 f1 f2) (hb2 : W.heap[a]? = some (.cells cs t fr)) (ht : t ≠ 75) : g ≠ a := by
 obtain ⟨A0, c0, hb, hg, hr0⟩ := h
 rintro rfl
 rw [hb] at hb2
 injection hb2 with hb2
 injection hb2 with _ ht2
 exact ht ht2.symm
theorem IsS75.far {w0 W : World} {g : Nat} {f0 : List Int} {f1 : Int} {f2 : Int} {p : Addr} (h : IsS75 w0 W g f0 f1 f2) (hne : g ≠ p.block) (u : Value) : IsS75 w0 (W.setCell p u) g f0 f1 f2 := by
 obtain ⟨A0, c0, hb, hg, hr0⟩ := h
 exact ⟨A0, c0, blk_far hb hne u, hg, hr0⟩
theorem cellS75_0 {W : World} {g : Nat} {A0 : Option Addr} {c0 : Nat} {f0 : List Int} {f1 : Int} {f2 : Int} (h : W.heap[g]? = some (.cells #[.slice A0 f0.length c0, .int .i64 f1, .int .u64 f2] 75 (0, 0))) : W.cell? ⟨g, 0, none⟩ = some (.slice A0 f0.length c0) := (blk_cell h 0).trans rfl
theorem cellS75_1 {W : World} {g : Nat} {A0 : Option Addr} {c0 : Nat} {f0 : List Int} {f1 : Int} {f2 : Int} (h : W.heap[g]? = some (.cells #[.slice A0 f0.length c0, .int .i64 f1, .int .u64 f2] 75 (0, 0))) : W.cell? ⟨g, 1, none⟩ = some (.int .i64 f1) := (blk_cell h 1).trans rfl
theorem IsS75.set_1 {w0 W : World} {g : Nat} {f0 : List Int} {f1 : Int} {f2 : Int} (h : IsS75 w0 W g f0 f1 f2) (x : Int) : IsS75 w0 (W.setCell ⟨g, 1, none⟩ (.int .i64 x)) g f0 x f2 := by
 obtain ⟨A0, c0, hb, hg, hr0⟩ := h
 exact ⟨A0, c0, by simpa using blk_set hb 1 (.int .i64 x), hg, hr0⟩
theorem cellS75_2 {W : World} {g : Nat} {A0 : Option Addr} {c0 : Nat} {f0 : List Int} {f1 : Int} {f2 : Int} (h : W.heap[g]? = some (.cells #[.slice A0 f0.length c0, .int .i64 f1, .int .u64 f2] 75 (0, 0))) : W.cell? ⟨g, 2, none⟩ = some (.int .u64 f2) := (blk_cell h 2).trans rfl
theorem IsS75.set_2 {w0 W : World} {g : Nat} {f0 : List Int} {f1 : Int} {f2 : Int} (h : IsS75 w0 W g f0 f1 f2) (x : Int) : IsS75 w0 (W.setCell ⟨g, 2, none⟩ (.int .u64 x)) g f0 f1 x := by
 obtain ⟨A0, c0, hb, hg, hr0⟩ := h
 exact ⟨A0, c0, by simpa using blk_set hb 2 (.int .u64 x), hg, hr0⟩
theorem IsS75.new (w0 W : World) (A0 : Option Addr) (c0 : Nat) (f0 : List Int) (f1 : Int) (f2 : Int) (hB : Below w0.heap.size w0 W) (hr0 : Kd.C (Kd.int .u8) w0 A0 f0.length f0) : IsS75 w0 (W.alloc (.cells #[.slice A0 f0.length c0, .int .i64 f1, .int .u64 f2] 75)) W.heap.size f0 f1 f2 := ⟨A0, c0, by simpa using heap_alloc_new W _, hB.size, hr0⟩
theorem IsS75.to {w0 w W : World} {g : Nat} {f0 : List Int} {f1 : Int} {f2 : Int} (h : Aside0 (IsS75 w0 w g f0 f1 f2)) (s : IsS75 w0 w g f0 f1 f2 → IsS75 w0 W g f0 f1 f2 := by intro h_; repeat (first | (with_reducible first | exact h_ | apply IsS75.alloc | apply IsS75.drewN | apply IsS75.drew | apply IsS75.set_1 | apply IsS75.set_2) | exact h_)) : IsS75 w0 W g f0 f1 f2 := s h.out
def spec_l1Cur_next.f (s0_0 : List Int) (s0_1 : Int) (s0_2 : Int) : Option (Int × Int × Int) := if s0_1 < (s0_0.length : Int) then (if 0 ≤ s0_1 then (if (wrap64 (s0_1 + 1)) ≤ (s0_0.length : Int) then (some (wrap64 (rd s0_0 s0_1), wrap64 (s0_1 + 1), IntKind.u64.wrap ((IntKind.u64.wrap ((IntKind.u64.wrap (s0_2 * 6364136223846793005)) + (IntKind.u64.wrap (wrap64 (rd s0_0 s0_1))))) + 1442695040888963407))) else (some (wrap64 (Go.bits .and .u64 ((IntKind.u64.wrap ((IntKind.u64.wrap ((IntKind.u64.wrap (s0_2 * 6364136223846793005)) + (IntKind.u64.wrap (wrap64 (rd s0_0 s0_1))))) + 1442695040888963407)) / 1099511627776) 255), wrap64 (s0_1 + 1), IntKind.u64.wrap ((IntKind.u64.wrap ((IntKind.u64.wrap (s0_2 * 6364136223846793005)) + (IntKind.u64.wrap (wrap64 (rd s0_0 s0_1))))) + 1442695040888963407)))) else (none)) else (if (wrap64 (s0_1 + 1)) ≤ (s0_0.length : Int) then (some (0, wrap64 (s0_1 + 1), IntKind.u64.wrap ((IntKind.u64.wrap (IntKind.u64.wrap (s0_2 * 6364136223846793005))) + 1442695040888963407))) else (some (wrap64 (Go.bits .and .u64 ((IntKind.u64.wrap ((IntKind.u64.wrap (IntKind.u64.wrap (s0_2 * 6364136223846793005))) + 1442695040888963407)) / 1099511627776) 255), wrap64 (s0_1 + 1), IntKind.u64.wrap ((IntKind.u64.wrap (IntKind.u64.wrap (s0_2 * 6364136223846793005))) + 1442695040888963407))))
theorem spec_l1Cur_next.calls (g : Nat) (s0_0 : List Int) (s0_1 : Int) (s0_2 : Int) (r1 : Int) (r2 : Int) (r3 : Int) (w0 w : World) (hI : IsS75 w0 w g s0_0 s0_1 s0_2) (hB : Below w0.heap.size w0 w) (h : spec_l1Cur_next.f s0_0 s0_1 s0_2 = some (r1, r2, r3)) :
  Calls Tryz.prog 86 #[.pointer (some ⟨g, 0, none⟩)] w fun e w' => e = .returned (.int .i64 r1) ∧ IsS75 w0 w' g s0_0 r2 r3 ∧ Below w0.heap.size w0 w' ∧ KeepBut w w' g none := by
 have HI0 := Aside0.mk hI
 have HK := Aside0.mk (KeepBut.refl w g none)
 have HL := Aside0.mk hB.size
 clear hI
 have HW0 := Aside0.mk hB.size
 have HB := Aside0.mk hB
 clear hB
 have H := h
 unfold spec_l1Cur_next.f at H
 clear h
 by_cases c2 : s0_1 < (s0_0.length : Int)
 rotate_left
 ·rw [if_neg c2] at H
  have c2b0 := decide_eq_false c2
  clear c2
  by_cases c7 : (wrap64 (s0_1 + 1)) ≤ (s0_0.length : Int)
  ·rw [if_pos c7] at H
   have c7b0 := decide_eq_true c7
   clear c7
   simp only [Option.some.injEq, Prod.mk.injEq] at H
   obtain ⟨rfl, rfl, rfl⟩ := H
   obtain ⟨ASz8_0, cSz8_0, HGz8, hgz8, HSz8_0⟩ := HI0.out
   have hcz8_0 := cellS75_0 HGz8
   have hcz8_1 := cellS75_1 HGz8
   have hcz8_2 := cellS75_2 HGz8
   have hfz8_1 := blk_frozen HGz8 1
   have hfz8_2 := blk_frozen HGz8 2
   clear HGz8 hgz8
   go_enter Tryz.func86, Tryz.ntmps86
   go_wp2
   repeat (go_quiet (fail); try go_wp2)
   go_ret
   exact ⟨rtE_, by repeat (first | (with_reducible first | exact HI0.out | apply IsS75.alloc | apply IsS75.drewN | apply IsS75.drew | apply IsS75.set_1 | apply IsS75.set_2) | exact HI0.out), by repeat (first | (with_reducible first | exact HB.out | apply below_alloc | apply pw_below_drewN | apply below_drew1 | refine below_set ?_ (IsS75.ge HI0.out)) | exact HB.out), by repeat (first | (with_reducible first | exact HK.out | apply KeepBut.set_ | apply keep_drewN | apply keep_drew | apply keep_alloc) | exact HK.out)⟩
  ·rw [if_neg c7] at H
   have c7b0 := decide_eq_false c7
   clear c7
   simp only [Option.some.injEq, Prod.mk.injEq] at H
   obtain ⟨rfl, rfl, rfl⟩ := H
   obtain ⟨ASz9_0, cSz9_0, HGz9, hgz9, HSz9_0⟩ := HI0.out
   have hcz9_0 := cellS75_0 HGz9
   have hcz9_1 := cellS75_1 HGz9
   have hcz9_2 := cellS75_2 HGz9
   have hfz9_1 := blk_frozen HGz9 1
   have hfz9_2 := blk_frozen HGz9 2
   clear HGz9 hgz9
   go_enter Tryz.func86, Tryz.ntmps86
   go_wp2
   repeat (go_quiet (fail); try go_wp2)
   go_ret
   exact ⟨rtE_, by repeat (first | (with_reducible first | exact HI0.out | apply IsS75.alloc | apply IsS75.drewN | apply IsS75.drew | apply IsS75.set_1 | apply IsS75.set_2) | exact HI0.out), by repeat (first | (with_reducible first | exact HB.out | apply below_alloc | apply pw_below_drewN | apply below_drew1 | refine below_set ?_ (IsS75.ge HI0.out)) | exact HB.out), by repeat (first | (with_reducible first | exact HK.out | apply KeepBut.set_ | apply keep_drewN | apply keep_drew | apply keep_alloc) | exact HK.out)⟩
 rw [if_pos c2] at H
 have c2b0 := decide_eq_true c2
 clear c2
 by_cases c3 : 0 ≤ s0_1
 rotate_left
 ·rw [if_neg c3] at H
  cases H
 rw [if_pos c3] at H
 have c3b0 := decide_eq_true c3
 clear c3
 by_cases c4 : (wrap64 (s0_1 + 1)) ≤ (s0_0.length : Int)
 rotate_left
 ·rw [if_neg c4] at H
  have c4b0 := decide_eq_false c4
  clear c4
  simp only [Option.some.injEq, Prod.mk.injEq] at H
  obtain ⟨rfl, rfl, rfl⟩ := H
  obtain ⟨ASz6_0, cSz6_0, HGz6, hgz6, HSz6_0⟩ := HI0.out
  have hcz6_0 := cellS75_0 HGz6
  have hcz6_1 := cellS75_1 HGz6
  have hcz6_2 := cellS75_2 HGz6
  have hfz6_1 := blk_frozen HGz6 1
  have hfz6_2 := blk_frozen HGz6 2
  clear HGz6 hgz6
  have p391 : 0 ≤ (s0_1 : Int) := odt_
  have q391 : s0_1 < (s0_0.length : Int) := odt_
  obtain ⟨ad391, e391, hx391_0⟩ := Kd.at_int HSz6_0 s0_1 p391 q391
  cases e391
  replace hx391_0 := pw_cell_below HB.out hx391_0
  replace p391 := eq_true p391
  replace q391 := eq_true q391
  go_enter Tryz.func86, Tryz.ntmps86
  go_wp2
  repeat (go_quiet (fail); try go_wp2)
  go_ret
  exact ⟨rtE_, by repeat (first | (with_reducible first | exact HI0.out | apply IsS75.alloc | apply IsS75.drewN | apply IsS75.drew | apply IsS75.set_1 | apply IsS75.set_2) | exact HI0.out), by repeat (first | (with_reducible first | exact HB.out | apply below_alloc | apply pw_below_drewN | apply below_drew1 | refine below_set ?_ (IsS75.ge HI0.out)) | exact HB.out), by repeat (first | (with_reducible first | exact HK.out | apply KeepBut.set_ | apply keep_drewN | apply keep_drew | apply keep_alloc) | exact HK.out)⟩
 rw [if_pos c4] at H
 have c4b0 := decide_eq_true c4
 clear c4
 simp only [Option.some.injEq, Prod.mk.injEq] at H
 obtain ⟨rfl, rfl, rfl⟩ := H
 obtain ⟨ASz5_0, cSz5_0, HGz5, hgz5, HSz5_0⟩ := HI0.out
 have hcz5_0 := cellS75_0 HGz5
 have hcz5_1 := cellS75_1 HGz5
 have hcz5_2 := cellS75_2 HGz5
 have hfz5_1 := blk_frozen HGz5 1
 have hfz5_2 := blk_frozen HGz5 2
 clear HGz5 hgz5
 have p391 : 0 ≤ (s0_1 : Int) := odt_
 have q391 : s0_1 < (s0_0.length : Int) := odt_
 obtain ⟨ad391, e391, hx391_0⟩ := Kd.at_int HSz5_0 s0_1 p391 q391
 cases e391
 replace hx391_0 := pw_cell_below HB.out hx391_0
 replace p391 := eq_true p391
 replace q391 := eq_true q391
 go_enter Tryz.func86, Tryz.ntmps86
 go_wp2
 repeat (go_quiet (fail); try go_wp2)
 go_ret
 exact ⟨rtE_, by repeat (first | (with_reducible first | exact HI0.out | apply IsS75.alloc | apply IsS75.drewN | apply IsS75.drew | apply IsS75.set_1 | apply IsS75.set_2) | exact HI0.out), by repeat (first | (with_reducible first | exact HB.out | apply below_alloc | apply pw_below_drewN | apply below_drew1 | refine below_set ?_ (IsS75.ge HI0.out)) | exact HB.out), by repeat (first | (with_reducible first | exact HK.out | apply KeepBut.set_ | apply keep_drewN | apply keep_drew | apply keep_alloc) | exact HK.out)⟩
def spec_l1Cur_pick.f (s0_0 : List Int) (s0_1 : Int) (s0_2 : Int) (a1 : Int) : Option (Int × Int × Int) := if a1 ≤ 1 then (some (0, s0_1, s0_2)) else ((spec_l1Cur_next.f s0_0 s0_1 s0_2).bind fun bt392 => (if a1 > 200 then ((spec_l1Cur_next.f s0_0 bt392.2.1 bt392.2.2).bind fun bt395 => (if a1 = 0 then (none) else (some (Int.tmod (wrap64 ((wrap64 (bt392.1 * 256)) + bt395.1)) a1, bt395.2.1, bt395.2.2)))) else (if a1 = 0 then (none) else (some (Int.tmod bt392.1 a1, bt392.2.1, bt392.2.2)))))
theorem spec_l1Cur_pick.calls (g : Nat) (s0_0 : List Int) (s0_1 : Int) (s0_2 : Int) (a1 : Int) (r1 : Int) (r2 : Int) (r3 : Int) (w0 w : World) (hI : IsS75 w0 w g s0_0 s0_1 s0_2) (hB : Below w0.heap.size w0 w) (h : spec_l1Cur_pick.f s0_0 s0_1 s0_2 a1 = some (r1, r2, r3)) :
  Calls Tryz.prog 67 #[.pointer (some ⟨g, 0, none⟩), .int .i64 a1] w fun e w' => e = .returned (.int .i64 r1) ∧ IsS75 w0 w' g s0_0 r2 r3 ∧ Below w0.heap.size w0 w' ∧ KeepBut w w' g none := by
 have HI0 := Aside0.mk hI
 have HK := Aside0.mk (KeepBut.refl w g none)
 have HL := Aside0.mk hB.size
 clear hI
 have HW0 := Aside0.mk hB.size
 have HB := Aside0.mk hB
 clear hB
 have H := h
 unfold spec_l1Cur_pick.f at H
 clear h
 by_cases c3 : a1 ≤ 1
 ·rw [if_pos c3] at H
  have c3b0 := decide_eq_true c3
  clear c3
  simp only [Option.some.injEq, Prod.mk.injEq] at H
  obtain ⟨rfl, rfl, rfl⟩ := H
  go_enter Tryz.func67, Tryz.ntmps67
  go_wp2
  go_ret
  exact ⟨rtE_, by repeat (first | (with_reducible first | exact HI0.out | apply IsS75.alloc | apply IsS75.drewN | apply IsS75.drew | apply IsS75.set_1 | apply IsS75.set_2) | exact HI0.out), by repeat (first | (with_reducible first | exact HB.out | apply below_alloc | apply pw_below_drewN | apply below_drew1 | refine below_set ?_ (IsS75.ge HI0.out)) | exact HB.out), by repeat (first | (with_reducible first | exact HK.out | apply KeepBut.set_ | apply keep_drewN | apply keep_drew | apply keep_alloc) | exact HK.out)⟩
 rw [if_neg c3] at H
 have c3b0 := decide_eq_false c3
 clear c3
 replace H := Option.bind_eq_some_iff.mp H
 obtain ⟨⟨t392, t393, t394⟩, A40, H⟩ := H
 (try dsimp only at H)
 have A4 := Aside0.mk A40
 clear A40
 by_cases c5 : a1 > 200
 rotate_left
 ·rw [if_neg c5] at H
  have c5b0 := decide_eq_false c5
  clear c5
  by_cases c10 : a1 = 0
  ·rw [if_pos c10] at H
   cases H
  ·rw [if_neg c10] at H
   have c10b0 := beq_eq_false_iff_ne.mpr c10
   have c10b1 := bne_iff_ne.mpr c10
   simp only [Option.some.injEq, Prod.mk.injEq] at H
   obtain ⟨rfl, rfl, rfl⟩ := H
   go_enter Tryz.func67, Tryz.ntmps67
   go_wp2_with (first | ((with_reducible refine gate_callee (f := 86) rfl ?_); refine goesL_ (some 9) rfl rfl Tryz.func86 (by kernel_rfl) rfl #[.pointer (some ⟨g, 0, none⟩)] rfl am_ ?_; (with_reducible refine (spec_l1Cur_next.calls g s0_0 s0_1 s0_2 t392 t393 t394 w0 _ ?side1 ?side2 A4.out).mono ?_); (case side1 => exact IsS75.to HI0); (case side2 => exact below_to1 HB (IsS75.ge HI0.out)); rintro e w11 ⟨rfl, hi, hb, hk⟩; refine ⟨_, rfl, ?_⟩; replace HK := Aside0.mk (KeepBut.trans (keep_to HK) hk (.inl rfl)); replace HB := Aside0.mk (hb); replace HI0 := Aside0.mk (hi); clear hb hk hi))
   go_ret
   exact ⟨rtE_, by repeat (first | (with_reducible first | exact HI0.out | apply IsS75.alloc | apply IsS75.drewN | apply IsS75.drew | apply IsS75.set_1 | apply IsS75.set_2) | exact HI0.out), by repeat (first | (with_reducible first | exact HB.out | apply below_alloc | apply pw_below_drewN | apply below_drew1 | refine below_set ?_ (IsS75.ge HI0.out)) | exact HB.out), by repeat (first | (with_reducible first | exact HK.out | apply KeepBut.set_ | apply keep_drewN | apply keep_drew | apply keep_alloc) | exact HK.out)⟩
 rw [if_pos c5] at H
 have c5b0 := decide_eq_true c5
 clear c5
 replace H := Option.bind_eq_some_iff.mp H
 obtain ⟨⟨t395, t396, t397⟩, A60, H⟩ := H
 (try dsimp only at H)
 have A6 := Aside0.mk A60
 clear A60
 by_cases c7 : a1 = 0
 ·rw [if_pos c7] at H
  cases H
 ·rw [if_neg c7] at H
  have c7b0 := beq_eq_false_iff_ne.mpr c7
  have c7b1 := bne_iff_ne.mpr c7
  simp only [Option.some.injEq, Prod.mk.injEq] at H
  obtain ⟨rfl, rfl, rfl⟩ := H
  go_enter Tryz.func67, Tryz.ntmps67
  go_wp2_with (first | ((with_reducible refine gate_callee (f := 86) rfl ?_); refine goesL_ (some 9) rfl rfl Tryz.func86 (by kernel_rfl) rfl #[.pointer (some ⟨g, 0, none⟩)] rfl am_ ?_; (with_reducible refine (spec_l1Cur_next.calls g s0_0 s0_1 s0_2 t392 t393 t394 w0 _ ?side1 ?side2 A4.out).mono ?_); (case side1 => exact IsS75.to HI0); (case side2 => exact below_to1 HB (IsS75.ge HI0.out)); rintro e w8 ⟨rfl, hi, hb, hk⟩; refine ⟨_, rfl, ?_⟩; replace HK := Aside0.mk (KeepBut.trans (keep_to HK) hk (.inl rfl)); replace HB := Aside0.mk (hb); replace HI0 := Aside0.mk (hi); clear hb hk hi) | ((with_reducible refine gate_callee (f := 86) rfl ?_); refine goesL_ (some 15) rfl rfl Tryz.func86 (by kernel_rfl) rfl #[.pointer (some ⟨g, 0, none⟩)] rfl am_ ?_; (with_reducible refine (spec_l1Cur_next.calls g s0_0 t393 t394 t395 t396 t397 w0 _ ?side1 ?side2 A6.out).mono ?_); (case side1 => exact IsS75.to HI0); (case side2 => exact below_to1 HB (IsS75.ge HI0.out)); rintro e w9 ⟨rfl, hi, hb, hk⟩; refine ⟨_, rfl, ?_⟩; replace HK := Aside0.mk (KeepBut.trans (keep_to HK) hk (.inl rfl)); replace HB := Aside0.mk (hb); replace HI0 := Aside0.mk (hi); clear hb hk hi))
  go_ret
  exact ⟨rtE_, by repeat (first | (with_reducible first | exact HI0.out | apply IsS75.alloc | apply IsS75.drewN | apply IsS75.drew | apply IsS75.set_1 | apply IsS75.set_2) | exact HI0.out), by repeat (first | (with_reducible first | exact HB.out | apply below_alloc | apply pw_below_drewN | apply below_drew1 | refine below_set ?_ (IsS75.ge HI0.out)) | exact HB.out), by repeat (first | (with_reducible first | exact HK.out | apply KeepBut.set_ | apply keep_drewN | apply keep_drew | apply keep_alloc) | exact HK.out)⟩
def spec_l1Cur_among.f (s0_0 : List Int) (s0_1 : Int) (s0_2 : Int) (l1 : List Int) : Option (Int × Int × Int) := (spec_l1Cur_pick.f s0_0 s0_1 s0_2 (l1.length : Int)).bind fun bt398 => (if 0 ≤ bt398.1 then (if bt398.1 < (l1.length : Int) then (some (rd l1 bt398.1, bt398.2.1, bt398.2.2)) else (none)) else (none))
theorem spec_l1Cur_among.calls (g : Nat) (s0_0 : List Int) (s0_1 : Int) (s0_2 : Int) (A1 : Option Addr) (c1 : Nat) (l1 : List Int) (r1 : Int) (r2 : Int) (r3 : Int) (w0 w : World) (hI : IsS75 w0 w g s0_0 s0_1 s0_2) (hB : Below w0.heap.size w0 w) (hr1 : Kd.C (Kd.int .i64) w A1 l1.length l1) (hc1 : l1.length ≤ c1) (hf1 : ∀ ad, A1 = some ad → 0 < l1.length → ad.block ≠ g) (h : spec_l1Cur_among.f s0_0 s0_1 s0_2 l1 = some (r1, r2, r3)) :
  Calls Tryz.prog 66 #[.pointer (some ⟨g, 0, none⟩), .slice A1 l1.length c1] w fun e w' => e = .returned (.int .i64 r1) ∧ IsS75 w0 w' g s0_0 r2 r3 ∧ Below w0.heap.size w0 w' ∧ KeepBut w w' g none := by
 have HR1 := Aside0.mk hr1
 have HC1 := Aside0.mk hc1
 clear hr1 hc1
 have HI0 := Aside0.mk hI
 have HK := Aside0.mk (KeepBut.refl w g none)
 have HL := Aside0.mk hB.size
 clear hI
 have HW0 := Aside0.mk hB.size
 have HB := Aside0.mk hB
 clear hB
 have H := h
 unfold spec_l1Cur_among.f at H
 clear h
 replace H := Option.bind_eq_some_iff.mp H
 obtain ⟨⟨t398, t399, t400⟩, A30, H⟩ := H
 (try dsimp only at H)
 have A3 := Aside0.mk A30
 clear A30
 by_cases c4 : 0 ≤ t398
 ·rw [if_pos c4] at H
  have c4b0 := decide_eq_true c4
  clear c4
  by_cases c5 : t398 < (l1.length : Int)
  ·rw [if_pos c5] at H
   have c5b0 := decide_eq_true c5
   clear c5
   simp only [Option.some.injEq, Prod.mk.injEq] at H
   obtain ⟨rfl, rfl, rfl⟩ := H
   go_enter Tryz.func66, Tryz.ntmps66
   go_wp2_with (first | ((with_reducible refine gate_callee (f := 67) rfl ?_); refine goesL_ (some 9) rfl rfl Tryz.func67 (by kernel_rfl) rfl #[.pointer (some ⟨g, 0, none⟩), .int .i64 (l1.length : Int)] rfl am_ ?_; (with_reducible refine (spec_l1Cur_pick.calls g s0_0 s0_1 s0_2 (l1.length : Int) t398 t399 t400 w0 _ ?side1 ?side2 A3.out).mono ?_); (case side1 => exact IsS75.to HI0); (case side2 => exact below_to1 HB (IsS75.ge HI0.out)); rintro e w6 ⟨rfl, hi, hb, hk⟩; refine ⟨_, rfl, ?_⟩; replace HK := Aside0.mk (KeepBut.trans (keep_to HK) hk (.inl rfl)); replace HB := Aside0.mk (hb); replace HI0 := Aside0.mk (hi); clear hb hk hi; have p401 : 0 ≤ (t398 : Int) := of_decide_eq_true (by first | (with_reducible assumption) | assumption); have q401 : t398 < (l1.length : Int) := of_decide_eq_true (by first | (with_reducible assumption) | assumption); obtain ⟨ad401, e401, hx401_0⟩ := Kd.at_int HR1.out t398 p401 q401; cases e401; replace hx401_0 := keep_cell HK.out hx401_0 (by first | (rw [add_block]; exact hf1 _ rfl (by omega)) | exact hf1 _ rfl (by omega) | exact hf1 ad401 rfl (by omega)); replace p401 := eq_true p401; replace q401 := eq_true q401))
   go_ret
   exact ⟨rtE_, by repeat (first | (with_reducible first | exact HI0.out | apply IsS75.alloc | apply IsS75.drewN | apply IsS75.drew | apply IsS75.set_1 | apply IsS75.set_2) | exact HI0.out), by repeat (first | (with_reducible first | exact HB.out | apply below_alloc | apply pw_below_drewN | apply below_drew1 | refine below_set ?_ (IsS75.ge HI0.out)) | exact HB.out), by repeat (first | (with_reducible first | exact HK.out | apply KeepBut.set_ | apply keep_drewN | apply keep_drew | apply keep_alloc) | exact HK.out)⟩
  ·rw [if_neg c5] at H
   cases H
 ·rw [if_neg c4] at H
  cases H
def spec_l1Cur_sureLegs.l0 : Nat → List (S37) → Int → List Int → Int → Int → Option ((List (S37)) × Int × Int)
 | 0, _, _, _, _, _ => none
 | k + 1, x3, x4, x1000, x1001, x1002 => if x4 > 0 then ((spec_l1Cur_pick.f x1000 x1001 x1002 60).bind fun bt405 => ((spec_l1Cur_pick.f x1000 bt405.2.1 bt405.2.2 12).bind fun bt408 => (if x3.length < 8796093022208 then (spec_l1Cur_sureLegs.l0 k (x3 ++ [(⟨wrap64 (1 + bt405.1), wrap64 (1 + bt408.1)⟩ : S37)]) (wrap64 (x4 - 1)) x1000 bt408.2.1 bt408.2.2) else (none)))) else (some (x3, x1001, x1002))
def spec_l1Cur_sureLegs.f (k : Nat) (s0_0 : List Int) (s0_1 : Int) (s0_2 : Int) : Option ((List (S37)) × Int × Int) := (spec_l1Cur_pick.f s0_0 s0_1 s0_2 4).bind fun bt402 => (spec_l1Cur_sureLegs.l0 k ([] : List (S37)) (wrap64 (1 + bt402.1)) s0_0 bt402.2.1 bt402.2.2)
theorem spec_l1Cur_sureLegs.calls (k : Nat) (g : Nat) (s0_0 : List Int) (s0_1 : Int) (s0_2 : Int) (r1 : List (S37)) (r2 : Int) (r3 : Int) (w0 w : World) (hI : IsS75 w0 w g s0_0 s0_1 s0_2) (hB : Below w0.heap.size w0 w) (h : spec_l1Cur_sureLegs.f k s0_0 s0_1 s0_2 = some (r1, r2, r3)) :
  Calls Tryz.prog 69 #[.pointer (some ⟨g, 0, none⟩)] w fun e w' => ∃ Aa : Value, e = .returned (Aa) ∧ Kd.R k37 37 w' w.heap.size (fun _ => True) Aa r1 ∧ IsS75 w0 w' g s0_0 r2 r3 ∧ Below w0.heap.size w0 w' ∧ KeepBut w w' g none := by
 have hu37 := Tryz.underlying37
 have HI0 := Aside0.mk hI
 have HK := Aside0.mk (KeepBut.refl w g none)
 have HL := Aside0.mk hB.size
 clear hI
 have HW0 := Aside0.mk hB.size
 have HB := Aside0.mk hB
 clear hB
 have H := h
 unfold spec_l1Cur_sureLegs.f at H
 clear h
 replace H := Option.bind_eq_some_iff.mp H
 obtain ⟨⟨t402, t403, t404⟩, A20, H⟩ := H
 (try dsimp only at H)
 have A2 := Aside0.mk A20
 clear A20
 have H' := Aside0.mk H
 clear H
 go_enter Tryz.func69, Tryz.ntmps69
 go_wp2_with (first | ((with_reducible refine gate_callee (f := 67) rfl ?_); refine goesL_ (some 6) rfl rfl Tryz.func67 (by kernel_rfl) rfl #[.pointer (some ⟨g, 0, none⟩), .int .i64 4] rfl am_ ?_; (with_reducible refine (spec_l1Cur_pick.calls g s0_0 s0_1 s0_2 4 t402 t403 t404 w0 _ ?side1 ?side2 A2.out).mono ?_); (case side1 => exact IsS75.to HI0); (case side2 => exact below_to1 HB (IsS75.ge HI0.out)); rintro e w3 ⟨rfl, hi, hb, hk⟩; refine ⟨_, rfl, ?_⟩; replace HK := Aside0.mk (KeepBut.trans (keep_to HK) hk (.inl rfl)); replace HB := Aside0.mk (hb); replace HI0 := Aside0.mk (hi); clear hb hk hi))
 go_loopg [3, 4] k (fun kq v3 v4 w' => ∃ (x3_1 : List (S37)) (x4_1 : Int) (x1001_1 : Int) (x1002_1 : Int), v4 = .int .i64 x4_1 ∧ Aside0 (spec_l1Cur_sureLegs.l0 kq x3_1 x4_1 s0_0 x1001_1 x1002_1 = some (r1, r2, r3)) ∧ Aside0 (kq ≤ k) ∧ Aside0 (Kd.R k37 37 w' w.heap.size (fun _ => True) v3 x3_1) ∧ Aside0 (IsS75 w0 w' g s0_0 x1001_1 x1002_1) ∧ Aside0 (KeepBut w w' g none) ∧ Aside0 (Below w0.heap.size w0 w'))
 case atStart => exact ⟨(([] : List (S37))), (wrap64 (1 + t402)), (t403), (t404), rt_, H', ⟨Nat.le_refl _⟩, ⟨by first | exact Kd.R_nil _ _ _ _ _ | exact Kd.N_nil _ _ _ _ _ | exact Kd.V_nil _ _ _ _ _ | exact Kd.Q_nil _ _ _ _ _ | exact Kd.S_nil _ _ _ _ _⟩, ⟨by repeat (first | (with_reducible first | exact HI0.out | apply IsS75.alloc | apply IsS75.drewN | apply IsS75.drew | apply IsS75.set_1 | apply IsS75.set_2) | exact HI0.out)⟩, ⟨keep_to HK⟩, ⟨below_to1 HB (IsS75.ge HI0.out)⟩⟩
 clear H'
 try clear p2
 obtain ⟨x3_1, x4_1, x1001_1, x1002_1, rfl, HA, HK1, HO_3, HI0, HK, HB⟩ := hrel
 cases gk with
 | zero => exact absurd HA.out (by simp [spec_l1Cur_sureLegs.l0])
 | succ k1 =>
  have H := HA.out
  clear HA
  simp only [spec_l1Cur_sureLegs.l0] at H
  by_cases c4 : x4_1 > 0
  rotate_left
  ·rw [if_neg c4] at H
   have c4b0 := decide_eq_false c4
   clear c4
   simp only [Option.some.injEq, Prod.mk.injEq] at H
   obtain ⟨rfl, rfl, rfl⟩ := H
   go_wp2
   go_ret
   exact ⟨_, rtE_, kd_to HO_3, by repeat (first | (with_reducible first | exact HI0.out | apply IsS75.alloc | apply IsS75.drewN | apply IsS75.drew | apply IsS75.set_1 | apply IsS75.set_2) | exact HI0.out), by repeat (first | (with_reducible first | exact HB.out | apply below_alloc | apply pw_below_drewN | apply below_drew1 | refine below_set ?_ (IsS75.ge HI0.out)) | exact HB.out), by repeat (first | (with_reducible first | exact HK.out | apply KeepBut.set_ | apply keep_drewN | apply keep_drew | apply keep_alloc) | exact HK.out)⟩
  rw [if_pos c4] at H
  have c4b0 := decide_eq_true c4
  clear c4
  replace H := Option.bind_eq_some_iff.mp H
  obtain ⟨⟨t405, t406, t407⟩, A50, H⟩ := H
  (try dsimp only at H)
  have A5 := Aside0.mk A50
  clear A50
  replace H := Option.bind_eq_some_iff.mp H
  obtain ⟨⟨t408, t409, t410⟩, A60, H⟩ := H
  (try dsimp only at H)
  have A6 := Aside0.mk A60
  clear A60
  by_cases c7 : x3_1.length < 8796093022208
  ·rw [if_pos c7] at H
   have LMc7 := Aside0.mk c7
   clear c7
   obtain ⟨y411, hy411⟩ : ∃ y_ : List (S37), y_ = (x3_1 ++ [(⟨wrap64 (1 + t405), wrap64 (1 + t408)⟩ : S37)]) := ⟨_, rfl⟩
   replace H : (spec_l1Cur_sureLegs.l0 k1 y411 (wrap64 (x4_1 - 1)) s0_0 t409 t410) = some (r1, r2, r3) := by first | (rw [hy411]; with_reducible exact H) | (have H2_ := (Option.bind_some _ _).symm.trans H; rw [hy411]; with_reducible exact H2_) | (have H2_ := (Option.bind_some _ _).symm.trans H; with_reducible exact H2_) | with_reducible exact H | (rw [hy411]; exact H) | exact H
   have Ny411 := Aside0.mk hy411
   clear hy411
   have H' := Aside0.mk H
   clear H
   go_wp2_with (first | ((with_reducible refine gate_callee (f := 67) rfl ?_); refine goesL_ (some 14) rfl rfl Tryz.func67 (by kernel_rfl) rfl #[.pointer (some ⟨g, 0, none⟩), .int .i64 60] rfl am_ ?_; (with_reducible refine (spec_l1Cur_pick.calls g s0_0 x1001_1 x1002_1 60 t405 t406 t407 w0 _ ?side1 ?side2 A5.out).mono ?_); (case side1 => exact IsS75.to HI0); (case side2 => exact below_to1 HB (IsS75.ge HI0.out)); rintro e w8 ⟨rfl, hi, hb, hk⟩; refine ⟨_, rfl, ?_⟩; replace HO_3 := Aside0.mk (Kd.R_mono (Kd.R_keep (IsS75.apart (IsS75.to HI0) (kd_to HO_3) (by decide)) hk (fun _ h => h.2)) (fun _ h => h.1)); replace HK := Aside0.mk (KeepBut.trans (keep_to HK) hk (.inl rfl)); replace HB := Aside0.mk (hb); replace HI0 := Aside0.mk (hi); clear hb hk hi) | ((with_reducible refine gate_callee (f := 67) rfl ?_); refine goesL_ (some 17) rfl rfl Tryz.func67 (by kernel_rfl) rfl #[.pointer (some ⟨g, 0, none⟩), .int .i64 12] rfl am_ ?_; (with_reducible refine (spec_l1Cur_pick.calls g s0_0 t406 t407 12 t408 t409 t410 w0 _ ?side1 ?side2 A6.out).mono ?_); (case side1 => exact IsS75.to HI0); (case side2 => exact below_to1 HB (IsS75.ge HI0.out)); rintro e w9 ⟨rfl, hi, hb, hk⟩; refine ⟨_, rfl, ?_⟩; replace HO_3 := Aside0.mk (Kd.R_mono (Kd.R_keep (IsS75.apart (IsS75.to HI0) (kd_to HO_3) (by decide)) hk (fun _ h => h.2)) (fun _ h => h.1)); replace HK := Aside0.mk (KeepBut.trans (keep_to HK) hk (.inl rfl)); replace HB := Aside0.mk (hb); replace HI0 := Aside0.mk (hi); clear hb hk hi) | ((with_reducible refine gate_builtin (b := .append) (xs := #[.tmp 12, .tmp 20]) rfl ?_); at_builtin; refine Kd.R_append k37 w.heap.size rfl (.tmp 12) (.tmp 20) 22 37 (.agg #[(.int .i64 0), (.int .i64 0)]) 16 rfl Tryz.underlying22 info37 rfl (by decide) (by omega) u3 x3_1 (⟨wrap64 (1 + t405), wrap64 (1 + t408)⟩ : S37) [.int .i64 (wrap64 (1 + t405)), .int .i64 (wrap64 (1 + t408))] (fun _ => True) (fun _ => False) rfl rfl ?aP (fun _ hk => hk.elim) ?aF ?aO (Below.refl _ _) ?aS ?aL ?_; (case aP => exact k37_mkM _ _ _ (⟨wrap64 (1 + t405), wrap64 (1 + t408)⟩ : S37)); (case aF => exact (fun _ _ => trivial)); (case aO => exact (kd_to HO_3)); (case aS => exact (keep_size (w := w) (g := g) (row := none) (keep_to HK))); (case aL => have := LMc7.out; omega); intro v412 w10 ho hb hg hat; rw [← Ny411.out] at ho; have n0_ := Aside0.mk (IsS75.grown (IsS75.to HI0) hg (IsS75.own_ne HI0.out HO_3.out (by decide))); have n1_ := Aside0.mk (below_weaken (below_to1 HB (IsS75.ge HI0.out)) HL.out hb); have n2_ := Aside0.mk (KeepBut.trans (keep_to HK) (KeepBut.of_grown hg g) (Kd.R_base2 HO_3.out)); have n3_ := Aside0.mk (ho); clear HI0; clear HB; clear HK; clear HO_3; have HI0 := n0_; have HB := n1_; have HK := n2_; have HO413 := n3_; clear n0_ n1_ n2_ n3_; clear ho hb hg hat))
   go_roundg k1
   case measure => have := HK1.out; omega
   case rel => exact ⟨(y411), (wrap64 (x4_1 - 1)), (t409), (t410), rt_, H', ⟨by have := HK1.out; omega⟩, ⟨kd_to HO413⟩, ⟨by repeat (first | (with_reducible first | exact HI0.out | apply IsS75.alloc | apply IsS75.drewN | apply IsS75.drew | apply IsS75.set_1 | apply IsS75.set_2) | exact HI0.out)⟩, ⟨keep_to HK⟩, ⟨below_to1 HB (IsS75.ge HI0.out)⟩⟩
  ·rw [if_neg c7] at H
   cases H
def spec_l1Cur_legs.l0 : Nat → List (S37) → List Int → Int → Int → Option ((List (S37)) × Int × Int)
 | 0, _, _, _, _ => none
 | k + 1, x3, x1000, x1001, x1002 => (spec_l1Cur_pick.f x1000 x1001 x1002 2).bind fun bt436 => (if (x3.length : Int) < (wrap64 (5 + bt436.1)) then ((spec_l1Cur_among.f x1000 bt436.2.1 bt436.2.2 (([97, 89, 83, 79, 73, 71, 67, 61] : List Int))).bind fun bt442 => (if x3.length < 8796093022208 then (spec_l1Cur_legs.l0 k (x3 ++ [(⟨7, bt442.1⟩ : S37)]) x1000 bt442.2.1 bt442.2.2) else (none))) else (some (x3, bt436.2.1, bt436.2.2)))
def spec_l1Cur_legs.f (k : Nat) (s0_0 : List Int) (s0_1 : Int) (s0_2 : Int) : Option ((List (S37)) × Int × Int) := (spec_l1Cur_sureLegs.f k s0_0 s0_1 s0_2).bind fun bt414 => ((spec_l1Cur_pick.f s0_0 bt414.2.1 bt414.2.2 14).bind fun bt419 => (if bt419.1 = 0 then (some (([] : List (S37)), bt419.2.1, bt419.2.2)) else (if bt419.1 = 1 then ((spec_l1Cur_among.f s0_0 bt419.2.1 bt419.2.2 (([0, (-1), 1000, 1001, 4611686018427387904] : List Int))).bind fun bt425 => (if 0 < (bt414.1.length : Int) then (some ((bt414.1.set (0 : Int).toNat (⟨bt425.1, (rd_T37 bt414.1 0).f1⟩ : S37)), bt425.2.1, bt425.2.2)) else (none))) else (if bt419.1 = 2 then ((spec_l1Cur_among.f s0_0 bt419.2.1 bt419.2.2 (([0, (-1), 100, 101, 4611686018427387904] : List Int))).bind fun bt432 => (if 0 < (bt414.1.length : Int) then (some ((bt414.1.set (0 : Int).toNat (⟨(rd_T37 bt414.1 0).f0, bt432.1⟩ : S37)), bt432.2.1, bt432.2.2)) else (none))) else (if bt419.1 = 3 then (spec_l1Cur_legs.l0 k bt414.1 s0_0 bt419.2.1 bt419.2.2) else (some (bt414.1, bt419.2.1, bt419.2.2)))))))
theorem spec_l1Cur_legs.calls (k : Nat) (g : Nat) (s0_0 : List Int) (s0_1 : Int) (s0_2 : Int) (r1 : List (S37)) (r2 : Int) (r3 : Int) (w0 w : World) (hI : IsS75 w0 w g s0_0 s0_1 s0_2) (hB : Below w0.heap.size w0 w) (h : spec_l1Cur_legs.f k s0_0 s0_1 s0_2 = some (r1, r2, r3)) :
  Calls Tryz.prog 64 #[.pointer (some ⟨g, 0, none⟩)] w fun e w' => ∃ Aa : Value, e = .returned (Aa) ∧ Kd.R k37 37 w' w.heap.size (fun _ => True) Aa r1 ∧ IsS75 w0 w' g s0_0 r2 r3 ∧ Below w0.heap.size w0 w' ∧ KeepBut w w' g none := by
 have hu37 := Tryz.underlying37
 have HI0 := Aside0.mk hI
 have HK := Aside0.mk (KeepBut.refl w g none)
 have HL := Aside0.mk hB.size
 clear hI
 have HW0 := Aside0.mk hB.size
 have HB := Aside0.mk hB
 clear hB
 have H := h
 unfold spec_l1Cur_legs.f at H
 clear h
 replace H := Option.bind_eq_some_iff.mp H
 obtain ⟨⟨t414, t417, t418⟩, A20, H⟩ := H
 (try dsimp only at H)
 have A2 := Aside0.mk A20
 clear A20
 replace H := Option.bind_eq_some_iff.mp H
 obtain ⟨⟨t419, t420, t421⟩, A30, H⟩ := H
 (try dsimp only at H)
 have A3 := Aside0.mk A30
 clear A30
 by_cases c4 : t419 = 0
 ·rw [if_pos c4] at H
  have c4b0 := beq_iff_eq.mpr c4
  have c4b1 := bne_eq_false_iff_eq.mpr c4
  clear c4
  simp only [Option.some.injEq, Prod.mk.injEq] at H
  obtain ⟨rfl, rfl, rfl⟩ := H
  go_enter Tryz.func64, Tryz.ntmps64
  go_wp2_with (first | ((with_reducible refine gate_callee (f := 69) rfl ?_); refine goesL_ (some 5) rfl rfl Tryz.func69 (by kernel_rfl) rfl #[.pointer (some ⟨g, 0, none⟩)] rfl am_ ?_; (with_reducible refine (spec_l1Cur_sureLegs.calls k g s0_0 s0_1 s0_2 t414 t417 t418 w0 _ ?side1 ?side2 A2.out).mono ?_); (case side1 => exact IsS75.to HI0); (case side2 => exact below_to1 HB (IsS75.ge HI0.out)); rintro e w5 ⟨v415, rfl, ho0, hi, hb, hk⟩; refine ⟨_, rfl, ?_⟩; have HO416 := Aside0.mk (Kd.R_lower ho0 (keep_size (w := w) (g := g) (row := none) (keep_to HK))); replace HK := Aside0.mk (KeepBut.trans (keep_to HK) hk (.inl rfl)); replace HB := Aside0.mk (hb); replace HI0 := Aside0.mk (hi); clear hb hk hi; (try clear ho0)) | ((with_reducible refine gate_callee (f := 67) rfl ?_); refine goesL_ (some 7) rfl rfl Tryz.func67 (by kernel_rfl) rfl #[.pointer (some ⟨g, 0, none⟩), .int .i64 14] rfl am_ ?_; (with_reducible refine (spec_l1Cur_pick.calls g s0_0 t417 t418 14 t419 t420 t421 w0 _ ?side1 ?side2 A3.out).mono ?_); (case side1 => exact IsS75.to HI0); (case side2 => exact below_to1 HB (IsS75.ge HI0.out)); rintro e w6 ⟨rfl, hi, hb, hk⟩; refine ⟨_, rfl, ?_⟩; replace HO416 := Aside0.mk (Kd.R_mono (Kd.R_keep (IsS75.apart (IsS75.to HI0) (kd_to HO416) (by decide)) hk (fun _ h => h.2)) (fun _ h => h.1)); replace HK := Aside0.mk (KeepBut.trans (keep_to HK) hk (.inl rfl)); replace HB := Aside0.mk (hb); replace HI0 := Aside0.mk (hi); clear hb hk hi))
  go_ret
  exact ⟨_, rtE_, by first | exact Kd.R_nil _ _ _ _ _ | exact Kd.N_nil _ _ _ _ _ | exact Kd.V_nil _ _ _ _ _ | exact Kd.Q_nil _ _ _ _ _ | exact Kd.S_nil _ _ _ _ _, by repeat (first | (with_reducible first | exact HI0.out | apply IsS75.alloc | apply IsS75.drewN | apply IsS75.drew | apply IsS75.set_1 | apply IsS75.set_2) | exact HI0.out), by repeat (first | (with_reducible first | exact HB.out | apply below_alloc | apply pw_below_drewN | apply below_drew1 | refine below_set ?_ (IsS75.ge HI0.out)) | exact HB.out), by repeat (first | (with_reducible first | exact HK.out | apply KeepBut.set_ | apply keep_drewN | apply keep_drew | apply keep_alloc) | exact HK.out)⟩
 rw [if_neg c4] at H
 have c4b0 := beq_eq_false_iff_ne.mpr c4
 have c4b1 := bne_iff_ne.mpr c4
 by_cases c7 : t419 = 1
 ·rw [if_pos c7] at H
  have c7b0 := beq_iff_eq.mpr c7
  have c7b1 := bne_eq_false_iff_eq.mpr c7
  clear c7
  obtain ⟨y422, hy422⟩ : ∃ y_ : List Int, y_ = (([0, (-1), 1000, 1001, 4611686018427387904] : List Int)) := ⟨_, rfl⟩
  replace H : ((spec_l1Cur_among.f s0_0 t420 t421 y422).bind fun bt425 => (if 0 < (t414.length : Int) then (some ((t414.set (0 : Int).toNat (⟨bt425.1, (rd_T37 t414 0).f1⟩ : S37)), bt425.2.1, bt425.2.2)) else (none))) = some (r1, r2, r3) := by first | (rw [hy422]; with_reducible exact H) | (have H2_ := (Option.bind_some _ _).symm.trans H; rw [hy422]; with_reducible exact H2_) | (have H2_ := (Option.bind_some _ _).symm.trans H; with_reducible exact H2_) | with_reducible exact H | (rw [hy422]; exact H) | exact H
  have Ny422 := Aside0.mk hy422
  clear hy422
  replace H := Option.bind_eq_some_iff.mp H
  obtain ⟨⟨t425, t426, t427⟩, A80, H⟩ := H
  (try dsimp only at H)
  have A8 := Aside0.mk A80
  clear A80
  by_cases c9 : 0 < (t414.length : Int)
  ·rw [if_pos c9] at H
   have c9b0 := decide_eq_true c9
   have c9b1 : decide (0 < t414.length) = true := decide_eq_true (by omega)
   clear c9
   obtain ⟨y428, hy428⟩ : ∃ y_ : List (S37), y_ = (t414.set (0 : Int).toNat (⟨t425, (rd_T37 t414 0).f1⟩ : S37)) := ⟨_, rfl⟩
   replace H : (some (y428, t426, t427)) = some (r1, r2, r3) := by first | (rw [hy428]; with_reducible exact H) | (have H2_ := (Option.bind_some _ _).symm.trans H; rw [hy428]; with_reducible exact H2_) | (have H2_ := (Option.bind_some _ _).symm.trans H; with_reducible exact H2_) | with_reducible exact H | (rw [hy428]; exact H) | exact H
   have Ny428 := Aside0.mk hy428
   clear hy428
   simp only [Option.some.injEq, Prod.mk.injEq] at H
   obtain ⟨rfl, rfl, rfl⟩ := H
   go_enter Tryz.func64, Tryz.ntmps64
   go_wp2_with (first | ((with_reducible refine gate_callee (f := 69) rfl ?_); refine goesL_ (some 5) rfl rfl Tryz.func69 (by kernel_rfl) rfl #[.pointer (some ⟨g, 0, none⟩)] rfl am_ ?_; (with_reducible refine (spec_l1Cur_sureLegs.calls k g s0_0 s0_1 s0_2 t414 t417 t418 w0 _ ?side1 ?side2 A2.out).mono ?_); (case side1 => exact IsS75.to HI0); (case side2 => exact below_to1 HB (IsS75.ge HI0.out)); rintro e w11 ⟨v415, rfl, ho0, hi, hb, hk⟩; refine ⟨_, rfl, ?_⟩; have HO416 := Aside0.mk (Kd.R_lower ho0 (keep_size (w := w) (g := g) (row := none) (keep_to HK))); replace HK := Aside0.mk (KeepBut.trans (keep_to HK) hk (.inl rfl)); replace HB := Aside0.mk (hb); replace HI0 := Aside0.mk (hi); clear hb hk hi; (try clear ho0)) | ((with_reducible refine gate_callee (f := 67) rfl ?_); refine goesL_ (some 7) rfl rfl Tryz.func67 (by kernel_rfl) rfl #[.pointer (some ⟨g, 0, none⟩), .int .i64 14] rfl am_ ?_; (with_reducible refine (spec_l1Cur_pick.calls g s0_0 t417 t418 14 t419 t420 t421 w0 _ ?side1 ?side2 A3.out).mono ?_); (case side1 => exact IsS75.to HI0); (case side2 => exact below_to1 HB (IsS75.ge HI0.out)); rintro e w12 ⟨rfl, hi, hb, hk⟩; refine ⟨_, rfl, ?_⟩; replace HO416 := Aside0.mk (Kd.R_mono (Kd.R_keep (IsS75.apart (IsS75.to HI0) (kd_to HO416) (by decide)) hk (fun _ h => h.2)) (fun _ h => h.1)); replace HK := Aside0.mk (KeepBut.trans (keep_to HK) hk (.inl rfl)); replace HB := Aside0.mk (hb); replace HI0 := Aside0.mk (hi); clear hb hk hi) | ((with_reducible refine gate_dst (N := 14) rfl ?_); refine Kd.R_lit (Kd.int .i64) _ 3 ?hg (N := 14) ?hd (xs := ([0, (-1), 1000, 1001, 4611686018427387904] : List Int)) (inner := [.int .i64 0, .int .i64 (-1), .int .i64 1000, .int .i64 1001, .int .i64 4611686018427387904]) (ok := fun _ => True) (okp := fun _ => True) ?hr ?hp (fun _ hk => hk) trivial (Below.refl _ _) (Nat.le_refl _) (by simp) ?_; (case hd => rfl); (case hg => rfl); (case hr => first | (go_simp; done) | (go_simp; rfl)); (case hp => exact (Reps.one (show Kd.M (Kd.int .i64) _ _ _ 0 [.int .i64 0] from rfl) (Reps.one (show Kd.M (Kd.int .i64) _ _ _ (-1) [.int .i64 (-1)] from rfl) (Reps.one (show Kd.M (Kd.int .i64) _ _ _ 1000 [.int .i64 1000] from rfl) (Reps.one (show Kd.M (Kd.int .i64) _ _ _ 1001 [.int .i64 1001] from rfl) (Reps.one (show Kd.M (Kd.int .i64) _ _ _ 4611686018427387904 [.int .i64 4611686018427387904] from rfl) (Reps.none _ _))))))); intro v423 w13 ho14 hb hg_ hnew_; clear hg_ hnew_; (first | rw [← Ny422.out] at ho14 | (simp only [Int.reduceToNat] at ho14; rw [← Ny422.out] at ho14)); have n0_ := Aside0.mk (Kd.R_below (kd_to HO416) hb); have n1_ := Aside0.mk (Kd.R_lower ho14 (keep_size (w := w) (g := g) (row := none) (keep_to HK))); have n2_ := Aside0.mk (IsS75.below (IsS75.to HI0) hb); have n3_ := Aside0.mk (KeepBut.trans (keep_to HK) (KeepBut.of_below hb g none) (.inl rfl)); have n4_ := Aside0.mk (below_step (below_to1 HB (IsS75.ge HI0.out)) hb); clear HO416; clear HI0; clear HK; clear HB; have HO416 := n0_; have HO424 := n1_; have HI0 := n2_; have HK := n3_; have HB := n4_; clear n0_ n1_ n2_ n3_ n4_; clear hb ho14; obtain ⟨Ao15, co15, eo15⟩ := Kd.R_slice HO424.out; subst eo15) | ((with_reducible refine gate_callee (f := 66) rfl ?_); refine goesL_ (some 15) rfl rfl Tryz.func66 (by kernel_rfl) rfl #[.pointer (some ⟨g, 0, none⟩), .slice Ao15 y422.length co15] rfl am_ ?_; (with_reducible refine (spec_l1Cur_among.calls g s0_0 t420 t421 _ _ y422 t425 t426 t427 w0 _ ?side1 ?side2 ?side3 ?side4 ?side5 A8.out).mono ?_); (case side1 => exact IsS75.to HI0); (case side2 => exact below_to1 HB (IsS75.ge HI0.out)); (case side3 => exact cR_ HO424); (case side4 => exact (Kd.R_reads' HO424.out).2.1); (case side5 => exact far_slice (IsS75.own_ne HI0.out HO424.out (by decide))); rintro e w16 ⟨rfl, hi, hb, hk⟩; refine ⟨_, rfl, ?_⟩; replace HO416 := Aside0.mk (Kd.R_mono (Kd.R_keep (IsS75.apart (IsS75.to HI0) (kd_to HO416) (by decide)) hk (fun _ h => h.2)) (fun _ h => h.1)); replace HO424 := Aside0.mk (Kd.R_mono (Kd.R_keep (IsS75.apart (IsS75.to HI0) (kd_to HO424) (by decide)) hk (fun _ h => h.2)) (fun _ h => h.1)); replace HK := Aside0.mk (KeepBut.trans (keep_to HK) hk (.inl rfl)); replace HB := Aside0.mk (hb); replace HI0 := Aside0.mk (hi); clear hb hk hi; have p10 : 0 ≤ (0 : Int) := (by omega); have q10 : (0 : Int) < ((t414.length : Int) : Int) := of_decide_eq_true (by first | (with_reducible assumption) | assumption); have qi10 : (0 < t414.length) = True := eq_true (by omega); obtain ⟨go10, co10, eo10, gb10, gl10, cl10, HG10⟩ := Kd.R_form HO416.out (by omega); (first | cases eo10 | (injection eo10 with ea_ en_ ec_; (first | subst ea_ | (injection ea_ with ea_; subst ea_)); subst ec_; clear en_)); have GB10 := Aside0.mk gb10; have GG10 := Aside0.mk HG10; clear gb10 gl10 HG10; obtain ⟨ce10, hcl10, hM10, hcc10, hfr10⟩ := Kd.R_elem HO416.out z37 (0 : Int) p10 q10; obtain rfl := k37_openM hM10; have hx10_0 : w16.cell? ⟨go10, (0 : Int).toNat * 2, none⟩ = some (.int .i64 ((rd_T37 t414 0).f0)) := hcc10 0 _ rfl; have hx10_1 : w16.cell? ⟨go10, (0 : Int).toNat * 2 + 1, none⟩ = some (.int .i64 ((rd_T37 t414 0).f1)) := hcc10 1 _ rfl; have hf10_0 : w16.frozen? ⟨go10, (0 : Int).toNat * 2, none⟩ = false := hfr10 0; have hf10_1 : w16.frozen? ⟨go10, (0 : Int).toNat * 2 + 1, none⟩ = false := hfr10 1; clear hcl10 hcc10 hfr10 hM10; (try rw [show ((0 : Int)).toNat = 0 from rfl] at hx10_0); (try simp only [Nat.reduceMul, Nat.zero_mul, Nat.zero_add, Nat.reduceAdd] at hx10_0); (try rw [show ((0 : Int)).toNat = 0 from rfl] at hf10_0); (try simp only [Nat.reduceMul, Nat.zero_mul, Nat.zero_add, Nat.reduceAdd] at hf10_0); (try rw [show ((0 : Int)).toNat = 0 from rfl] at hx10_1); (try simp only [Nat.reduceMul, Nat.zero_mul, Nat.zero_add, Nat.reduceAdd] at hx10_1); (try rw [show ((0 : Int)).toNat = 0 from rfl] at hf10_1); (try simp only [Nat.reduceMul, Nat.zero_mul, Nat.zero_add, Nat.reduceAdd] at hf10_1); replace p10 := eq_true p10; replace q10 := eq_true q10; have HX17 := Aside0.mk (show Kd.R k37 37 w16 w.heap.size (fun _ => True) (.slice (some ⟨go10, 0, none⟩) t414.length co10) t414 from (kd_to HO416)); obtain ⟨ce17, hcl17, hM17, hcc17, hfr17⟩ := Kd.R_elem HX17.out z37 (0 : Int) (by omega) (by have h_ : (0 : Int) < ((t414.length : Int) : Int) := of_decide_eq_true (by first | (with_reducible assumption) | assumption); first | exact h_ | (have e_ := (Kd.R_reads' HO416.out).1; omega) | simpa using h_); obtain rfl := k37_openM hM17; have HP17 := Kd.R_seg HX17.out (0 : Int) (by omega) (by have h_ : (0 : Int) < ((t414.length : Int) : Int) := of_decide_eq_true (by first | (with_reducible assumption) | assumption); first | exact h_ | (have e_ := (Kd.R_reads' HO416.out).1; omega) | simpa using h_) (seg := [.int .i64 t425]) (j := 0) hcl17 hcc17 (show 1 ≤ 2 from by decide) (x' := (⟨t425, (rd_T37 t414 0).f1⟩ : S37)) (k37_mkM _ _ _ (⟨t425, (rd_T37 t414 0).f1⟩ : S37) ) (fun _ hk => hk); have hx17_0 := hcc17 0 _ rfl; (try simp only [show (k37).sz = 2 from rfl, Nat.mul_one, Nat.add_zero] at hx17_0); (try rw [show ((0 : Int)).toNat = 0 from rfl] at hx17_0); (try simp only [Nat.reduceMul, Nat.zero_mul, Nat.zero_add, Nat.reduceAdd] at hx17_0); have hf17_0 := hfr17 0; (try simp only [show (k37).sz = 2 from rfl, Nat.mul_one, Nat.add_zero] at hf17_0); (try rw [show ((0 : Int)).toNat = 0 from rfl] at hf17_0); (try simp only [Nat.reduceMul, Nat.zero_mul, Nat.zero_add, Nat.reduceAdd] at hf17_0); clear hcl17 hcc17 hfr17 hM17) | ((with_reducible refine gate_store (t := 3) (p := 17) rfl ?_); refine store_event (t := 3) (p := 17) (v := ?vo_w18) (w1 := (w16.setCell ⟨go10, 0, none⟩ (.int .i64 t425))) ?hg ?ho ?hn ?hr ?_; (case ho => rfl); (case hg => rfl); (case hn => rfl); (case hr => first | (go_simp; done) | (go_simp; rfl)); intro w18 hw; have hg : w16.grownBy w18 (some go10) := (by rw [hw]; exact HP17.2); have hp_ : Kd.R k37 37 w18 w.heap.size (fun _ => True) (.slice (some ⟨go10, 0, none⟩) t414.length co10) y428 := (by rw [hw, Ny428.out]; exact HP17.1); clear HP17; have n0_ := Aside0.mk (IsS75.grown (IsS75.to HI0) hg (IsS75.own_ne HI0.out HO416.out (by decide))); have n1_ := Aside0.mk (hp_); have n2_ := Aside0.mk (Kd.R_over' (v := (.slice (some ⟨go10, 0, none⟩) t414.length co10)) (kd_to HO424) (Kd.R_typed HO416.out) (by decide) hg); have n3_ := Aside0.mk ((by rw [hw]; exact below_set (HB.out) (Nat.le_trans HL.out GB10.out) : Below w0.heap.size w0 w18)); have n4_ := Aside0.mk (KeepBut.trans (keep_to HK) (KeepBut.of_grown hg g) (Kd.R_base2 HO416.out)); clear HI0; clear HO416; clear HO424; clear HB; clear HK; have HI0 := n0_; have HO416 := n1_; have HO424 := n2_; have HB := n3_; have HK := n4_; clear n0_ n1_ n2_ n3_ n4_; clear hg hw hp_))
   go_ret
   exact ⟨_, rtE_, kd_to HO416, by repeat (first | (with_reducible first | exact HI0.out | apply IsS75.alloc | apply IsS75.drewN | apply IsS75.drew | apply IsS75.set_1 | apply IsS75.set_2) | exact HI0.out), by repeat (first | (with_reducible first | exact HB.out | apply below_alloc | apply pw_below_drewN | apply below_drew1 | refine below_set ?_ (IsS75.ge HI0.out)) | exact HB.out), by repeat (first | (with_reducible first | exact HK.out | apply KeepBut.set_ | apply keep_drewN | apply keep_drew | apply keep_alloc) | exact HK.out)⟩
  ·rw [if_neg c9] at H
   cases H
 rw [if_neg c7] at H
 have c7b0 := beq_eq_false_iff_ne.mpr c7
 have c7b1 := bne_iff_ne.mpr c7
 by_cases c19 : t419 = 2
 ·rw [if_pos c19] at H
  have c19b0 := beq_iff_eq.mpr c19
  have c19b1 := bne_eq_false_iff_eq.mpr c19
  clear c19
  obtain ⟨y429, hy429⟩ : ∃ y_ : List Int, y_ = (([0, (-1), 100, 101, 4611686018427387904] : List Int)) := ⟨_, rfl⟩
  replace H : ((spec_l1Cur_among.f s0_0 t420 t421 y429).bind fun bt432 => (if 0 < (t414.length : Int) then (some ((t414.set (0 : Int).toNat (⟨(rd_T37 t414 0).f0, bt432.1⟩ : S37)), bt432.2.1, bt432.2.2)) else (none))) = some (r1, r2, r3) := by first | (rw [hy429]; with_reducible exact H) | (have H2_ := (Option.bind_some _ _).symm.trans H; rw [hy429]; with_reducible exact H2_) | (have H2_ := (Option.bind_some _ _).symm.trans H; with_reducible exact H2_) | with_reducible exact H | (rw [hy429]; exact H) | exact H
  have Ny429 := Aside0.mk hy429
  clear hy429
  replace H := Option.bind_eq_some_iff.mp H
  obtain ⟨⟨t432, t433, t434⟩, A200, H⟩ := H
  (try dsimp only at H)
  have A20 := Aside0.mk A200
  clear A200
  by_cases c21 : 0 < (t414.length : Int)
  ·rw [if_pos c21] at H
   have c21b0 := decide_eq_true c21
   have c21b1 : decide (0 < t414.length) = true := decide_eq_true (by omega)
   clear c21
   obtain ⟨y435, hy435⟩ : ∃ y_ : List (S37), y_ = (t414.set (0 : Int).toNat (⟨(rd_T37 t414 0).f0, t432⟩ : S37)) := ⟨_, rfl⟩
   replace H : (some (y435, t433, t434)) = some (r1, r2, r3) := by first | (rw [hy435]; with_reducible exact H) | (have H2_ := (Option.bind_some _ _).symm.trans H; rw [hy435]; with_reducible exact H2_) | (have H2_ := (Option.bind_some _ _).symm.trans H; with_reducible exact H2_) | with_reducible exact H | (rw [hy435]; exact H) | exact H
   have Ny435 := Aside0.mk hy435
   clear hy435
   simp only [Option.some.injEq, Prod.mk.injEq] at H
   obtain ⟨rfl, rfl, rfl⟩ := H
   go_enter Tryz.func64, Tryz.ntmps64
   go_wp2_with (first | ((with_reducible refine gate_callee (f := 69) rfl ?_); refine goesL_ (some 5) rfl rfl Tryz.func69 (by kernel_rfl) rfl #[.pointer (some ⟨g, 0, none⟩)] rfl am_ ?_; (with_reducible refine (spec_l1Cur_sureLegs.calls k g s0_0 s0_1 s0_2 t414 t417 t418 w0 _ ?side1 ?side2 A2.out).mono ?_); (case side1 => exact IsS75.to HI0); (case side2 => exact below_to1 HB (IsS75.ge HI0.out)); rintro e w23 ⟨v415, rfl, ho0, hi, hb, hk⟩; refine ⟨_, rfl, ?_⟩; have HO416 := Aside0.mk (Kd.R_lower ho0 (keep_size (w := w) (g := g) (row := none) (keep_to HK))); replace HK := Aside0.mk (KeepBut.trans (keep_to HK) hk (.inl rfl)); replace HB := Aside0.mk (hb); replace HI0 := Aside0.mk (hi); clear hb hk hi; (try clear ho0)) | ((with_reducible refine gate_callee (f := 67) rfl ?_); refine goesL_ (some 7) rfl rfl Tryz.func67 (by kernel_rfl) rfl #[.pointer (some ⟨g, 0, none⟩), .int .i64 14] rfl am_ ?_; (with_reducible refine (spec_l1Cur_pick.calls g s0_0 t417 t418 14 t419 t420 t421 w0 _ ?side1 ?side2 A3.out).mono ?_); (case side1 => exact IsS75.to HI0); (case side2 => exact below_to1 HB (IsS75.ge HI0.out)); rintro e w24 ⟨rfl, hi, hb, hk⟩; refine ⟨_, rfl, ?_⟩; replace HO416 := Aside0.mk (Kd.R_mono (Kd.R_keep (IsS75.apart (IsS75.to HI0) (kd_to HO416) (by decide)) hk (fun _ h => h.2)) (fun _ h => h.1)); replace HK := Aside0.mk (KeepBut.trans (keep_to HK) hk (.inl rfl)); replace HB := Aside0.mk (hb); replace HI0 := Aside0.mk (hi); clear hb hk hi) | ((with_reducible refine gate_dst (N := 22) rfl ?_); refine Kd.R_lit (Kd.int .i64) _ 3 ?hg (N := 22) ?hd (xs := ([0, (-1), 100, 101, 4611686018427387904] : List Int)) (inner := [.int .i64 0, .int .i64 (-1), .int .i64 100, .int .i64 101, .int .i64 4611686018427387904]) (ok := fun _ => True) (okp := fun _ => True) ?hr ?hp (fun _ hk => hk) trivial (Below.refl _ _) (Nat.le_refl _) (by simp) ?_; (case hd => rfl); (case hg => rfl); (case hr => first | (go_simp; done) | (go_simp; rfl)); (case hp => exact (Reps.one (show Kd.M (Kd.int .i64) _ _ _ 0 [.int .i64 0] from rfl) (Reps.one (show Kd.M (Kd.int .i64) _ _ _ (-1) [.int .i64 (-1)] from rfl) (Reps.one (show Kd.M (Kd.int .i64) _ _ _ 100 [.int .i64 100] from rfl) (Reps.one (show Kd.M (Kd.int .i64) _ _ _ 101 [.int .i64 101] from rfl) (Reps.one (show Kd.M (Kd.int .i64) _ _ _ 4611686018427387904 [.int .i64 4611686018427387904] from rfl) (Reps.none _ _))))))); intro v430 w25 ho26 hb hg_ hnew_; clear hg_ hnew_; (first | rw [← Ny429.out] at ho26 | (simp only [Int.reduceToNat] at ho26; rw [← Ny429.out] at ho26)); have n0_ := Aside0.mk (Kd.R_below (kd_to HO416) hb); have n1_ := Aside0.mk (Kd.R_lower ho26 (keep_size (w := w) (g := g) (row := none) (keep_to HK))); have n2_ := Aside0.mk (IsS75.below (IsS75.to HI0) hb); have n3_ := Aside0.mk (KeepBut.trans (keep_to HK) (KeepBut.of_below hb g none) (.inl rfl)); have n4_ := Aside0.mk (below_step (below_to1 HB (IsS75.ge HI0.out)) hb); clear HO416; clear HI0; clear HK; clear HB; have HO416 := n0_; have HO431 := n1_; have HI0 := n2_; have HK := n3_; have HB := n4_; clear n0_ n1_ n2_ n3_ n4_; clear hb ho26; obtain ⟨Ao27, co27, eo27⟩ := Kd.R_slice HO431.out; subst eo27) | ((with_reducible refine gate_callee (f := 66) rfl ?_); refine goesL_ (some 23) rfl rfl Tryz.func66 (by kernel_rfl) rfl #[.pointer (some ⟨g, 0, none⟩), .slice Ao27 y429.length co27] rfl am_ ?_; (with_reducible refine (spec_l1Cur_among.calls g s0_0 t420 t421 _ _ y429 t432 t433 t434 w0 _ ?side1 ?side2 ?side3 ?side4 ?side5 A20.out).mono ?_); (case side1 => exact IsS75.to HI0); (case side2 => exact below_to1 HB (IsS75.ge HI0.out)); (case side3 => exact cR_ HO431); (case side4 => exact (Kd.R_reads' HO431.out).2.1); (case side5 => exact far_slice (IsS75.own_ne HI0.out HO431.out (by decide))); rintro e w28 ⟨rfl, hi, hb, hk⟩; refine ⟨_, rfl, ?_⟩; replace HO416 := Aside0.mk (Kd.R_mono (Kd.R_keep (IsS75.apart (IsS75.to HI0) (kd_to HO416) (by decide)) hk (fun _ h => h.2)) (fun _ h => h.1)); replace HO431 := Aside0.mk (Kd.R_mono (Kd.R_keep (IsS75.apart (IsS75.to HI0) (kd_to HO431) (by decide)) hk (fun _ h => h.2)) (fun _ h => h.1)); replace HK := Aside0.mk (KeepBut.trans (keep_to HK) hk (.inl rfl)); replace HB := Aside0.mk (hb); replace HI0 := Aside0.mk (hi); clear hb hk hi; have p22 : 0 ≤ (0 : Int) := (by omega); have q22 : (0 : Int) < ((t414.length : Int) : Int) := of_decide_eq_true (by first | (with_reducible assumption) | assumption); have qi22 : (0 < t414.length) = True := eq_true (by omega); obtain ⟨go22, co22, eo22, gb22, gl22, cl22, HG22⟩ := Kd.R_form HO416.out (by omega); (first | cases eo22 | (injection eo22 with ea_ en_ ec_; (first | subst ea_ | (injection ea_ with ea_; subst ea_)); subst ec_; clear en_)); have GB22 := Aside0.mk gb22; have GG22 := Aside0.mk HG22; clear gb22 gl22 HG22; obtain ⟨ce22, hcl22, hM22, hcc22, hfr22⟩ := Kd.R_elem HO416.out z37 (0 : Int) p22 q22; obtain rfl := k37_openM hM22; have hx22_0 : w28.cell? ⟨go22, (0 : Int).toNat * 2, none⟩ = some (.int .i64 ((rd_T37 t414 0).f0)) := hcc22 0 _ rfl; have hx22_1 : w28.cell? ⟨go22, (0 : Int).toNat * 2 + 1, none⟩ = some (.int .i64 ((rd_T37 t414 0).f1)) := hcc22 1 _ rfl; have hf22_0 : w28.frozen? ⟨go22, (0 : Int).toNat * 2, none⟩ = false := hfr22 0; have hf22_1 : w28.frozen? ⟨go22, (0 : Int).toNat * 2 + 1, none⟩ = false := hfr22 1; clear hcl22 hcc22 hfr22 hM22; (try rw [show ((0 : Int)).toNat = 0 from rfl] at hx22_0); (try simp only [Nat.reduceMul, Nat.zero_mul, Nat.zero_add, Nat.reduceAdd] at hx22_0); (try rw [show ((0 : Int)).toNat = 0 from rfl] at hf22_0); (try simp only [Nat.reduceMul, Nat.zero_mul, Nat.zero_add, Nat.reduceAdd] at hf22_0); (try rw [show ((0 : Int)).toNat = 0 from rfl] at hx22_1); (try simp only [Nat.reduceMul, Nat.zero_mul, Nat.zero_add, Nat.reduceAdd] at hx22_1); (try rw [show ((0 : Int)).toNat = 0 from rfl] at hf22_1); (try simp only [Nat.reduceMul, Nat.zero_mul, Nat.zero_add, Nat.reduceAdd] at hf22_1); replace p22 := eq_true p22; replace q22 := eq_true q22; have HX29 := Aside0.mk (show Kd.R k37 37 w28 w.heap.size (fun _ => True) (.slice (some ⟨go22, 0, none⟩) t414.length co22) t414 from (kd_to HO416)); obtain ⟨ce29, hcl29, hM29, hcc29, hfr29⟩ := Kd.R_elem HX29.out z37 (0 : Int) (by omega) (by have h_ : (0 : Int) < ((t414.length : Int) : Int) := of_decide_eq_true (by first | (with_reducible assumption) | assumption); first | exact h_ | (have e_ := (Kd.R_reads' HO416.out).1; omega) | simpa using h_); obtain rfl := k37_openM hM29; have HP29 := Kd.R_seg HX29.out (0 : Int) (by omega) (by have h_ : (0 : Int) < ((t414.length : Int) : Int) := of_decide_eq_true (by first | (with_reducible assumption) | assumption); first | exact h_ | (have e_ := (Kd.R_reads' HO416.out).1; omega) | simpa using h_) (seg := [.int .i64 t432]) (j := 1) hcl29 hcc29 (show 2 ≤ 2 from by decide) (x' := (⟨(rd_T37 t414 0).f0, t432⟩ : S37)) (k37_mkM _ _ _ (⟨(rd_T37 t414 0).f0, t432⟩ : S37) ) (fun _ hk => hk); have hx29_1 := hcc29 1 _ rfl; (try simp only [show (k37).sz = 2 from rfl, Nat.mul_one, Nat.add_zero] at hx29_1); (try rw [show ((0 : Int)).toNat = 0 from rfl] at hx29_1); (try simp only [Nat.reduceMul, Nat.zero_mul, Nat.zero_add, Nat.reduceAdd] at hx29_1); have hf29_1 := hfr29 1; (try simp only [show (k37).sz = 2 from rfl, Nat.mul_one, Nat.add_zero] at hf29_1); (try rw [show ((0 : Int)).toNat = 0 from rfl] at hf29_1); (try simp only [Nat.reduceMul, Nat.zero_mul, Nat.zero_add, Nat.reduceAdd] at hf29_1); clear hcl29 hcc29 hfr29 hM29) | ((with_reducible refine gate_store (t := 3) (p := 25) rfl ?_); refine store_event (t := 3) (p := 25) (v := ?vo_w30) (w1 := (w28.setCell ⟨go22, 1, none⟩ (.int .i64 t432))) ?hg ?ho ?hn ?hr ?_; (case ho => rfl); (case hg => rfl); (case hn => rfl); (case hr => first | (go_simp; done) | (go_simp; rfl)); intro w30 hw; have hg : w28.grownBy w30 (some go22) := (by rw [hw]; exact HP29.2); have hp_ : Kd.R k37 37 w30 w.heap.size (fun _ => True) (.slice (some ⟨go22, 0, none⟩) t414.length co22) y435 := (by rw [hw, Ny435.out]; exact HP29.1); clear HP29; have n0_ := Aside0.mk (IsS75.grown (IsS75.to HI0) hg (IsS75.own_ne HI0.out HO416.out (by decide))); have n1_ := Aside0.mk (hp_); have n2_ := Aside0.mk (Kd.R_over' (v := (.slice (some ⟨go22, 0, none⟩) t414.length co22)) (kd_to HO431) (Kd.R_typed HO416.out) (by decide) hg); have n3_ := Aside0.mk ((by rw [hw]; exact below_set (HB.out) (Nat.le_trans HL.out GB22.out) : Below w0.heap.size w0 w30)); have n4_ := Aside0.mk (KeepBut.trans (keep_to HK) (KeepBut.of_grown hg g) (Kd.R_base2 HO416.out)); clear HI0; clear HO416; clear HO431; clear HB; clear HK; have HI0 := n0_; have HO416 := n1_; have HO431 := n2_; have HB := n3_; have HK := n4_; clear n0_ n1_ n2_ n3_ n4_; clear hg hw hp_))
   go_ret
   exact ⟨_, rtE_, kd_to HO416, by repeat (first | (with_reducible first | exact HI0.out | apply IsS75.alloc | apply IsS75.drewN | apply IsS75.drew | apply IsS75.set_1 | apply IsS75.set_2) | exact HI0.out), by repeat (first | (with_reducible first | exact HB.out | apply below_alloc | apply pw_below_drewN | apply below_drew1 | refine below_set ?_ (IsS75.ge HI0.out)) | exact HB.out), by repeat (first | (with_reducible first | exact HK.out | apply KeepBut.set_ | apply keep_drewN | apply keep_drew | apply keep_alloc) | exact HK.out)⟩
  ·rw [if_neg c21] at H
   cases H
 rw [if_neg c19] at H
 have c19b0 := beq_eq_false_iff_ne.mpr c19
 have c19b1 := bne_iff_ne.mpr c19
 by_cases c31 : t419 = 3
 rotate_left
 ·rw [if_neg c31] at H
  have c31b0 := beq_eq_false_iff_ne.mpr c31
  have c31b1 := bne_iff_ne.mpr c31
  simp only [Option.some.injEq, Prod.mk.injEq] at H
  obtain ⟨rfl, rfl, rfl⟩ := H
  go_enter Tryz.func64, Tryz.ntmps64
  go_wp2_with (first | ((with_reducible refine gate_callee (f := 69) rfl ?_); refine goesL_ (some 5) rfl rfl Tryz.func69 (by kernel_rfl) rfl #[.pointer (some ⟨g, 0, none⟩)] rfl am_ ?_; (with_reducible refine (spec_l1Cur_sureLegs.calls k g s0_0 s0_1 s0_2 t414 t417 t418 w0 _ ?side1 ?side2 A2.out).mono ?_); (case side1 => exact IsS75.to HI0); (case side2 => exact below_to1 HB (IsS75.ge HI0.out)); rintro e w47 ⟨v415, rfl, ho0, hi, hb, hk⟩; refine ⟨_, rfl, ?_⟩; have HO416 := Aside0.mk (Kd.R_lower ho0 (keep_size (w := w) (g := g) (row := none) (keep_to HK))); replace HK := Aside0.mk (KeepBut.trans (keep_to HK) hk (.inl rfl)); replace HB := Aside0.mk (hb); replace HI0 := Aside0.mk (hi); clear hb hk hi; (try clear ho0)) | ((with_reducible refine gate_callee (f := 67) rfl ?_); refine goesL_ (some 7) rfl rfl Tryz.func67 (by kernel_rfl) rfl #[.pointer (some ⟨g, 0, none⟩), .int .i64 14] rfl am_ ?_; (with_reducible refine (spec_l1Cur_pick.calls g s0_0 t417 t418 14 t419 t420 t421 w0 _ ?side1 ?side2 A3.out).mono ?_); (case side1 => exact IsS75.to HI0); (case side2 => exact below_to1 HB (IsS75.ge HI0.out)); rintro e w48 ⟨rfl, hi, hb, hk⟩; refine ⟨_, rfl, ?_⟩; replace HO416 := Aside0.mk (Kd.R_mono (Kd.R_keep (IsS75.apart (IsS75.to HI0) (kd_to HO416) (by decide)) hk (fun _ h => h.2)) (fun _ h => h.1)); replace HK := Aside0.mk (KeepBut.trans (keep_to HK) hk (.inl rfl)); replace HB := Aside0.mk (hb); replace HI0 := Aside0.mk (hi); clear hb hk hi))
  go_ret
  exact ⟨_, rtE_, kd_to HO416, by repeat (first | (with_reducible first | exact HI0.out | apply IsS75.alloc | apply IsS75.drewN | apply IsS75.drew | apply IsS75.set_1 | apply IsS75.set_2) | exact HI0.out), by repeat (first | (with_reducible first | exact HB.out | apply below_alloc | apply pw_below_drewN | apply below_drew1 | refine below_set ?_ (IsS75.ge HI0.out)) | exact HB.out), by repeat (first | (with_reducible first | exact HK.out | apply KeepBut.set_ | apply keep_drewN | apply keep_drew | apply keep_alloc) | exact HK.out)⟩
 rw [if_pos c31] at H
 have c31b0 := beq_iff_eq.mpr c31
 have c31b1 := bne_eq_false_iff_eq.mpr c31
 clear c31
 have H' := Aside0.mk H
 clear H
 go_enter Tryz.func64, Tryz.ntmps64
 go_wp2_with (first | ((with_reducible refine gate_callee (f := 69) rfl ?_); refine goesL_ (some 5) rfl rfl Tryz.func69 (by kernel_rfl) rfl #[.pointer (some ⟨g, 0, none⟩)] rfl am_ ?_; (with_reducible refine (spec_l1Cur_sureLegs.calls k g s0_0 s0_1 s0_2 t414 t417 t418 w0 _ ?side1 ?side2 A2.out).mono ?_); (case side1 => exact IsS75.to HI0); (case side2 => exact below_to1 HB (IsS75.ge HI0.out)); rintro e w32 ⟨v415, rfl, ho0, hi, hb, hk⟩; refine ⟨_, rfl, ?_⟩; have HO416 := Aside0.mk (Kd.R_lower ho0 (keep_size (w := w) (g := g) (row := none) (keep_to HK))); replace HK := Aside0.mk (KeepBut.trans (keep_to HK) hk (.inl rfl)); replace HB := Aside0.mk (hb); replace HI0 := Aside0.mk (hi); clear hb hk hi; (try clear ho0)) | ((with_reducible refine gate_callee (f := 67) rfl ?_); refine goesL_ (some 7) rfl rfl Tryz.func67 (by kernel_rfl) rfl #[.pointer (some ⟨g, 0, none⟩), .int .i64 14] rfl am_ ?_; (with_reducible refine (spec_l1Cur_pick.calls g s0_0 t417 t418 14 t419 t420 t421 w0 _ ?side1 ?side2 A3.out).mono ?_); (case side1 => exact IsS75.to HI0); (case side2 => exact below_to1 HB (IsS75.ge HI0.out)); rintro e w33 ⟨rfl, hi, hb, hk⟩; refine ⟨_, rfl, ?_⟩; replace HO416 := Aside0.mk (Kd.R_mono (Kd.R_keep (IsS75.apart (IsS75.to HI0) (kd_to HO416) (by decide)) hk (fun _ h => h.2)) (fun _ h => h.1)); replace HK := Aside0.mk (KeepBut.trans (keep_to HK) hk (.inl rfl)); replace HB := Aside0.mk (hb); replace HI0 := Aside0.mk (hi); clear hb hk hi))
 go_loopg [3] k (fun kq v3 w' => ∃ (x3_1 : List (S37)) (x1001_1 : Int) (x1002_1 : Int), Aside0 (spec_l1Cur_legs.l0 kq x3_1 s0_0 x1001_1 x1002_1 = some (r1, r2, r3)) ∧ Aside0 (kq ≤ k) ∧ Aside0 (Kd.R k37 37 w' w.heap.size (fun _ => True) v3 x3_1) ∧ Aside0 (IsS75 w0 w' g s0_0 x1001_1 x1002_1) ∧ Aside0 (KeepBut w w' g none) ∧ Aside0 (Below w0.heap.size w0 w'))
 case atStart => exact ⟨(t414), (t420), (t421), H', ⟨Nat.le_refl _⟩, ⟨kd_to HO416⟩, ⟨by repeat (first | (with_reducible first | exact HI0.out | apply IsS75.alloc | apply IsS75.drewN | apply IsS75.drew | apply IsS75.set_1 | apply IsS75.set_2) | exact HI0.out)⟩, ⟨keep_to HK⟩, ⟨below_to1 HB (IsS75.ge HI0.out)⟩⟩
 clear H'
 try clear c1
 try clear p1
 try clear q1
 try clear hx1
 try clear qi1
 try clear hf1
 try clear c2
 try clear p2
 try clear q2
 try clear hx2
 try clear qi2
 try clear hf2
 try clear c3
 try clear c4
 try clear c4b0
 try clear c4b1
 try clear c6
 try clear c7
 try clear c7b0
 try clear c7b1
 try clear c9
 try clear c9b0
 try clear c9b1
 try clear c10
 try clear p10
 try clear q10
 try clear hx10
 try clear qi10
 try clear hf10
 try clear c17
 try clear hx17
 try clear hf17
 try clear c19
 try clear c19b0
 try clear c19b1
 try clear c21
 try clear c21b0
 try clear c21b1
 try clear c22
 try clear p22
 try clear q22
 try clear hx22
 try clear qi22
 try clear hf22
 try clear c29
 try clear hx29
 try clear hf29
 try clear c31
 try clear c31b0
 try clear c31b1
 try clear hx10_0
 try clear hx10_1
 try clear hx17_0
 try clear hx22_0
 try clear hx22_1
 try clear hx29_1
 try clear p10
 try clear p22
 try clear q10
 try clear q22
 obtain ⟨x3_1, x1001_1, x1002_1, HA, HK1, HO_3, HI0, HK, HB⟩ := hrel
 cases gk with
 | zero => exact absurd HA.out (by simp [spec_l1Cur_legs.l0])
 | succ k1 =>
  have H := HA.out
  clear HA
  simp only [spec_l1Cur_legs.l0] at H
  replace H := Option.bind_eq_some_iff.mp H
  obtain ⟨⟨t436, t437, t438⟩, A340, H⟩ := H
  (try dsimp only at H)
  have A34 := Aside0.mk A340
  clear A340
  by_cases c35 : (x3_1.length : Int) < (wrap64 (5 + t436))
  rotate_left
  ·rw [if_neg c35] at H
   have c35b0 := decide_eq_false c35
   clear c35
   simp only [Option.some.injEq, Prod.mk.injEq] at H
   obtain ⟨rfl, rfl, rfl⟩ := H
   obtain ⟨Ao45, co45, eo45⟩ := Kd.R_slice HO_3.out
   subst eo45
   go_wp2_with (first | ((with_reducible refine gate_callee (f := 67) rfl ?_); refine goesL_ (some 31) rfl rfl Tryz.func67 (by kernel_rfl) rfl #[.pointer (some ⟨g, 0, none⟩), .int .i64 2] rfl am_ ?_; (with_reducible refine (spec_l1Cur_pick.calls g s0_0 x1001_1 x1002_1 2 t436 t437 t438 w0 _ ?side1 ?side2 A34.out).mono ?_); (case side1 => exact IsS75.to HI0); (case side2 => exact below_to1 HB (IsS75.ge HI0.out)); rintro e w46 ⟨rfl, hi, hb, hk⟩; refine ⟨_, rfl, ?_⟩; replace HO_3 := Aside0.mk (Kd.R_mono (Kd.R_keep (IsS75.apart (IsS75.to HI0) (kd_to HO_3) (by decide)) hk (fun _ h => h.2)) (fun _ h => h.1)); replace HK := Aside0.mk (KeepBut.trans (keep_to HK) hk (.inl rfl)); replace HB := Aside0.mk (hb); replace HI0 := Aside0.mk (hi); clear hb hk hi))
   go_ret
   exact ⟨_, rtE_, kd_to HO_3, by repeat (first | (with_reducible first | exact HI0.out | apply IsS75.alloc | apply IsS75.drewN | apply IsS75.drew | apply IsS75.set_1 | apply IsS75.set_2) | exact HI0.out), by repeat (first | (with_reducible first | exact HB.out | apply below_alloc | apply pw_below_drewN | apply below_drew1 | refine below_set ?_ (IsS75.ge HI0.out)) | exact HB.out), by repeat (first | (with_reducible first | exact HK.out | apply KeepBut.set_ | apply keep_drewN | apply keep_drew | apply keep_alloc) | exact HK.out)⟩
  rw [if_pos c35] at H
  have c35b0 := decide_eq_true c35
  clear c35
  obtain ⟨y439, hy439⟩ : ∃ y_ : List Int, y_ = (([97, 89, 83, 79, 73, 71, 67, 61] : List Int)) := ⟨_, rfl⟩
  replace H : ((spec_l1Cur_among.f s0_0 t437 t438 y439).bind fun bt442 => (if x3_1.length < 8796093022208 then (spec_l1Cur_legs.l0 k1 (x3_1 ++ [(⟨7, bt442.1⟩ : S37)]) s0_0 bt442.2.1 bt442.2.2) else (none))) = some (r1, r2, r3) := by first | (rw [hy439]; with_reducible exact H) | (have H2_ := (Option.bind_some _ _).symm.trans H; rw [hy439]; with_reducible exact H2_) | (have H2_ := (Option.bind_some _ _).symm.trans H; with_reducible exact H2_) | with_reducible exact H | (rw [hy439]; exact H) | exact H
  have Ny439 := Aside0.mk hy439
  clear hy439
  replace H := Option.bind_eq_some_iff.mp H
  obtain ⟨⟨t442, t443, t444⟩, A360, H⟩ := H
  (try dsimp only at H)
  have A36 := Aside0.mk A360
  clear A360
  by_cases c37 : x3_1.length < 8796093022208
  ·rw [if_pos c37] at H
   have LMc37 := Aside0.mk c37
   clear c37
   obtain ⟨y445, hy445⟩ : ∃ y_ : List (S37), y_ = (x3_1 ++ [(⟨7, t442⟩ : S37)]) := ⟨_, rfl⟩
   replace H : (spec_l1Cur_legs.l0 k1 y445 s0_0 t443 t444) = some (r1, r2, r3) := by first | (rw [hy445]; with_reducible exact H) | (have H2_ := (Option.bind_some _ _).symm.trans H; rw [hy445]; with_reducible exact H2_) | (have H2_ := (Option.bind_some _ _).symm.trans H; with_reducible exact H2_) | with_reducible exact H | (rw [hy445]; exact H) | exact H
   have Ny445 := Aside0.mk hy445
   clear hy445
   have H' := Aside0.mk H
   clear H
   obtain ⟨Ao38, co38, eo38⟩ := Kd.R_slice HO_3.out
   subst eo38
   go_wp2_with (first | ((with_reducible refine gate_callee (f := 67) rfl ?_); refine goesL_ (some 31) rfl rfl Tryz.func67 (by kernel_rfl) rfl #[.pointer (some ⟨g, 0, none⟩), .int .i64 2] rfl am_ ?_; (with_reducible refine (spec_l1Cur_pick.calls g s0_0 x1001_1 x1002_1 2 t436 t437 t438 w0 _ ?side1 ?side2 A34.out).mono ?_); (case side1 => exact IsS75.to HI0); (case side2 => exact below_to1 HB (IsS75.ge HI0.out)); rintro e w39 ⟨rfl, hi, hb, hk⟩; refine ⟨_, rfl, ?_⟩; replace HO_3 := Aside0.mk (Kd.R_mono (Kd.R_keep (IsS75.apart (IsS75.to HI0) (kd_to HO_3) (by decide)) hk (fun _ h => h.2)) (fun _ h => h.1)); replace HK := Aside0.mk (KeepBut.trans (keep_to HK) hk (.inl rfl)); replace HB := Aside0.mk (hb); replace HI0 := Aside0.mk (hi); clear hb hk hi) | ((with_reducible refine gate_dst (N := 36) rfl ?_); refine Kd.R_lit (Kd.int .i64) _ 3 ?hg (N := 36) ?hd (xs := ([97, 89, 83, 79, 73, 71, 67, 61] : List Int)) (inner := [.int .i64 97, .int .i64 89, .int .i64 83, .int .i64 79, .int .i64 73, .int .i64 71, .int .i64 67, .int .i64 61]) (ok := fun _ => True) (okp := fun _ => True) ?hr ?hp (fun _ hk => hk) trivial (Below.refl _ _) (Nat.le_refl _) (by simp) ?_; (case hd => rfl); (case hg => rfl); (case hr => first | (go_simp; done) | (go_simp; rfl)); (case hp => exact (Reps.one (show Kd.M (Kd.int .i64) _ _ _ 97 [.int .i64 97] from rfl) (Reps.one (show Kd.M (Kd.int .i64) _ _ _ 89 [.int .i64 89] from rfl) (Reps.one (show Kd.M (Kd.int .i64) _ _ _ 83 [.int .i64 83] from rfl) (Reps.one (show Kd.M (Kd.int .i64) _ _ _ 79 [.int .i64 79] from rfl) (Reps.one (show Kd.M (Kd.int .i64) _ _ _ 73 [.int .i64 73] from rfl) (Reps.one (show Kd.M (Kd.int .i64) _ _ _ 71 [.int .i64 71] from rfl) (Reps.one (show Kd.M (Kd.int .i64) _ _ _ 67 [.int .i64 67] from rfl) (Reps.one (show Kd.M (Kd.int .i64) _ _ _ 61 [.int .i64 61] from rfl) (Reps.none _ _)))))))))); intro v440 w40 ho41 hb hg_ hnew_; clear hg_ hnew_; (first | rw [← Ny439.out] at ho41 | (simp only [Int.reduceToNat] at ho41; rw [← Ny439.out] at ho41)); have n0_ := Aside0.mk (Kd.R_below (kd_to HO_3) hb); have n1_ := Aside0.mk (Kd.R_lower ho41 (keep_size (w := w) (g := g) (row := none) (keep_to HK))); have n2_ := Aside0.mk (IsS75.below (IsS75.to HI0) hb); have n3_ := Aside0.mk (KeepBut.trans (keep_to HK) (KeepBut.of_below hb g none) (.inl rfl)); have n4_ := Aside0.mk (below_step (below_to1 HB (IsS75.ge HI0.out)) hb); clear HO_3; clear HI0; clear HK; clear HB; have HO_3 := n0_; have HO441 := n1_; have HI0 := n2_; have HK := n3_; have HB := n4_; clear n0_ n1_ n2_ n3_ n4_; clear hb ho41; obtain ⟨Ao42, co42, eo42⟩ := Kd.R_slice HO441.out; subst eo42) | ((with_reducible refine gate_callee (f := 66) rfl ?_); refine goesL_ (some 37) rfl rfl Tryz.func66 (by kernel_rfl) rfl #[.pointer (some ⟨g, 0, none⟩), .slice Ao42 y439.length co42] rfl am_ ?_; (with_reducible refine (spec_l1Cur_among.calls g s0_0 t437 t438 _ _ y439 t442 t443 t444 w0 _ ?side1 ?side2 ?side3 ?side4 ?side5 A36.out).mono ?_); (case side1 => exact IsS75.to HI0); (case side2 => exact below_to1 HB (IsS75.ge HI0.out)); (case side3 => exact cR_ HO441); (case side4 => exact (Kd.R_reads' HO441.out).2.1); (case side5 => exact far_slice (IsS75.own_ne HI0.out HO441.out (by decide))); rintro e w43 ⟨rfl, hi, hb, hk⟩; refine ⟨_, rfl, ?_⟩; replace HO_3 := Aside0.mk (Kd.R_mono (Kd.R_keep (IsS75.apart (IsS75.to HI0) (kd_to HO_3) (by decide)) hk (fun _ h => h.2)) (fun _ h => h.1)); replace HO441 := Aside0.mk (Kd.R_mono (Kd.R_keep (IsS75.apart (IsS75.to HI0) (kd_to HO441) (by decide)) hk (fun _ h => h.2)) (fun _ h => h.1)); replace HK := Aside0.mk (KeepBut.trans (keep_to HK) hk (.inl rfl)); replace HB := Aside0.mk (hb); replace HI0 := Aside0.mk (hi); clear hb hk hi) | ((with_reducible refine gate_builtin (b := .append) (xs := #[.tmp 34, .tmp 39]) rfl ?_); at_builtin; refine Kd.R_append k37 w.heap.size rfl (.tmp 34) (.tmp 39) 22 37 (.agg #[(.int .i64 0), (.int .i64 0)]) 16 rfl Tryz.underlying22 info37 rfl (by decide) (by omega) (.slice Ao38 x3_1.length co38) x3_1 (⟨7, t442⟩ : S37) [.int .i64 7, .int .i64 t442] (fun _ => True) (fun _ => False) rfl rfl ?aP (fun _ hk => hk.elim) ?aF ?aO (Below.refl _ _) ?aS ?aL ?_; (case aP => exact k37_mkM _ _ _ (⟨7, t442⟩ : S37)); (case aF => exact (fun _ _ => trivial)); (case aO => exact (kd_to HO_3)); (case aS => exact (keep_size (w := w) (g := g) (row := none) (keep_to HK))); (case aL => have := LMc37.out; omega); intro v446 w44 ho hb hg hat; rw [← Ny445.out] at ho; have n0_ := Aside0.mk (IsS75.grown (IsS75.to HI0) hg (IsS75.own_ne HI0.out HO_3.out (by decide))); have n1_ := Aside0.mk (Kd.R_over' (kd_to HO441) (Kd.R_typed (kd_to HO_3)) (by decide) hg); have n2_ := Aside0.mk (below_weaken (below_to1 HB (IsS75.ge HI0.out)) HL.out hb); have n3_ := Aside0.mk (KeepBut.trans (keep_to HK) (KeepBut.of_grown hg g) (Kd.R_base2 HO_3.out)); have n4_ := Aside0.mk (ho); clear HI0; clear HO441; clear HB; clear HK; clear HO_3; have HI0 := n0_; have HO441 := n1_; have HB := n2_; have HK := n3_; have HO447 := n4_; clear n0_ n1_ n2_ n3_ n4_; clear ho hb hg hat))
   go_roundg k1
   case measure => have := HK1.out; omega
   case rel => exact ⟨(y445), (t443), (t444), H', ⟨by have := HK1.out; omega⟩, ⟨kd_to HO447⟩, ⟨by repeat (first | (with_reducible first | exact HI0.out | apply IsS75.alloc | apply IsS75.drewN | apply IsS75.drew | apply IsS75.set_1 | apply IsS75.set_2) | exact HI0.out)⟩, ⟨keep_to HK⟩, ⟨below_to1 HB (IsS75.ge HI0.out)⟩⟩
  ·rw [if_neg c37] at H
   cases H
def spec_DrawAreLegs.i.f (k : Nat) (l0 : List Int) (s1_0 : List Int) (s1_1 : Int) (s1_2 : Int) : Option ((List (S37)) × Int × Int) := (spec_l1Cur_legs.f k s1_0 s1_1 s1_2).bind fun bt448 => (some (bt448.1, bt448.2.1, bt448.2.2))
def spec_DrawAreLegs.f (k : Nat) (l0 : List Int) : Option (List (S37)) := (spec_DrawAreLegs.i.f k l0 l0 0 0).bind fun b => some (b.1)
theorem spec_DrawAreLegs.calls (k : Nat) (A0 : Option Addr) (c0 : Nat) (l0 : List Int) (r1 : List (S37)) (wz_ : World) (hr0 : Kd.C (Kd.int .u8) wz_ A0 l0.length l0) (hc0 : l0.length ≤ c0) (h : spec_DrawAreLegs.f k l0 = some r1) :
  Calls Tryz.prog 63 #[.slice A0 l0.length c0] wz_ fun e w' => ∃ Aa : Value, e = .returned (Aa) ∧ Kd.R k37 37 w' wz_.heap.size (fun _ => True) Aa r1 ∧ Below wz_.heap.size wz_ w' := by
 obtain ⟨b_, hb0_, h⟩ := Option.bind_eq_some_iff.mp h
 obtain ⟨r1z_, r2, r3⟩ := b_
 simp only [Option.some.injEq] at h
 have hq0_ := h
 obtain rfl := hq0_.symm
 suffices hh_ : ∀ (w0 w : World) (g : Nat), w0 = wz_ → g = wz_.heap.size → w = wz_.alloc (.cells #[.slice A0 l0.length c0, .int .i64 0, .int .u64 0] 75 (0, 0)) → Calls Tryz.prog 63 #[.slice A0 l0.length c0] wz_ fun e w' => ∃ Aa : Value, e = .returned (Aa) ∧ Kd.R k37 37 w' w.heap.size (fun _ => True) Aa r1 ∧ IsS75 w0 w' g l0 r2 r3 ∧ Below w0.heap.size w0 w' ∧ KeepBut w w' g none by
  refine (hh_ wz_ _ _ rfl rfl rfl).mono ?_
  rintro e w' ⟨Aa, he_, hr0_, _, hb_, _⟩
  exact ⟨Aa, he_, Kd.R_lower hr0_ (by simp), hb_⟩
 intro w0 w g HW0_ HG_ HW_
 have hI : IsS75 w0 w g l0 0 0 := by rw [HG_, HW_, HW0_]; exact IsS75.new _ _ _ c0 _ _ _ (Below.refl _ _) hr0
 have hB : Below w0.heap.size w0 w := by rw [HW0_, HW_]; exact below_alloc (Below.refl _ _) _
 have hf0 : ∀ ad, A0 = some ad → 0 < l0.length → ad.block ≠ g := by
  intro ad hA_ hn_ he_
  obtain ⟨ad2_, e2_, hx_⟩ := Kd.at_int hr0 0 (by omega) (by omega)
  rw [hA_] at e2_
  injection e2_ with e2_
  subst e2_
  have hlt_ := World.block_lt_of_cell? wz_ _ hx_
  rw [add_block, he_, HG_] at hlt_
  omega
 have hr0' : Kd.C (Kd.int .u8) w A0 l0.length l0 := by rw [HW_]; exact Kd.C_alloc hr0 _
 clear hr0
 have hr0 := hr0'
 clear hr0'
 have HWZ := Aside0.mk HW_
 have HGZ := Aside0.mk HG_
 clear HW_ HG_ HW0_
 have h := hb0_
 clear hb0_
 have HR0 := Aside0.mk hr0
 have HC0 := Aside0.mk hc0
 clear hr0 hc0
 have HI1 := Aside0.mk hI
 have HK := Aside0.mk (KeepBut.refl w g none)
 have HL := Aside0.mk hB.size
 clear hI
 have HW0 := Aside0.mk hB.size
 have HB := Aside0.mk hB
 clear hB
 have H := h
 unfold spec_DrawAreLegs.f at H
 clear h
 replace H := Option.bind_eq_some_iff.mp H
 obtain ⟨⟨t448, t451, t452⟩, A30, H⟩ := H
 (try dsimp only at H)
 have A3 := Aside0.mk A30
 clear A30
 simp only [Option.some.injEq, Prod.mk.injEq] at H
 obtain ⟨rfl, rfl, rfl⟩ := H
 go_enter Tryz.func63, Tryz.ntmps63
 go_upto_region 2 with (fail)
 rw [← HWZ.out, ← HGZ.out]
 go_wp2_with (first | ((with_reducible refine gate_callee (f := 64) rfl ?_); refine goesL_ (some 8) rfl rfl Tryz.func64 (by kernel_rfl) rfl #[.pointer (some ⟨g, 0, none⟩)] rfl am_ ?_; (with_reducible refine (spec_l1Cur_legs.calls k g l0 0 0 t448 t451 t452 w0 _ ?side1 ?side2 A3.out).mono ?_); (case side1 => exact IsS75.to HI1); (case side2 => exact below_to1 HB (IsS75.ge HI1.out)); rintro e w4 ⟨v449, rfl, ho0, hi, hb, hk⟩; refine ⟨_, rfl, ?_⟩; have HO450 := Aside0.mk (Kd.R_lower ho0 (keep_size (w := w) (g := g) (row := none) (keep_to HK))); replace HK := Aside0.mk (KeepBut.trans (keep_to HK) hk (.inl rfl)); replace HB := Aside0.mk (hb); replace HI1 := Aside0.mk (hi); clear hb hk hi; (try clear ho0)))
 go_ret
 exact ⟨_, rtE_, kd_to HO450, by repeat (first | (with_reducible first | exact HI1.out | apply IsS75.alloc | apply IsS75.drewN | apply IsS75.drew | apply IsS75.set_1 | apply IsS75.set_2) | exact HI1.out), by repeat (first | (with_reducible first | exact HB.out | apply below_alloc | apply pw_below_drewN | apply below_drew1 | refine below_set ?_ (IsS75.ge HI1.out)) | exact HB.out), by repeat (first | (with_reducible first | exact HK.out | apply KeepBut.set_ | apply keep_drewN | apply keep_drew | apply keep_alloc) | exact HK.out)⟩
def spec_DrawTimesOfLegs.f (k : Nat) (l0 : List Int) : Option ((List (S37))) := (spec_DrawAreLegs.f k l0).bind fun t453 => (some t453)
theorem spec_DrawTimesOfLegs.calls (k : Nat) (A0 : Option Addr) (c0 : Nat) (l0 : List Int) (r : List (S37)) (w : World) (hr0 : Kd.C (Kd.int .u8) w A0 l0.length l0) (hc0 : l0.length ≤ c0) (h : spec_DrawTimesOfLegs.f k l0 = some r) :
  Calls Tryz.prog 33 #[.slice A0 l0.length c0] w fun e w' => ∃ Aa : Value, e = .returned (Aa) ∧ Kd.R k37 37 w' w.heap.size (fun _ => True) Aa r ∧ Below w.heap.size w w' := by
 have HR0 := Aside0.mk hr0
 have HC0 := Aside0.mk hc0
 clear hr0 hc0
 have HB := Aside0.mk (Below.refl w.heap.size w)
 have H := h
 unfold spec_DrawTimesOfLegs.f at H
 clear h
 replace H := Option.bind_eq_some_iff.mp H
 obtain ⟨t453, A20, H⟩ := H
 replace H : (some t453) = some r := H
 have A2 := Aside0.mk A20
 clear A20
 obtain rfl := Option.some.inj H
 go_enter Tryz.func33, Tryz.ntmps33
 go_wp2_with (first | ((with_reducible refine gate_callee (f := 63) rfl ?_); refine goesL_ (some 4) rfl rfl Tryz.func63 (by kernel_rfl) rfl #[.slice A0 l0.length c0] rfl am_ ?_; (with_reducible refine (spec_DrawAreLegs.calls k _ _ l0 t453 _ ?side1 ?side2 A2.out).mono ?_); (case side1 => exact c_to HR0); (case side2 => exact HC0.out); rintro e w3 ⟨v454, rfl, ho0, hb⟩; refine ⟨_, rfl, ?_⟩; have HO455 := Aside0.mk (Kd.R_lower ho0 (below_size (below_to HB))); replace HB := Aside0.mk (below_step (below_to HB) hb); clear hb; (try clear ho0)))
 go_ret
 exact ⟨_, rtE_, kd_to HO455, below_to HB⟩
def spec_l1Cur_one.f (s0_0 : List Int) (s0_1 : Int) (s0_2 : Int) (a1 : Int) : Option (Bool × Int × Int) := (spec_l1Cur_pick.f s0_0 s0_1 s0_2 a1).bind fun bt456 => (some ((bt456.1 == 0), bt456.2.1, bt456.2.2))
theorem spec_l1Cur_one.calls (g : Nat) (s0_0 : List Int) (s0_1 : Int) (s0_2 : Int) (a1 : Int) (r1 : Bool) (r2 : Int) (r3 : Int) (w0 w : World) (hI : IsS75 w0 w g s0_0 s0_1 s0_2) (hB : Below w0.heap.size w0 w) (h : spec_l1Cur_one.f s0_0 s0_1 s0_2 a1 = some (r1, r2, r3)) :
  Calls Tryz.prog 65 #[.pointer (some ⟨g, 0, none⟩), .int .i64 a1] w fun e w' => e = .returned (.bool r1) ∧ IsS75 w0 w' g s0_0 r2 r3 ∧ Below w0.heap.size w0 w' ∧ KeepBut w w' g none := by
 have HI0 := Aside0.mk hI
 have HK := Aside0.mk (KeepBut.refl w g none)
 have HL := Aside0.mk hB.size
 clear hI
 have HW0 := Aside0.mk hB.size
 have HB := Aside0.mk hB
 clear hB
 have H := h
 unfold spec_l1Cur_one.f at H
 clear h
 replace H := Option.bind_eq_some_iff.mp H
 obtain ⟨⟨t456, t457, t458⟩, A30, H⟩ := H
 (try dsimp only at H)
 have A3 := Aside0.mk A30
 clear A30
 simp only [Option.some.injEq, Prod.mk.injEq] at H
 obtain ⟨rfl, rfl, rfl⟩ := H
 go_enter Tryz.func65, Tryz.ntmps65
 go_wp2_with (first | ((with_reducible refine gate_callee (f := 67) rfl ?_); refine goesL_ (some 7) rfl rfl Tryz.func67 (by kernel_rfl) rfl #[.pointer (some ⟨g, 0, none⟩), .int .i64 a1] rfl am_ ?_; (with_reducible refine (spec_l1Cur_pick.calls g s0_0 s0_1 s0_2 a1 t456 t457 t458 w0 _ ?side1 ?side2 A3.out).mono ?_); (case side1 => exact IsS75.to HI0); (case side2 => exact below_to1 HB (IsS75.ge HI0.out)); rintro e w4 ⟨rfl, hi, hb, hk⟩; refine ⟨_, rfl, ?_⟩; replace HK := Aside0.mk (KeepBut.trans (keep_to HK) hk (.inl rfl)); replace HB := Aside0.mk (hb); replace HI0 := Aside0.mk (hi); clear hb hk hi))
 go_ret
 exact ⟨rtE_, by repeat (first | (with_reducible first | exact HI0.out | apply IsS75.alloc | apply IsS75.drewN | apply IsS75.drew | apply IsS75.set_1 | apply IsS75.set_2) | exact HI0.out), by repeat (first | (with_reducible first | exact HB.out | apply below_alloc | apply pw_below_drewN | apply below_drew1 | refine below_set ?_ (IsS75.ge HI0.out)) | exact HB.out), by repeat (first | (with_reducible first | exact HK.out | apply KeepBut.set_ | apply keep_drewN | apply keep_drew | apply keep_alloc) | exact HK.out)⟩
end Go.Proofs.YtbhnpccbjgbcbaaGreatDoor.QD
