-- WRITTEN BY a program of this session (wip/xprint.py, over the kit's print): Lean checks it.
import Derived.Test.YtnbmplhcbliclaaGreatDoorQTx0
import Derived.Test.YtnbmplhcbliclaaGreatDoorQTx2
import Derived.Test.YtnbmplhcbliclaaGreatDoorQTx4
import Derived.Test.YtnbmplhcbliclaaGreatDoorXParse
import Derived.Test.YtnbmplhcbliclaaGreatDoorXText
namespace Go.Proofs.YtnbmplhcbliclaaGreatDoor.QT
open Go.Proofs.YtnbmplhcbliclaaGreatDoor.X Go.RowKit Go.Proofs.YtnbmplhcbliclaaGreatDoorW.PrintWords Go.Proofs.YtnbmplhcbliclaaGreatDoorW.PrintLast Go.Proofs.YtnbmplhcbliclaaGreatDoorW.PrintMore
attribute [local go_sem] max2_int min2_int max_two min_two max_three min_three max_four min_four   -- for this text's walks alone
set_option linter.unusedVariables false
set_option linter.unusedSimpArgs false

/-! ### impl_ParseTrain: function 16 -/
def impl_ParseTrain.f (k : Nat) (a0 : ByteArray) : Option (Int × Int × Bool) := (impl_readNumbers.f k a0 (⟨#[47]⟩ : ByteArray)).bind fun bt248 => (if bt248.2 = true then (if (bt248.1.length : Int) = 2 then (if 0 < (bt248.1.length : Int) then (if 1 < (bt248.1.length : Int) then ((impl_IsTrain.f (rd bt248.1 0) (rd bt248.1 1)).bind fun t254 => (if t254 = true then (some (rd bt248.1 0, rd bt248.1 1, true)) else (some (0, 0, false)))) else (none)) else (none)) else (some (0, 0, false))) else (some (0, 0, false)))
def impl_ParseTrain.T2 : Bool × List (List Nat × List Nat) := (true, [([], []), ([0], [0]), ([1], [1]), ([2], [2]), ([3, 2], [2, 3]), ([4, 2], [2, 4]), ([2, 5], [2, 5]), ([6, 2], [6]), ([7], [7]), ([8, 7], [7, 8]), ([9, 7], [7, 9]), ([7], [7]), ([11, 7], [7, 11]), ([12, 7], [7, 12]), ([10, 13, 7], [7, 10, 13]), ([14, 7, 7], [7, 14]), ([15, 7], [7, 15]), ([7, 16], [7, 16])])
def impl_ParseTrain.B2 : List Nat := [0, 1, 3, 7, 15, 31, 63, 127, 255, 511, 1023, 255, 2303, 6399, 16383, 32767, 65535, 131071]
theorem impl_ParseTrain.tab2 : rtab .any (opsOf Tryz.f16 2) = impl_ParseTrain.T2 := by kernel_rfl
theorem impl_ParseTrain.bits2 : waitsOk impl_ParseTrain.T2.2 impl_ParseTrain.B2 = true := by kernel_rfl
def impl_ParseTrain.T4 : Bool × List (List Nat × List Nat) := (true, [([], []), ([0], [0]), ([1], [1]), ([], []), ([3], [3]), ([4], [4]), ([2, 5], [2, 5]), ([6, 0, 1, 2, 3, 4, 5, 6], [6]), ([7, 0, 1, 2, 3, 4, 5, 6, 7], [])])
def impl_ParseTrain.B4 : List Nat := [0, 1, 3, 0, 8, 24, 63, 127, 255]
theorem impl_ParseTrain.tab4 : rtab .any (opsOf Tryz.f16 4) = impl_ParseTrain.T4 := by kernel_rfl
theorem impl_ParseTrain.bits4 : waitsOk impl_ParseTrain.T4.2 impl_ParseTrain.B4 = true := by kernel_rfl
set_option maxHeartbeats 8000000 in
set_option maxRecDepth 100000 in
theorem impl_ParseTrain.calls (k : Nat) (a0 : ByteArray) (r1 : Int) (r2 : Int) (r3 : Bool) (w : World) (h : impl_ParseTrain.f k a0 = some (r1, r2, r3)) (hT_ : Go.Proofs.YtnbmplhcbliclaaGreatDoor.XText.T2 w) :
  Calls Tryz.prog 16 #[.string a0] w fun e w' => e = .returned (.tuple #[.agg #[.int .i64 r1, .int .i64 r2], .bool r3]) ∧ Below w.heap.size w w' := by
 have HTab_ := Aside0.mk hT_
 clear hT_
 have hu25 := Tryz.underlying25
 have HB := Aside0.mk (Below.refl w.heap.size w)
 have H : ((impl_readNumbers.f k a0 (⟨#[47]⟩ : ByteArray)).bind fun bt248 => (if bt248.2 = true then (if (bt248.1.length : Int) = 2 then (if 0 < (bt248.1.length : Int) then (if 1 < (bt248.1.length : Int) then ((impl_IsTrain.f (rd bt248.1 0) (rd bt248.1 1)).bind fun t254 => (if t254 = true then (some (rd bt248.1 0, rd bt248.1 1, true)) else (some (0, 0, false)))) else (none)) else (none)) else (some (0, 0, false))) else (some (0, 0, false)))) = some (r1, r2, r3) := h
 clear h
 replace H := Option.bind_eq_some_iff.mp H
 obtain ⟨⟨t248, t249⟩, A20, H⟩ := H
 replace H : (if t249 = true then (if (t248.length : Int) = 2 then (if 0 < (t248.length : Int) then (if 1 < (t248.length : Int) then ((impl_IsTrain.f (rd t248 0) (rd t248 1)).bind fun t254 => (if t254 = true then (some (rd t248 0, rd t248 1, true)) else (some (0, 0, false)))) else (none)) else (none)) else (some (0, 0, false))) else (some (0, 0, false))) = some (r1, r2, r3) := H
 have A2 := Aside0.mk A20
 clear A20
 by_cases c3 : t249 = true
 ·subst c3
  have H1 : (if (t248.length : Int) = 2 then (if 0 < (t248.length : Int) then (if 1 < (t248.length : Int) then ((impl_IsTrain.f (rd t248 0) (rd t248 1)).bind fun t254 => (if t254 = true then (some (rd t248 0, rd t248 1, true)) else (some (0, 0, false)))) else (none)) else (none)) else (some (0, 0, false))) = some (r1, r2, r3) := by rw [if_pos rfl] at H; exact H
  clear H
  have H := H1
  clear H1
  by_cases c4 : (t248.length : Int) = 2
  ·rw [if_pos c4] at H
   have c4b0 : ((t248.length : Int) == 2) = true := beq_iff_eq.mpr c4
   have c4b1 : ((t248.length : Int) != 2) = false := bne_eq_false_iff_eq.mpr c4
   clear c4
   by_cases c5 : 0 < (t248.length : Int)
   ·rw [if_pos c5] at H
    have c5b0 : decide (0 < (t248.length : Int)) = true := decide_eq_true c5
    have c5b1 : decide (0 < t248.length) = true := decide_eq_true (by omega)
    clear c5
    by_cases c6 : 1 < (t248.length : Int)
    ·rw [if_pos c6] at H
     have c6b0 : decide (1 < (t248.length : Int)) = true := decide_eq_true c6
     have c6b1 : decide (1 < t248.length) = true := decide_eq_true (by omega)
     clear c6
     replace H := Option.bind_eq_some_iff.mp H
     obtain ⟨t254, A70, H⟩ := H
     replace H : (if t254 = true then (some (rd t248 0, rd t248 1, true)) else (some (0, 0, false))) = some (r1, r2, r3) := H
     have A7 := Aside0.mk A70
     clear A70
     by_cases c8 : t254 = true
     ·subst c8
      have H1 : (some (rd t248 0, rd t248 1, true)) = some (r1, r2, r3) := by rw [if_pos rfl] at H; exact H
      clear H
      have H := H1
      clear H1
      simp only [Option.some.injEq, Prod.mk.injEq] at H
      obtain ⟨rfl, rfl, rfl⟩ := H
      go_enter Tryz.func16, Tryz.ntmps16
      try go_wp2_with (first | ((with_reducible refine gate_dst (N := 2) rfl ?_); (try (refine gate_guard (by rfl) ?_; dsimp only)); refine box_event ?hg (N := 2) ?hd (cs := #[.int .i64 0, .int .i64 0]) (t := 25) ?hr ?_; (case hd => rfl); (case hg => rfl); (case hr => first | (go_simp; done) | (go_simp; rfl)); intro gb247 hg w9 hbox hb; have n0_ := Aside0.mk (below_step (below_to HB) hb); have n1_ := Aside0.mk (hbox); have n2_ := Aside0.mk ((by rw [hg]; exact (below_size (below_to HB)) : w.heap.size ≤ gb247)); have n3_ := Aside0.mk ((by rw [hg]; exact (below_size (below_to HB)) : w.heap.size ≤ gb247)); clear HB; have HB := n0_; have BK247 := n1_; have GW247 := n2_; have GE247 := n3_; clear n0_ n1_ n2_ n3_; clear hb hbox hg) | ((with_reducible refine gate_callee (f := 45) rfl ?_); refine goesL_ (some 8) rfl rfl Tryz.func45 (by kernel_rfl) rfl #[.string a0, .string (⟨#[47]⟩ : ByteArray)] rfl am_ ?_; (with_reducible refine (impl_readNumbers.calls k a0 (⟨#[47]⟩ : ByteArray) t248 true _ A2.out ?sidet).mono ?_); (case sidet => refine Go.Proofs.YtnbmplhcbliclaaGreatDoor.XText.T2.on (w := w) HTab_.out ?_; repeat (first | (with_reducible first | exact HB.out | exact Below.refl _ _ | apply below_alloc | apply pw_below_drewN | apply below_drew1 | refine below_set ?_ GE247.out) | exact HB.out | exact Below.refl _ _)); rintro e w10 ⟨v250, rfl, ho0, hb⟩; refine ⟨_, rfl, ?_⟩; have HO251 := Aside0.mk (Kd.R_lower ho0 (below_size (below_to1 HB GE247.out))); replace BK247 := Aside0.mk (blk_below (blk_to BK247) hb); replace HB := Aside0.mk (below_step (below_to1 HB GE247.out) hb); clear hb; (try clear ho0)))
      have n0_ := Aside0.mk (Kd.R_drew HO251.out)
      have n1_ := Aside0.mk (blk_drew BK247.out)
      have n2_ := Aside0.mk (below_drew1 HB.out)
      clear HO251
      clear BK247
      clear HB
      have HO251 := n0_
      have BK247 := n1_
      have HB := n2_
      clear n0_ n1_ n2_
      obtain ⟨Ao12, co12, eo12⟩ := Kd.R_slice HO251.out
      (first | subst eo12 | (injection eo12 with f1_ f2_ f3_; have f4_ := f1_.symm; have f5_ := f3_.symm; clear f1_ f2_ f3_; subst f4_; subst f5_))
      have p252 : 0 ≤ (0 : Int) := (by omega)
      have q252 : 0 < (t248.length : Int) := of_decide_eq_true (by first | (with_reducible assumption) | assumption)
      obtain ⟨ad252, e252, hx252_0⟩ := Kd.at_int (Kd.R_reads' HO251.out).2.2 0 p252 q252
      cases e252
      have qi252 : (0 < t248.length) = True := eq_true (by omega)
      (try rw [show ((0 : Int)).toNat = 0 from rfl] at hx252_0)
      (try rw [Addr.add_zero'] at hx252_0)
      replace p252 := eq_true p252
      replace q252 := eq_true q252
      have p253 : 0 ≤ (1 : Int) := (by omega)
      have q253 : 1 < (t248.length : Int) := of_decide_eq_true (by first | (with_reducible assumption) | assumption)
      obtain ⟨ad253, e253, hx253_0⟩ := Kd.at_int (Kd.R_reads' HO251.out).2.2 1 p253 q253
      obtain rfl : ad252 = ad253 := (by injection e253)
      (try simp only [show (1 : Int).toNat = 1 from rfl, Nat.reduceMul, Nat.reduceEqDiff, Go.Addr.add, ↓reduceIte] at hx253_0)
      have qi253 : (1 < t248.length) = True := eq_true (by omega)
      (try rw [show ((1 : Int)).toNat = 1 from rfl] at hx253_0)
      replace p253 := eq_true p253
      replace q253 := eq_true q253
      refine start_ (n := 18) (S := fun w' => w'.cell? ad252 = some (.int .i64 (rd t248 0)) ∧ w'.cell? ⟨ad252.block, ad252.off + 1, none⟩ = some (.int .i64 (rd t248 1))) (ds := []) #[false, false, false, false, false, false, false, false, false, false, false, false, false, false, false, false, false, false] (by kernel_rfl) rfl rfl ⟨hx252_0, hx253_0⟩ (fun hHeld => ?_); refine with_tabW impl_ParseTrain.tab2 impl_ParseTrain.bits2 (fun HT_ HW_ => ?_)
      generalize w10.drew = w11 at HO251 BK247 HB hx252_0 hx253_0 hHeld ⊢
      refine purS_ (i := 0) (N := some 11) (fl_ 18 1) HT_.out ?_
      refine purS_ (i := 1) (N := some 12) (fl_ 18 2) HT_.out ?_
      refine purS_ (i := 2) (N := some 13) (fl_ 18 3) HT_.out ?_
      refine purS_ (i := 3) (N := some 14) (fl_ 18 4) HT_.out ?_
      refine purS_ (i := 4) (N := some 15) (fl_ 18 5) HT_.out ?_
      refine purS_ (i := 5) (N := some 16) (fl_ 18 6) HT_.out ?_
      refine purS_ (i := 6) (N := some 17) (fl_ 18 7) HT_.out ?_
      refine purS_ (i := 7) (N := some 18) (fl_ 18 8) HT_.out ?_
      refine purS_ (i := 8) (N := some 19) (fl_ 18 9) HT_.out ?_
      refine purS_ (i := 9) (N := some 20) (fl_ 18 10) HT_.out ?_
      refine purS_ (i := 11) (N := some 22) #[true, true, true, true, true, true, true, true, true, true, false, true, false, false, false, false, false, false] HT_.out ?_
      refine purS_ (i := 12) (N := some 23) #[true, true, true, true, true, true, true, true, true, true, false, true, true, false, false, false, false, false] HT_.out ?_
      refine take_ (i := 10) (N := some 21) (v := ?_) (a' := ?_) #[true, true, true, true, true, true, true, true, true, true, true, true, true, false, false, false, false, false] rfl rfl (take_ofW HT_.out HW_.out (by kernel_rfl)) (fun _ _ _ h => h) (Or.inl ⟨by rfl, ?_⟩) hHeld ?_ ?_
      rotate_left
      ·rintro w' ⟨s0, s1⟩
       go_simp
       with_reducible rfl
      rotate_left
      ·simp only [Act.put, List.setIfInBounds_toArray, List.set_cons_zero, List.set_cons_succ, i64_w, i32_w]
       rfl
      refine take_ (i := 13) (N := some 24) (v := ?_) (a' := ?_) #[true, true, true, true, true, true, true, true, true, true, true, true, true, true, false, false, false, false] rfl rfl (take_ofW HT_.out HW_.out (by kernel_rfl)) (fun _ _ _ h => h) (Or.inl ⟨by rfl, ?_⟩) hHeld ?_ ?_
      rotate_left
      ·rintro w' ⟨s0, s1⟩
       go_simp
       with_reducible rfl
      rotate_left
      ·simp only [Act.put, List.setIfInBounds_toArray, List.set_cons_zero, List.set_cons_succ, i64_w, i32_w]
       rfl
      refine purS_ (i := 14) (N := some 25) (fl_ 18 15) HT_.out ?_
      refine one_ (i := 15) (N := some 26) #[true, true, true, true, true, true, true, true, true, true, true, true, true, true, true, true, false, false] rfl rfl (one_of HT_.out (by kernel_rfl)) (by decide) (fun K hK => ?_)
      refine goes_ Tryz.func14 (by kernel_rfl) rfl #[.agg #[.int .i64 (rd t248 0), .int .i64 (rd t248 1)]] (by rfl) rfl rfl am_ ?_
      with_reducible refine (impl_IsTrain.calls (rd t248 0) (rd t248 1) true _ A7.out).mono ?_
      rintro e w13 ⟨rfl, hb⟩
      have HS0_ := (hb.cell (World.block_lt_of_cell? _ _ (hHeld.1))).trans (hHeld.1)
      have HS1_ := (hb.cell (World.block_lt_of_cell? _ _ (hHeld.2))).trans (hHeld.2)
      refine ⟨_, rfl, ?_⟩
      have n0_ := Aside0.mk (Kd.R_below (kd_to HO251) hb)
      have n1_ := Aside0.mk (blk_below (blk_to BK247) hb)
      have n2_ := Aside0.mk (below_step (below_to1 HB GE247.out) hb)
      clear HO251
      clear BK247
      clear HB
      have HO251 := n0_
      have BK247 := n1_
      have HB := n2_
      clear n0_ n1_ n2_
      (try clear hb)
      (try clear hb2)
      (try clear hk)
      (try clear hi)
      refine hK.out _ _ ⟨HS0_, HS1_⟩ (fun hHeld => ?_)
      clear hK K
      refine norm_ (a' := ?_) ?_ ?_
      rotate_left
      ·show Act.put _ (some 26) _ = _
       simp only [Act.put, List.setIfInBounds_toArray, List.set_cons_zero, List.set_cons_succ, i64_w, i32_w]
       rfl
      refine purS_ (i := 16) (N := some 27) (fl_ 18 17) HT_.out ?_
      refine purS_ (i := 17) (N := some 28) (fl_ 18 18) HT_.out ?_
      refine done_ (done_of HT_.out (by kernel_rfl)) ?_
      try go_wp2
      have n0_ := Aside0.mk (Kd.R_drew HO251.out)
      have n1_ := Aside0.mk (blk_drew BK247.out)
      have n2_ := Aside0.mk (below_drew1 HB.out)
      clear HO251
      clear BK247
      clear HB
      have HO251 := n0_
      have BK247 := n1_
      have HB := n2_
      clear n0_ n1_ n2_
      have p255 : 0 ≤ (0 : Int) := (by omega)
      have q255 : 0 < (t248.length : Int) := of_decide_eq_true (by first | (with_reducible assumption) | assumption)
      obtain ⟨ad255, e255, hx255_0⟩ := Kd.at_int (Kd.R_reads' HO251.out).2.2 0 p255 q255
      obtain rfl : ad252 = ad255 := (by injection e255)
      have qi255 : (0 < t248.length) = True := eq_true (by omega)
      (try rw [show ((0 : Int)).toNat = 0 from rfl] at hx255_0)
      (try rw [Addr.add_zero'] at hx255_0)
      replace p255 := eq_true p255
      replace q255 := eq_true q255
      have p256 : 0 ≤ (1 : Int) := (by omega)
      have q256 : 1 < (t248.length : Int) := of_decide_eq_true (by first | (with_reducible assumption) | assumption)
      obtain ⟨ad256, e256, hx256_0⟩ := Kd.at_int (Kd.R_reads' HO251.out).2.2 1 p256 q256
      obtain rfl : ad252 = ad256 := (by injection e256)
      (try simp only [show (1 : Int).toNat = 1 from rfl, Nat.reduceMul, Nat.reduceEqDiff, Go.Addr.add, ↓reduceIte] at hx256_0)
      have qi256 : (1 < t248.length) = True := eq_true (by omega)
      (try rw [show ((1 : Int)).toNat = 1 from rfl] at hx256_0)
      replace p256 := eq_true p256
      replace q256 := eq_true q256
      refine start_ (n := 9) (S := fun w' => w'.cell? ad252 = some (.int .i64 (rd t248 0)) ∧ w'.cell? ⟨ad252.block, ad252.off + 1, none⟩ = some (.int .i64 (rd t248 1))) (ds := []) #[false, false, false, false, false, false, false, false, false] (by kernel_rfl) rfl rfl ⟨hx255_0, hx256_0⟩ (fun hHeld => ?_); refine with_tabW impl_ParseTrain.tab4 impl_ParseTrain.bits4 (fun HT_ HW_ => ?_)
      generalize w13.drew = w14 at HO251 BK247 HB hx255_0 hx256_0 hHeld ⊢
      refine purS_ (i := 0) (N := some 30) (fl_ 9 1) HT_.out ?_
      refine purS_ (i := 1) (N := some 31) (fl_ 9 2) HT_.out ?_
      refine purS_ (i := 3) (N := some 33) #[true, true, false, true, false, false, false, false, false] HT_.out ?_
      refine purS_ (i := 4) (N := some 34) #[true, true, false, true, true, false, false, false, false] HT_.out ?_
      refine take_ (i := 2) (N := some 32) (v := ?_) (a' := ?_) #[true, true, true, true, true, false, false, false, false] rfl rfl (take_ofW HT_.out HW_.out (by kernel_rfl)) (fun _ _ _ h => h) (Or.inl ⟨by rfl, ?_⟩) hHeld ?_ ?_
      rotate_left
      ·rintro w' ⟨s0, s1⟩
       go_simp
       with_reducible rfl
      rotate_left
      ·simp only [Act.put, List.setIfInBounds_toArray, List.set_cons_zero, List.set_cons_succ, i64_w, i32_w]
       rfl
      refine take_ (i := 5) (N := some 35) (v := ?_) (a' := ?_) #[true, true, true, true, true, true, false, false, false] rfl rfl (take_ofW HT_.out HW_.out (by kernel_rfl)) (fun _ _ _ h => h) (Or.inl ⟨by rfl, ?_⟩) hHeld ?_ ?_
      rotate_left
      ·rintro w' ⟨s0, s1⟩
       go_simp
       with_reducible rfl
      rotate_left
      ·simp only [Act.put, List.setIfInBounds_toArray, List.set_cons_zero, List.set_cons_succ, i64_w, i32_w]
       rfl
      refine purS_ (i := 6) (N := some 36) (fl_ 9 7) HT_.out ?_
      refine one_ (i := 7) (N := none) #[true, true, true, true, true, true, true, true, false] rfl rfl (one_of HT_.out (by kernel_rfl)) (by decide) (fun K hK => ?_)
      have hs15 : w14.cell? ⟨gb247, 0, none⟩ = some (.int .i64 0) := (blk_cell BK247.out 0).trans rfl
      have hfs15 := blk_frozen BK247.out 0
      have hs16 : w14.cell? ⟨gb247, 1, none⟩ = some (.int .i64 0) := (blk_cell BK247.out 1).trans rfl
      have hfs16 := blk_frozen BK247.out 1
      refine skip_ (w1 := ?_) (by rfl) rfl ?_ ?_
      rotate_left
      ·go_simp
       rfl
      refine hK.out _ _ ⟨((cell_far (p := ⟨gb247, _, none⟩) (by first | exact Kd.own_blk (Kd.R_ne HO251.out BK247.out (by decide)) | (rw [add_block]; exact Kd.own_blk (Kd.R_ne HO251.out BK247.out (by decide))) | (show (Addr.add _ _).block ≠ _; rw [add_block]; exact Kd.own_blk (Kd.R_ne HO251.out BK247.out (by decide))) | (dsimp only; exact Kd.own_blk (Kd.R_ne HO251.out BK247.out (by decide)))) _).trans (((cell_far (p := ⟨gb247, _, none⟩) (by first | exact Kd.own_blk (Kd.R_ne HO251.out BK247.out (by decide)) | (rw [add_block]; exact Kd.own_blk (Kd.R_ne HO251.out BK247.out (by decide))) | (show (Addr.add _ _).block ≠ _; rw [add_block]; exact Kd.own_blk (Kd.R_ne HO251.out BK247.out (by decide))) | (dsimp only; exact Kd.own_blk (Kd.R_ne HO251.out BK247.out (by decide)))) _).trans (hHeld.1)))), ((cell_far (p := ⟨gb247, _, none⟩) (by first | exact Kd.own_blk (Kd.R_ne HO251.out BK247.out (by decide)) | (rw [add_block]; exact Kd.own_blk (Kd.R_ne HO251.out BK247.out (by decide))) | (show (Addr.add _ _).block ≠ _; rw [add_block]; exact Kd.own_blk (Kd.R_ne HO251.out BK247.out (by decide))) | (dsimp only; exact Kd.own_blk (Kd.R_ne HO251.out BK247.out (by decide)))) _).trans (((cell_far (p := ⟨gb247, _, none⟩) (by first | exact Kd.own_blk (Kd.R_ne HO251.out BK247.out (by decide)) | (rw [add_block]; exact Kd.own_blk (Kd.R_ne HO251.out BK247.out (by decide))) | (show (Addr.add _ _).block ≠ _; rw [add_block]; exact Kd.own_blk (Kd.R_ne HO251.out BK247.out (by decide))) | (dsimp only; exact Kd.own_blk (Kd.R_ne HO251.out BK247.out (by decide)))) _).trans (hHeld.2))))⟩ (fun hHeld => ?_)
      clear hK K
      refine purS_ (i := 8) (N := some 3) (fl_ 9 9) HT_.out ?_
      refine done_ (done_of HT_.out (by kernel_rfl)) ?_
      try go_wp2
      refine bodyPost_ret (results_ct rfl _ _ gb247 25 #[.int .i64 (rd t248 0), .int .i64 (rd t248 1)] (0, 0) _ rfl (by (with_reducible repeat (first | refine blk_drewN ?_ _ | refine blk_drew ?_ | refine blk_alloc ?_ _)); refine blk_put (cs := #[.int .i64 (rd t248 0), .int .i64 0]) ?_ 1 _ rfl; (with_reducible repeat (first | refine blk_drewN ?_ _ | refine blk_drew ?_ | refine blk_alloc ?_ _)); refine blk_put (cs := #[.int .i64 0, .int .i64 0]) ?_ 0 _ rfl; (with_reducible repeat (first | refine blk_drewN ?_ _ | refine blk_drew ?_ | refine blk_alloc ?_ _)); exact BK247.out) Tryz.underlying25 rfl (by kernel_rfl)) rfl ?_
      exact ⟨by first | rfl | (simp [errW_none, errW_some] <;> rfl) | (simp [*, errW_none, errW_some] <;> rfl), below_to1 HB GE247.out⟩
     ·replace c8 := Bool.eq_false_iff.mpr c8
      subst c8
      have H1 : (some (0, 0, false)) = some (r1, r2, r3) := by rw [if_neg (show ¬ (false = true) by decide)] at H; exact H
      clear H
      have H := H1
      clear H1
      simp only [Option.some.injEq, Prod.mk.injEq] at H
      obtain ⟨rfl, rfl, rfl⟩ := H
      go_enter Tryz.func16, Tryz.ntmps16
      try go_wp2_with (first | ((with_reducible refine gate_dst (N := 2) rfl ?_); (try (refine gate_guard (by rfl) ?_; dsimp only)); refine box_event ?hg (N := 2) ?hd (cs := #[.int .i64 0, .int .i64 0]) (t := 25) ?hr ?_; (case hd => rfl); (case hg => rfl); (case hr => first | (go_simp; done) | (go_simp; rfl)); intro gb247 hg w17 hbox hb; have n0_ := Aside0.mk (below_step (below_to HB) hb); have n1_ := Aside0.mk (hbox); have n2_ := Aside0.mk ((by rw [hg]; exact (below_size (below_to HB)) : w.heap.size ≤ gb247)); have n3_ := Aside0.mk ((by rw [hg]; exact (below_size (below_to HB)) : w.heap.size ≤ gb247)); clear HB; have HB := n0_; have BK247 := n1_; have GW247 := n2_; have GE247 := n3_; clear n0_ n1_ n2_ n3_; clear hb hbox hg) | ((with_reducible refine gate_callee (f := 45) rfl ?_); refine goesL_ (some 8) rfl rfl Tryz.func45 (by kernel_rfl) rfl #[.string a0, .string (⟨#[47]⟩ : ByteArray)] rfl am_ ?_; (with_reducible refine (impl_readNumbers.calls k a0 (⟨#[47]⟩ : ByteArray) t248 true _ A2.out ?sidet).mono ?_); (case sidet => refine Go.Proofs.YtnbmplhcbliclaaGreatDoor.XText.T2.on (w := w) HTab_.out ?_; repeat (first | (with_reducible first | exact HB.out | exact Below.refl _ _ | apply below_alloc | apply pw_below_drewN | apply below_drew1 | refine below_set ?_ GE247.out) | exact HB.out | exact Below.refl _ _)); rintro e w18 ⟨v250, rfl, ho0, hb⟩; refine ⟨_, rfl, ?_⟩; have HO251 := Aside0.mk (Kd.R_lower ho0 (below_size (below_to1 HB GE247.out))); replace BK247 := Aside0.mk (blk_below (blk_to BK247) hb); replace HB := Aside0.mk (below_step (below_to1 HB GE247.out) hb); clear hb; (try clear ho0)))
      have n0_ := Aside0.mk (Kd.R_drew HO251.out)
      have n1_ := Aside0.mk (blk_drew BK247.out)
      have n2_ := Aside0.mk (below_drew1 HB.out)
      clear HO251
      clear BK247
      clear HB
      have HO251 := n0_
      have BK247 := n1_
      have HB := n2_
      clear n0_ n1_ n2_
      obtain ⟨Ao20, co20, eo20⟩ := Kd.R_slice HO251.out
      (first | subst eo20 | (injection eo20 with f1_ f2_ f3_; have f4_ := f1_.symm; have f5_ := f3_.symm; clear f1_ f2_ f3_; subst f4_; subst f5_))
      have p252 : 0 ≤ (0 : Int) := (by omega)
      have q252 : 0 < (t248.length : Int) := of_decide_eq_true (by first | (with_reducible assumption) | assumption)
      obtain ⟨ad252, e252, hx252_0⟩ := Kd.at_int (Kd.R_reads' HO251.out).2.2 0 p252 q252
      cases e252
      have qi252 : (0 < t248.length) = True := eq_true (by omega)
      (try rw [show ((0 : Int)).toNat = 0 from rfl] at hx252_0)
      (try rw [Addr.add_zero'] at hx252_0)
      replace p252 := eq_true p252
      replace q252 := eq_true q252
      have p253 : 0 ≤ (1 : Int) := (by omega)
      have q253 : 1 < (t248.length : Int) := of_decide_eq_true (by first | (with_reducible assumption) | assumption)
      obtain ⟨ad253, e253, hx253_0⟩ := Kd.at_int (Kd.R_reads' HO251.out).2.2 1 p253 q253
      obtain rfl : ad252 = ad253 := (by injection e253)
      (try simp only [show (1 : Int).toNat = 1 from rfl, Nat.reduceMul, Nat.reduceEqDiff, Go.Addr.add, ↓reduceIte] at hx253_0)
      have qi253 : (1 < t248.length) = True := eq_true (by omega)
      (try rw [show ((1 : Int)).toNat = 1 from rfl] at hx253_0)
      replace p253 := eq_true p253
      replace q253 := eq_true q253
      refine start_ (n := 18) (S := fun w' => w'.cell? ad252 = some (.int .i64 (rd t248 0)) ∧ w'.cell? ⟨ad252.block, ad252.off + 1, none⟩ = some (.int .i64 (rd t248 1))) (ds := []) #[false, false, false, false, false, false, false, false, false, false, false, false, false, false, false, false, false, false] (by kernel_rfl) rfl rfl ⟨hx252_0, hx253_0⟩ (fun hHeld => ?_); refine with_tabW impl_ParseTrain.tab2 impl_ParseTrain.bits2 (fun HT_ HW_ => ?_)
      generalize w18.drew = w19 at HO251 BK247 HB hx252_0 hx253_0 hHeld ⊢
      refine purS_ (i := 0) (N := some 11) (fl_ 18 1) HT_.out ?_
      refine purS_ (i := 1) (N := some 12) (fl_ 18 2) HT_.out ?_
      refine purS_ (i := 2) (N := some 13) (fl_ 18 3) HT_.out ?_
      refine purS_ (i := 3) (N := some 14) (fl_ 18 4) HT_.out ?_
      refine purS_ (i := 4) (N := some 15) (fl_ 18 5) HT_.out ?_
      refine purS_ (i := 5) (N := some 16) (fl_ 18 6) HT_.out ?_
      refine purS_ (i := 6) (N := some 17) (fl_ 18 7) HT_.out ?_
      refine purS_ (i := 7) (N := some 18) (fl_ 18 8) HT_.out ?_
      refine purS_ (i := 8) (N := some 19) (fl_ 18 9) HT_.out ?_
      refine purS_ (i := 9) (N := some 20) (fl_ 18 10) HT_.out ?_
      refine purS_ (i := 11) (N := some 22) #[true, true, true, true, true, true, true, true, true, true, false, true, false, false, false, false, false, false] HT_.out ?_
      refine purS_ (i := 12) (N := some 23) #[true, true, true, true, true, true, true, true, true, true, false, true, true, false, false, false, false, false] HT_.out ?_
      refine take_ (i := 10) (N := some 21) (v := ?_) (a' := ?_) #[true, true, true, true, true, true, true, true, true, true, true, true, true, false, false, false, false, false] rfl rfl (take_ofW HT_.out HW_.out (by kernel_rfl)) (fun _ _ _ h => h) (Or.inl ⟨by rfl, ?_⟩) hHeld ?_ ?_
      rotate_left
      ·rintro w' ⟨s0, s1⟩
       go_simp
       with_reducible rfl
      rotate_left
      ·simp only [Act.put, List.setIfInBounds_toArray, List.set_cons_zero, List.set_cons_succ, i64_w, i32_w]
       rfl
      refine take_ (i := 13) (N := some 24) (v := ?_) (a' := ?_) #[true, true, true, true, true, true, true, true, true, true, true, true, true, true, false, false, false, false] rfl rfl (take_ofW HT_.out HW_.out (by kernel_rfl)) (fun _ _ _ h => h) (Or.inl ⟨by rfl, ?_⟩) hHeld ?_ ?_
      rotate_left
      ·rintro w' ⟨s0, s1⟩
       go_simp
       with_reducible rfl
      rotate_left
      ·simp only [Act.put, List.setIfInBounds_toArray, List.set_cons_zero, List.set_cons_succ, i64_w, i32_w]
       rfl
      refine purS_ (i := 14) (N := some 25) (fl_ 18 15) HT_.out ?_
      refine one_ (i := 15) (N := some 26) #[true, true, true, true, true, true, true, true, true, true, true, true, true, true, true, true, false, false] rfl rfl (one_of HT_.out (by kernel_rfl)) (by decide) (fun K hK => ?_)
      refine goes_ Tryz.func14 (by kernel_rfl) rfl #[.agg #[.int .i64 (rd t248 0), .int .i64 (rd t248 1)]] (by rfl) rfl rfl am_ ?_
      with_reducible refine (impl_IsTrain.calls (rd t248 0) (rd t248 1) false _ A7.out).mono ?_
      rintro e w21 ⟨rfl, hb⟩
      have HS0_ := (hb.cell (World.block_lt_of_cell? _ _ (hHeld.1))).trans (hHeld.1)
      have HS1_ := (hb.cell (World.block_lt_of_cell? _ _ (hHeld.2))).trans (hHeld.2)
      refine ⟨_, rfl, ?_⟩
      have n0_ := Aside0.mk (Kd.R_below (kd_to HO251) hb)
      have n1_ := Aside0.mk (blk_below (blk_to BK247) hb)
      have n2_ := Aside0.mk (below_step (below_to1 HB GE247.out) hb)
      clear HO251
      clear BK247
      clear HB
      have HO251 := n0_
      have BK247 := n1_
      have HB := n2_
      clear n0_ n1_ n2_
      (try clear hb)
      (try clear hb2)
      (try clear hk)
      (try clear hi)
      refine hK.out _ _ ⟨HS0_, HS1_⟩ (fun hHeld => ?_)
      clear hK K
      refine norm_ (a' := ?_) ?_ ?_
      rotate_left
      ·show Act.put _ (some 26) _ = _
       simp only [Act.put, List.setIfInBounds_toArray, List.set_cons_zero, List.set_cons_succ, i64_w, i32_w]
       rfl
      refine purS_ (i := 16) (N := some 27) (fl_ 18 17) HT_.out ?_
      refine purS_ (i := 17) (N := some 28) (fl_ 18 18) HT_.out ?_
      refine done_ (done_of HT_.out (by kernel_rfl)) ?_
      have hcz22_0 : w21.cell? ⟨gb247, 0, none⟩ = some (.int .i64 0) := (blk_cell BK247.out 0).trans rfl
      have hcz22_1 : w21.cell? ⟨gb247, 1, none⟩ = some (.int .i64 0) := (blk_cell BK247.out 1).trans rfl
      have hfz22_0 := blk_frozen BK247.out 0
      have hfz22_1 := blk_frozen BK247.out 1
      try go_wp2
      refine bodyPost_ret (results_ct rfl _ _ gb247 25 #[.int .i64 0, .int .i64 0] (0, 0) _ rfl (by (with_reducible repeat (first | refine blk_drewN ?_ _ | refine blk_drew ?_ | refine blk_alloc ?_ _)); refine blk_put (cs := #[.int .i64 0, .int .i64 0]) ?_ 1 _ rfl; (with_reducible repeat (first | refine blk_drewN ?_ _ | refine blk_drew ?_ | refine blk_alloc ?_ _)); refine blk_put (cs := #[.int .i64 0, .int .i64 0]) ?_ 0 _ rfl; (with_reducible repeat (first | refine blk_drewN ?_ _ | refine blk_drew ?_ | refine blk_alloc ?_ _)); exact BK247.out) Tryz.underlying25 rfl (by kernel_rfl)) rfl ?_
      exact ⟨by first | rfl | (simp [errW_none, errW_some] <;> rfl) | (simp [*, errW_none, errW_some] <;> rfl), below_to1 HB GE247.out⟩
    ·rw [if_neg c6] at H
     exact absurd H (by simp)
   ·rw [if_neg c5] at H
    exact absurd H (by simp)
  ·rw [if_neg c4] at H
   have c4b0 : ((t248.length : Int) == 2) = false := beq_eq_false_iff_ne.mpr c4
   have c4b1 : ((t248.length : Int) != 2) = true := bne_iff_ne.mpr c4
   simp only [Option.some.injEq, Prod.mk.injEq] at H
   obtain ⟨rfl, rfl, rfl⟩ := H
   go_enter Tryz.func16, Tryz.ntmps16
   try go_wp2_with (first | ((with_reducible refine gate_dst (N := 2) rfl ?_); (try (refine gate_guard (by rfl) ?_; dsimp only)); refine box_event ?hg (N := 2) ?hd (cs := #[.int .i64 0, .int .i64 0]) (t := 25) ?hr ?_; (case hd => rfl); (case hg => rfl); (case hr => first | (go_simp; done) | (go_simp; rfl)); intro gb247 hg w23 hbox hb; have n0_ := Aside0.mk (below_step (below_to HB) hb); have n1_ := Aside0.mk (hbox); have n2_ := Aside0.mk ((by rw [hg]; exact (below_size (below_to HB)) : w.heap.size ≤ gb247)); have n3_ := Aside0.mk ((by rw [hg]; exact (below_size (below_to HB)) : w.heap.size ≤ gb247)); clear HB; have HB := n0_; have BK247 := n1_; have GW247 := n2_; have GE247 := n3_; clear n0_ n1_ n2_ n3_; clear hb hbox hg) | ((with_reducible refine gate_callee (f := 45) rfl ?_); refine goesL_ (some 8) rfl rfl Tryz.func45 (by kernel_rfl) rfl #[.string a0, .string (⟨#[47]⟩ : ByteArray)] rfl am_ ?_; (with_reducible refine (impl_readNumbers.calls k a0 (⟨#[47]⟩ : ByteArray) t248 true _ A2.out ?sidet).mono ?_); (case sidet => refine Go.Proofs.YtnbmplhcbliclaaGreatDoor.XText.T2.on (w := w) HTab_.out ?_; repeat (first | (with_reducible first | exact HB.out | exact Below.refl _ _ | apply below_alloc | apply pw_below_drewN | apply below_drew1 | refine below_set ?_ GE247.out) | exact HB.out | exact Below.refl _ _)); rintro e w24 ⟨v250, rfl, ho0, hb⟩; refine ⟨_, rfl, ?_⟩; have HO251 := Aside0.mk (Kd.R_lower ho0 (below_size (below_to1 HB GE247.out))); replace BK247 := Aside0.mk (blk_below (blk_to BK247) hb); replace HB := Aside0.mk (below_step (below_to1 HB GE247.out) hb); clear hb; (try clear ho0)))
   have n0_ := Aside0.mk (Kd.R_drew HO251.out)
   have n1_ := Aside0.mk (blk_drew BK247.out)
   have n2_ := Aside0.mk (below_drew1 HB.out)
   clear HO251
   clear BK247
   clear HB
   have HO251 := n0_
   have BK247 := n1_
   have HB := n2_
   clear n0_ n1_ n2_
   obtain ⟨Ao26, co26, eo26⟩ := Kd.R_slice HO251.out
   (first | subst eo26 | (injection eo26 with f1_ f2_ f3_; have f4_ := f1_.symm; have f5_ := f3_.symm; clear f1_ f2_ f3_; subst f4_; subst f5_))
   refine start_ (n := 18) (S := fun w' => True) (ds := []) #[false, false, false, false, false, false, false, false, false, false, false, false, false, false, false, false, false, false] (by kernel_rfl) rfl rfl trivial (fun hHeld => ?_); refine with_tabW impl_ParseTrain.tab2 impl_ParseTrain.bits2 (fun HT_ HW_ => ?_)
   generalize w24.drew = w25 at HO251 BK247 HB hHeld ⊢
   refine purS_ (i := 0) (N := some 11) (fl_ 18 1) HT_.out ?_
   refine purS_ (i := 1) (N := some 12) (fl_ 18 2) HT_.out ?_
   refine purS_ (i := 2) (N := some 13) (fl_ 18 3) HT_.out ?_
   refine purS_ (i := 3) (N := some 14) (fl_ 18 4) HT_.out ?_
   refine purS_ (i := 4) (N := some 15) (fl_ 18 5) HT_.out ?_
   refine purS_ (i := 5) (N := some 16) (fl_ 18 6) HT_.out ?_
   refine purS_ (i := 6) (N := some 17) (fl_ 18 7) HT_.out ?_
   refine purS_ (i := 7) (N := some 18) (fl_ 18 8) HT_.out ?_
   refine pure_ (i := 8) (N := some 19) (v := undef) (a' := ?_) (fl_ 18 9) rfl rfl (any_of HT_.out (by kernel_rfl)) (fun _ _ _ h => h) (Or.inr ⟨by rfl, rfl⟩) ?_ ?_
   rotate_left
   ·simp only [Act.put, List.setIfInBounds_toArray, List.set_cons_zero, List.set_cons_succ, i64_w, i32_w]
    rfl
   refine pure_ (i := 9) (N := some 20) (v := undef) (a' := ?_) (fl_ 18 10) rfl rfl (any_of HT_.out (by kernel_rfl)) (fun _ _ _ h => h) (Or.inr ⟨by rfl, rfl⟩) ?_ ?_
   rotate_left
   ·simp only [Act.put, List.setIfInBounds_toArray, List.set_cons_zero, List.set_cons_succ, i64_w, i32_w]
    rfl
   refine pure_ (i := 10) (N := some 21) (v := undef) (a' := ?_) (fl_ 18 11) rfl rfl (any_of HT_.out (by kernel_rfl)) (fun _ _ _ h => h) (Or.inr ⟨by rfl, rfl⟩) ?_ ?_
   rotate_left
   ·simp only [Act.put, List.setIfInBounds_toArray, List.set_cons_zero, List.set_cons_succ, i64_w, i32_w]
    rfl
   refine pure_ (i := 11) (N := some 22) (v := undef) (a' := ?_) (fl_ 18 12) rfl rfl (any_of HT_.out (by kernel_rfl)) (fun _ _ _ h => h) (Or.inr ⟨by rfl, rfl⟩) ?_ ?_
   rotate_left
   ·simp only [Act.put, List.setIfInBounds_toArray, List.set_cons_zero, List.set_cons_succ, i64_w, i32_w]
    rfl
   refine pure_ (i := 12) (N := some 23) (v := undef) (a' := ?_) (fl_ 18 13) rfl rfl (any_of HT_.out (by kernel_rfl)) (fun _ _ _ h => h) (Or.inr ⟨by rfl, rfl⟩) ?_ ?_
   rotate_left
   ·simp only [Act.put, List.setIfInBounds_toArray, List.set_cons_zero, List.set_cons_succ, i64_w, i32_w]
    rfl
   refine pure_ (i := 13) (N := some 24) (v := undef) (a' := ?_) (fl_ 18 14) rfl rfl (any_of HT_.out (by kernel_rfl)) (fun _ _ _ h => h) (Or.inr ⟨by rfl, rfl⟩) ?_ ?_
   rotate_left
   ·simp only [Act.put, List.setIfInBounds_toArray, List.set_cons_zero, List.set_cons_succ, i64_w, i32_w]
    rfl
   refine pure_ (i := 14) (N := some 25) (v := undef) (a' := ?_) (fl_ 18 15) rfl rfl (any_of HT_.out (by kernel_rfl)) (fun _ _ _ h => h) (Or.inr ⟨by rfl, rfl⟩) ?_ ?_
   rotate_left
   ·simp only [Act.put, List.setIfInBounds_toArray, List.set_cons_zero, List.set_cons_succ, i64_w, i32_w]
    rfl
   refine pure_ (i := 15) (N := some 26) (v := undef) (a' := ?_) (fl_ 18 16) rfl rfl (any_of HT_.out (by kernel_rfl)) (fun _ _ _ h => h) (Or.inr ⟨by rfl, rfl⟩) ?_ ?_
   rotate_left
   ·simp only [Act.put, List.setIfInBounds_toArray, List.set_cons_zero, List.set_cons_succ, i64_w, i32_w]
    rfl
   refine pure_ (i := 16) (N := some 27) (v := undef) (a' := ?_) (fl_ 18 17) rfl rfl (any_of HT_.out (by kernel_rfl)) (fun _ _ _ h => h) (Or.inr ⟨by rfl, rfl⟩) ?_ ?_
   rotate_left
   ·simp only [Act.put, List.setIfInBounds_toArray, List.set_cons_zero, List.set_cons_succ, i64_w, i32_w]
    rfl
   refine purS_ (i := 17) (N := some 28) (fl_ 18 18) HT_.out ?_
   refine done_ (done_of HT_.out (by kernel_rfl)) ?_
   have hcz27_0 : w25.cell? ⟨gb247, 0, none⟩ = some (.int .i64 0) := (blk_cell BK247.out 0).trans rfl
   have hcz27_1 : w25.cell? ⟨gb247, 1, none⟩ = some (.int .i64 0) := (blk_cell BK247.out 1).trans rfl
   have hfz27_0 := blk_frozen BK247.out 0
   have hfz27_1 := blk_frozen BK247.out 1
   try go_wp2
   refine bodyPost_ret (results_ct rfl _ _ gb247 25 #[.int .i64 0, .int .i64 0] (0, 0) _ rfl (by (with_reducible repeat (first | refine blk_drewN ?_ _ | refine blk_drew ?_ | refine blk_alloc ?_ _)); refine blk_put (cs := #[.int .i64 0, .int .i64 0]) ?_ 1 _ rfl; (with_reducible repeat (first | refine blk_drewN ?_ _ | refine blk_drew ?_ | refine blk_alloc ?_ _)); refine blk_put (cs := #[.int .i64 0, .int .i64 0]) ?_ 0 _ rfl; (with_reducible repeat (first | refine blk_drewN ?_ _ | refine blk_drew ?_ | refine blk_alloc ?_ _)); exact BK247.out) Tryz.underlying25 rfl (by kernel_rfl)) rfl ?_
   exact ⟨by first | rfl | (simp [errW_none, errW_some] <;> rfl) | (simp [*, errW_none, errW_some] <;> rfl), below_to1 HB GE247.out⟩
 ·replace c3 := Bool.eq_false_iff.mpr c3
  subst c3
  have H1 : (some (0, 0, false)) = some (r1, r2, r3) := by rw [if_neg (show ¬ (false = true) by decide)] at H; exact H
  clear H
  have H := H1
  clear H1
  simp only [Option.some.injEq, Prod.mk.injEq] at H
  obtain ⟨rfl, rfl, rfl⟩ := H
  go_enter Tryz.func16, Tryz.ntmps16
  try go_wp2_with (first | ((with_reducible refine gate_dst (N := 2) rfl ?_); (try (refine gate_guard (by rfl) ?_; dsimp only)); refine box_event ?hg (N := 2) ?hd (cs := #[.int .i64 0, .int .i64 0]) (t := 25) ?hr ?_; (case hd => rfl); (case hg => rfl); (case hr => first | (go_simp; done) | (go_simp; rfl)); intro gb247 hg w28 hbox hb; have n0_ := Aside0.mk (below_step (below_to HB) hb); have n1_ := Aside0.mk (hbox); have n2_ := Aside0.mk ((by rw [hg]; exact (below_size (below_to HB)) : w.heap.size ≤ gb247)); have n3_ := Aside0.mk ((by rw [hg]; exact (below_size (below_to HB)) : w.heap.size ≤ gb247)); clear HB; have HB := n0_; have BK247 := n1_; have GW247 := n2_; have GE247 := n3_; clear n0_ n1_ n2_ n3_; clear hb hbox hg) | ((with_reducible refine gate_callee (f := 45) rfl ?_); refine goesL_ (some 8) rfl rfl Tryz.func45 (by kernel_rfl) rfl #[.string a0, .string (⟨#[47]⟩ : ByteArray)] rfl am_ ?_; (with_reducible refine (impl_readNumbers.calls k a0 (⟨#[47]⟩ : ByteArray) t248 false _ A2.out ?sidet).mono ?_); (case sidet => refine Go.Proofs.YtnbmplhcbliclaaGreatDoor.XText.T2.on (w := w) HTab_.out ?_; repeat (first | (with_reducible first | exact HB.out | exact Below.refl _ _ | apply below_alloc | apply pw_below_drewN | apply below_drew1 | refine below_set ?_ GE247.out) | exact HB.out | exact Below.refl _ _)); rintro e w29 ⟨v250, rfl, ho0, hb⟩; refine ⟨_, rfl, ?_⟩; have HO251 := Aside0.mk (Kd.R_lower ho0 (below_size (below_to1 HB GE247.out))); replace BK247 := Aside0.mk (blk_below (blk_to BK247) hb); replace HB := Aside0.mk (below_step (below_to1 HB GE247.out) hb); clear hb; (try clear ho0)))
  have n0_ := Aside0.mk (Kd.R_drew HO251.out)
  have n1_ := Aside0.mk (blk_drew BK247.out)
  have n2_ := Aside0.mk (below_drew1 HB.out)
  clear HO251
  clear BK247
  clear HB
  have HO251 := n0_
  have BK247 := n1_
  have HB := n2_
  clear n0_ n1_ n2_
  refine start_ (n := 18) (S := fun w' => True) (ds := []) #[false, false, false, false, false, false, false, false, false, false, false, false, false, false, false, false, false, false] (by kernel_rfl) rfl rfl trivial (fun hHeld => ?_); refine with_tabW impl_ParseTrain.tab2 impl_ParseTrain.bits2 (fun HT_ HW_ => ?_)
  generalize w29.drew = w30 at HO251 BK247 HB hHeld ⊢
  refine purS_ (i := 0) (N := some 11) (fl_ 18 1) HT_.out ?_
  refine purS_ (i := 1) (N := some 12) (fl_ 18 2) HT_.out ?_
  refine purS_ (i := 2) (N := some 13) (fl_ 18 3) HT_.out ?_
  refine pure_ (i := 3) (N := some 14) (v := undef) (a' := ?_) (fl_ 18 4) rfl rfl (any_of HT_.out (by kernel_rfl)) (fun _ _ _ h => h) (Or.inr ⟨by rfl, rfl⟩) ?_ ?_
  rotate_left
  ·simp only [Act.put, List.setIfInBounds_toArray, List.set_cons_zero, List.set_cons_succ, i64_w, i32_w]
   rfl
  refine pure_ (i := 4) (N := some 15) (v := undef) (a' := ?_) (fl_ 18 5) rfl rfl (any_of HT_.out (by kernel_rfl)) (fun _ _ _ h => h) (Or.inr ⟨by rfl, rfl⟩) ?_ ?_
  rotate_left
  ·simp only [Act.put, List.setIfInBounds_toArray, List.set_cons_zero, List.set_cons_succ, i64_w, i32_w]
   rfl
  refine pure_ (i := 5) (N := some 16) (v := undef) (a' := ?_) (fl_ 18 6) rfl rfl (any_of HT_.out (by kernel_rfl)) (fun _ _ _ h => h) (Or.inr ⟨by rfl, rfl⟩) ?_ ?_
  rotate_left
  ·simp only [Act.put, List.setIfInBounds_toArray, List.set_cons_zero, List.set_cons_succ, i64_w, i32_w]
   rfl
  refine purS_ (i := 6) (N := some 17) (fl_ 18 7) HT_.out ?_
  refine purS_ (i := 7) (N := some 18) (fl_ 18 8) HT_.out ?_
  refine pure_ (i := 8) (N := some 19) (v := undef) (a' := ?_) (fl_ 18 9) rfl rfl (any_of HT_.out (by kernel_rfl)) (fun _ _ _ h => h) (Or.inr ⟨by rfl, rfl⟩) ?_ ?_
  rotate_left
  ·simp only [Act.put, List.setIfInBounds_toArray, List.set_cons_zero, List.set_cons_succ, i64_w, i32_w]
   rfl
  refine pure_ (i := 9) (N := some 20) (v := undef) (a' := ?_) (fl_ 18 10) rfl rfl (any_of HT_.out (by kernel_rfl)) (fun _ _ _ h => h) (Or.inr ⟨by rfl, rfl⟩) ?_ ?_
  rotate_left
  ·simp only [Act.put, List.setIfInBounds_toArray, List.set_cons_zero, List.set_cons_succ, i64_w, i32_w]
   rfl
  refine pure_ (i := 10) (N := some 21) (v := undef) (a' := ?_) (fl_ 18 11) rfl rfl (any_of HT_.out (by kernel_rfl)) (fun _ _ _ h => h) (Or.inr ⟨by rfl, rfl⟩) ?_ ?_
  rotate_left
  ·simp only [Act.put, List.setIfInBounds_toArray, List.set_cons_zero, List.set_cons_succ, i64_w, i32_w]
   rfl
  refine pure_ (i := 11) (N := some 22) (v := undef) (a' := ?_) (fl_ 18 12) rfl rfl (any_of HT_.out (by kernel_rfl)) (fun _ _ _ h => h) (Or.inr ⟨by rfl, rfl⟩) ?_ ?_
  rotate_left
  ·simp only [Act.put, List.setIfInBounds_toArray, List.set_cons_zero, List.set_cons_succ, i64_w, i32_w]
   rfl
  refine pure_ (i := 12) (N := some 23) (v := undef) (a' := ?_) (fl_ 18 13) rfl rfl (any_of HT_.out (by kernel_rfl)) (fun _ _ _ h => h) (Or.inr ⟨by rfl, rfl⟩) ?_ ?_
  rotate_left
  ·simp only [Act.put, List.setIfInBounds_toArray, List.set_cons_zero, List.set_cons_succ, i64_w, i32_w]
   rfl
  refine pure_ (i := 13) (N := some 24) (v := undef) (a' := ?_) (fl_ 18 14) rfl rfl (any_of HT_.out (by kernel_rfl)) (fun _ _ _ h => h) (Or.inr ⟨by rfl, rfl⟩) ?_ ?_
  rotate_left
  ·simp only [Act.put, List.setIfInBounds_toArray, List.set_cons_zero, List.set_cons_succ, i64_w, i32_w]
   rfl
  refine pure_ (i := 14) (N := some 25) (v := undef) (a' := ?_) (fl_ 18 15) rfl rfl (any_of HT_.out (by kernel_rfl)) (fun _ _ _ h => h) (Or.inr ⟨by rfl, rfl⟩) ?_ ?_
  rotate_left
  ·simp only [Act.put, List.setIfInBounds_toArray, List.set_cons_zero, List.set_cons_succ, i64_w, i32_w]
   rfl
  refine pure_ (i := 15) (N := some 26) (v := undef) (a' := ?_) (fl_ 18 16) rfl rfl (any_of HT_.out (by kernel_rfl)) (fun _ _ _ h => h) (Or.inr ⟨by rfl, rfl⟩) ?_ ?_
  rotate_left
  ·simp only [Act.put, List.setIfInBounds_toArray, List.set_cons_zero, List.set_cons_succ, i64_w, i32_w]
   rfl
  refine pure_ (i := 16) (N := some 27) (v := undef) (a' := ?_) (fl_ 18 17) rfl rfl (any_of HT_.out (by kernel_rfl)) (fun _ _ _ h => h) (Or.inr ⟨by rfl, rfl⟩) ?_ ?_
  rotate_left
  ·simp only [Act.put, List.setIfInBounds_toArray, List.set_cons_zero, List.set_cons_succ, i64_w, i32_w]
   rfl
  refine purS_ (i := 17) (N := some 28) (fl_ 18 18) HT_.out ?_
  refine done_ (done_of HT_.out (by kernel_rfl)) ?_
  have hcz31_0 : w30.cell? ⟨gb247, 0, none⟩ = some (.int .i64 0) := (blk_cell BK247.out 0).trans rfl
  have hcz31_1 : w30.cell? ⟨gb247, 1, none⟩ = some (.int .i64 0) := (blk_cell BK247.out 1).trans rfl
  have hfz31_0 := blk_frozen BK247.out 0
  have hfz31_1 := blk_frozen BK247.out 1
  try go_wp2
  refine bodyPost_ret (results_ct rfl _ _ gb247 25 #[.int .i64 0, .int .i64 0] (0, 0) _ rfl (by (with_reducible repeat (first | refine blk_drewN ?_ _ | refine blk_drew ?_ | refine blk_alloc ?_ _)); refine blk_put (cs := #[.int .i64 0, .int .i64 0]) ?_ 1 _ rfl; (with_reducible repeat (first | refine blk_drewN ?_ _ | refine blk_drew ?_ | refine blk_alloc ?_ _)); refine blk_put (cs := #[.int .i64 0, .int .i64 0]) ?_ 0 _ rfl; (with_reducible repeat (first | refine blk_drewN ?_ _ | refine blk_drew ?_ | refine blk_alloc ?_ _)); exact BK247.out) Tryz.underlying25 rfl (by kernel_rfl)) rfl ?_
  exact ⟨by first | rfl | (simp [errW_none, errW_some] <;> rfl) | (simp [*, errW_none, errW_some] <;> rfl), below_to1 HB GE247.out⟩

end Go.Proofs.YtnbmplhcbliclaaGreatDoor.QT
