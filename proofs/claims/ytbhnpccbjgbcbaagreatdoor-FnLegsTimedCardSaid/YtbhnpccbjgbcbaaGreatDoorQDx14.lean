import Derived.Test.YtbhnpccbjgbcbaaGreatDoorQDx6
import Derived.Test.YtbhnpccbjgbcbaaGreatDoorQDx13
namespace Go.Proofs.YtbhnpccbjgbcbaaGreatDoor.QD
open Go.Proofs.YtbhnpccbjgbcbaaGreatDoor.X Go.RowKit Go.Proofs.YtbhnpccbjgbcbaaGreatDoorW.PrintWords Go.Proofs.YtbhnpccbjgbcbaaGreatDoorW.PrintLast Go.Proofs.YtbhnpccbjgbcbaaGreatDoorW.PrintMore
attribute [local go_sem] max2_int min2_int max_two min_two max_three min_three max_four min_four
set_option linter.unusedVariables false
set_option linter.unusedSimpArgs false
def spec_DrawParseLegs.i.f (k : Nat) (l0 : List Int) (s1_0 : List Int) (s1_1 : Int) (s1_2 : Int) : Option (ByteArray × Int × Int) := (spec_l1Cur_sureLegs.f k s1_0 s1_1 s1_2).bind fun bt560 => ((spec_reText.f k bt560.1).bind fun t565 => ((spec_l1Cur_one.f s1_0 bt560.2.1 bt560.2.2 3).bind fun bt566 => (if bt566.1 = true then ((spec_l1Cur_spoilt.f k s1_0 bt566.2.1 bt566.2.2 t565 (⟨#[48, 49, 50, 51, 47, 43, 120]⟩ : ByteArray)).bind fun bt569 => (some (bt569.1, bt569.2.1, bt569.2.2))) else (some (t565, bt566.2.1, bt566.2.2)))))
def spec_DrawParseLegs.f (k : Nat) (l0 : List Int) : Option (ByteArray) := (spec_DrawParseLegs.i.f k l0 l0 0 0).bind fun b => some (b.1)
set_option maxHeartbeats 8000000 in
set_option maxRecDepth 100000 in
theorem spec_DrawParseLegs.calls (k : Nat) (A0 : Option Addr) (c0 : Nat) (l0 : List Int) (r1 : ByteArray) (wz_ : World) (hr0 : Kd.C (Kd.int .u8) wz_ A0 l0.length l0) (hc0 : l0.length ≤ c0) (h : spec_DrawParseLegs.f k l0 = some r1) :
  Calls Tryz.prog 36 #[.slice A0 l0.length c0] wz_ fun e w' => e = .returned (.string r1) ∧ Below wz_.heap.size wz_ w' := by
 obtain ⟨b_, hb0_, h⟩ := Option.bind_eq_some_iff.mp h
 obtain ⟨r1z_, r2, r3⟩ := b_
 simp only [Option.some.injEq] at h
 have hq0_ := h
 obtain rfl := hq0_.symm
 suffices hh_ : ∀ (w0 w : World) (g : Nat), w0 = wz_ → g = wz_.heap.size → w = wz_.alloc (.cells #[.slice A0 l0.length c0, .int .i64 0, .int .u64 0] 75 (0, 0)) → Calls Tryz.prog 36 #[.slice A0 l0.length c0] wz_ fun e w' => e = .returned (.string r1) ∧ IsS75 w0 w' g l0 r2 r3 ∧ Below w0.heap.size w0 w' ∧ KeepBut w w' g none by
  refine (hh_ wz_ _ _ rfl rfl rfl).mono ?_
  rintro e w' ⟨he_, _, hb_, _⟩
  exact ⟨he_, hb_⟩
 intro w0 w g HW0_ HG_ HW_
 have hI : IsS75 w0 w g l0 0 0 := by rw [HG_, HW_, HW0_]; exact IsS75.new _ _ _ c0 _ _ _ (Below.refl _ _) hr0
 have hB : Below w0.heap.size w0 w := by rw [HW0_, HW_]; exact below_alloc (Below.refl _ _) _
 have hf0 : ∀ ad, A0 = some ad → 0 < l0.length → ad.block ≠ g := by
  intro ad hA_ hn_ he_
  obtain ⟨ad2_, e2_, hx_⟩ := Kd.at_int hr0 0 (by omega) (by omega)
  rw [hA_] at e2_
  injection e2_ with e2_
  subst e2_
  have hlt_ := World.block_lt_of_cell? wz_ _ hx_
  rw [add_block, he_, HG_] at hlt_
  omega
 have hr0' : Kd.C (Kd.int .u8) w A0 l0.length l0 := by rw [HW_]; exact Kd.C_alloc hr0 _
 clear hr0
 have hr0 := hr0'
 clear hr0'
 have HWZ := Aside0.mk HW_
 have HGZ := Aside0.mk HG_
 clear HW_ HG_ HW0_
 have h := hb0_
 clear hb0_
 have HR0 := Aside0.mk hr0
 have HC0 := Aside0.mk hc0
 clear hr0 hc0
 have HI1 := Aside0.mk hI
 have HK := Aside0.mk (KeepBut.refl w g none)
 have HL := Aside0.mk hB.size
 clear hI
 have HW0 := Aside0.mk hB.size
 have HB := Aside0.mk hB
 clear hB
 have H := h
 unfold spec_DrawParseLegs.f at H
 clear h
 replace H := Option.bind_eq_some_iff.mp H
 obtain ⟨⟨t560, t563, t564⟩, A30, H⟩ := H
 (try dsimp only at H)
 have A3 := Aside0.mk A30
 clear A30
 replace H := Option.bind_eq_some_iff.mp H
 obtain ⟨t565, A40, H⟩ := H
 (try dsimp only at H)
 have A4 := Aside0.mk A40
 clear A40
 replace H := Option.bind_eq_some_iff.mp H
 obtain ⟨⟨t566, t567, t568⟩, A50, H⟩ := H
 (try dsimp only at H)
 have A5 := Aside0.mk A50
 clear A50
 by_cases c6 : t566 = true
 ·subst c6
  rw [if_pos rfl] at H
  replace H := Option.bind_eq_some_iff.mp H
  obtain ⟨⟨t569, t570, t571⟩, A70, H⟩ := H
  (try dsimp only at H)
  have A7 := Aside0.mk A70
  clear A70
  simp only [Option.some.injEq, Prod.mk.injEq] at H
  obtain ⟨rfl, rfl, rfl⟩ := H
  go_enter Tryz.func36, Tryz.ntmps36
  go_upto_region 2 with (fail)
  rw [← HWZ.out, ← HGZ.out]
  go_wp2_with (first | ((with_reducible refine gate_callee (f := 69) rfl ?_); refine goesL_ (some 9) rfl rfl Tryz.func69 (by kernel_rfl) rfl #[.pointer (some ⟨g, 0, none⟩)] rfl am_ ?_; (with_reducible refine (spec_l1Cur_sureLegs.calls k g l0 0 0 t560 t563 t564 w0 _ ?side1 ?side2 A3.out).mono ?_); (case side1 => exact IsS75.to HI1); (case side2 => exact below_to1 HB (IsS75.ge HI1.out)); rintro e w8 ⟨v561, rfl, ho0, hi, hb, hk⟩; refine ⟨_, rfl, ?_⟩; have HO562 := Aside0.mk (Kd.R_lower ho0 (keep_size (w := w) (g := g) (row := none) (keep_to HK))); replace HK := Aside0.mk (KeepBut.trans (keep_to HK) hk (.inl rfl)); replace HB := Aside0.mk (hb); replace HI1 := Aside0.mk (hi); clear hb hk hi; (try clear ho0); obtain ⟨Ao9, co9, eo9⟩ := Kd.R_slice HO562.out; subst eo9) | ((with_reducible refine gate_callee (f := 46) rfl ?_); refine goesL_ (some 10) rfl rfl Tryz.func46 (by kernel_rfl) rfl #[.slice Ao9 t560.length co9] rfl am_ ?_; (with_reducible refine (spec_reText.calls k _ _ t560 t565 _ ?side1 ?side2 A4.out).mono ?_); (case side1 => exact cR_ HO562); (case side2 => exact (Kd.R_reads' HO562.out).2.1); rintro e w10 ⟨rfl, hb⟩; refine ⟨_, rfl, ?_⟩; have n0_ := Aside0.mk (Kd.R_below (kd_to HO562) hb); have n1_ := Aside0.mk (IsS75.below (IsS75.to HI1) hb); have n2_ := Aside0.mk (KeepBut.trans (keep_to HK) (KeepBut.of_below hb g none) (.inl rfl)); have n3_ := Aside0.mk (below_step (below_to1 HB (IsS75.ge HI1.out)) hb); clear HO562; clear HI1; clear HK; clear HB; have HO562 := n0_; have HI1 := n1_; have HK := n2_; have HB := n3_; clear n0_ n1_ n2_ n3_; clear hb) | ((with_reducible refine gate_callee (f := 65) rfl ?_); refine goesL_ (some 12) rfl rfl Tryz.func65 (by kernel_rfl) rfl #[.pointer (some ⟨g, 0, none⟩), .int .i64 3] rfl am_ ?_; (with_reducible refine (spec_l1Cur_one.calls g l0 t563 t564 3 true t567 t568 w0 _ ?side1 ?side2 A5.out).mono ?_); (case side1 => exact IsS75.to HI1); (case side2 => exact below_to1 HB (IsS75.ge HI1.out)); rintro e w11 ⟨rfl, hi, hb, hk⟩; refine ⟨_, rfl, ?_⟩; replace HO562 := Aside0.mk (Kd.R_mono (Kd.R_keep (IsS75.apart (IsS75.to HI1) (kd_to HO562) (by decide)) hk (fun _ h => h.2)) (fun _ h => h.1)); replace HK := Aside0.mk (KeepBut.trans (keep_to HK) hk (.inl rfl)); replace HB := Aside0.mk (hb); replace HI1 := Aside0.mk (hi); clear hb hk hi) | ((with_reducible refine gate_callee (f := 70) rfl ?_); refine goesL_ (some 15) rfl rfl Tryz.func70 (by kernel_rfl) rfl #[.pointer (some ⟨g, 0, none⟩), .string t565, .string (⟨#[48, 49, 50, 51, 47, 43, 120]⟩ : ByteArray)] rfl am_ ?_; (with_reducible refine (spec_l1Cur_spoilt.calls k g l0 t567 t568 t565 (⟨#[48, 49, 50, 51, 47, 43, 120]⟩ : ByteArray) t569 t570 t571 w0 _ ?side1 ?side2 A7.out).mono ?_); (case side1 => exact IsS75.to HI1); (case side2 => exact below_to1 HB (IsS75.ge HI1.out)); rintro e w12 ⟨rfl, hi, hb, hk⟩; refine ⟨_, rfl, ?_⟩; replace HO562 := Aside0.mk (Kd.R_mono (Kd.R_keep (IsS75.apart (IsS75.to HI1) (kd_to HO562) (by decide)) hk (fun _ h => h.2)) (fun _ h => h.1)); replace HK := Aside0.mk (KeepBut.trans (keep_to HK) hk (.inl rfl)); replace HB := Aside0.mk (hb); replace HI1 := Aside0.mk (hi); clear hb hk hi))
  go_ret
  exact ⟨rtE_, by repeat (first | (with_reducible first | exact HI1.out | apply IsS75.alloc | apply IsS75.drewN | apply IsS75.drew | apply IsS75.set_1 | apply IsS75.set_2) | exact HI1.out), by repeat (first | (with_reducible first | exact HB.out | apply below_alloc | apply pw_below_drewN | apply below_drew1 | refine below_set ?_ (IsS75.ge HI1.out)) | exact HB.out), by repeat (first | (with_reducible first | exact HK.out | apply KeepBut.set_ | apply keep_drewN | apply keep_drew | apply keep_alloc) | exact HK.out)⟩
 ·replace c6 := Bool.eq_false_iff.mpr c6
  subst c6
  rw [if_neg ft_] at H
  simp only [Option.some.injEq, Prod.mk.injEq] at H
  obtain ⟨rfl, rfl, rfl⟩ := H
  go_enter Tryz.func36, Tryz.ntmps36
  go_upto_region 2 with (fail)
  rw [← HWZ.out, ← HGZ.out]
  go_wp2_with (first | ((with_reducible refine gate_callee (f := 69) rfl ?_); refine goesL_ (some 9) rfl rfl Tryz.func69 (by kernel_rfl) rfl #[.pointer (some ⟨g, 0, none⟩)] rfl am_ ?_; (with_reducible refine (spec_l1Cur_sureLegs.calls k g l0 0 0 t560 t563 t564 w0 _ ?side1 ?side2 A3.out).mono ?_); (case side1 => exact IsS75.to HI1); (case side2 => exact below_to1 HB (IsS75.ge HI1.out)); rintro e w13 ⟨v561, rfl, ho0, hi, hb, hk⟩; refine ⟨_, rfl, ?_⟩; have HO562 := Aside0.mk (Kd.R_lower ho0 (keep_size (w := w) (g := g) (row := none) (keep_to HK))); replace HK := Aside0.mk (KeepBut.trans (keep_to HK) hk (.inl rfl)); replace HB := Aside0.mk (hb); replace HI1 := Aside0.mk (hi); clear hb hk hi; (try clear ho0); obtain ⟨Ao14, co14, eo14⟩ := Kd.R_slice HO562.out; subst eo14) | ((with_reducible refine gate_callee (f := 46) rfl ?_); refine goesL_ (some 10) rfl rfl Tryz.func46 (by kernel_rfl) rfl #[.slice Ao14 t560.length co14] rfl am_ ?_; (with_reducible refine (spec_reText.calls k _ _ t560 t565 _ ?side1 ?side2 A4.out).mono ?_); (case side1 => exact cR_ HO562); (case side2 => exact (Kd.R_reads' HO562.out).2.1); rintro e w15 ⟨rfl, hb⟩; refine ⟨_, rfl, ?_⟩; have n0_ := Aside0.mk (Kd.R_below (kd_to HO562) hb); have n1_ := Aside0.mk (IsS75.below (IsS75.to HI1) hb); have n2_ := Aside0.mk (KeepBut.trans (keep_to HK) (KeepBut.of_below hb g none) (.inl rfl)); have n3_ := Aside0.mk (below_step (below_to1 HB (IsS75.ge HI1.out)) hb); clear HO562; clear HI1; clear HK; clear HB; have HO562 := n0_; have HI1 := n1_; have HK := n2_; have HB := n3_; clear n0_ n1_ n2_ n3_; clear hb) | ((with_reducible refine gate_callee (f := 65) rfl ?_); refine goesL_ (some 12) rfl rfl Tryz.func65 (by kernel_rfl) rfl #[.pointer (some ⟨g, 0, none⟩), .int .i64 3] rfl am_ ?_; (with_reducible refine (spec_l1Cur_one.calls g l0 t563 t564 3 false t567 t568 w0 _ ?side1 ?side2 A5.out).mono ?_); (case side1 => exact IsS75.to HI1); (case side2 => exact below_to1 HB (IsS75.ge HI1.out)); rintro e w16 ⟨rfl, hi, hb, hk⟩; refine ⟨_, rfl, ?_⟩; replace HO562 := Aside0.mk (Kd.R_mono (Kd.R_keep (IsS75.apart (IsS75.to HI1) (kd_to HO562) (by decide)) hk (fun _ h => h.2)) (fun _ h => h.1)); replace HK := Aside0.mk (KeepBut.trans (keep_to HK) hk (.inl rfl)); replace HB := Aside0.mk (hb); replace HI1 := Aside0.mk (hi); clear hb hk hi))
  go_ret
  exact ⟨rtE_, by repeat (first | (with_reducible first | exact HI1.out | apply IsS75.alloc | apply IsS75.drewN | apply IsS75.drew | apply IsS75.set_1 | apply IsS75.set_2) | exact HI1.out), by repeat (first | (with_reducible first | exact HB.out | apply below_alloc | apply pw_below_drewN | apply below_drew1 | refine below_set ?_ (IsS75.ge HI1.out)) | exact HB.out), by repeat (first | (with_reducible first | exact HK.out | apply KeepBut.set_ | apply keep_drewN | apply keep_drew | apply keep_alloc) | exact HK.out)⟩
end Go.Proofs.YtbhnpccbjgbcbaaGreatDoor.QD
