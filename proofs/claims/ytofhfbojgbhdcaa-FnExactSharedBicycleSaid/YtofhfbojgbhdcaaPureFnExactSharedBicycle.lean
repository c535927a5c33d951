/- The program's SharedBicycle returns what the reference's SharedBicycle returns, for all arguments. No conditions. -/
import Derived.Test.YtofhfbojgbhdcaaPFnExactSharedBicyclex2
import Derived.Test.YtofhfbojgbhdcaaPlain
set_option linter.unusedVariables false
set_option linter.unusedSimpArgs false
namespace Go.Proofs.Ytofhfbojgbhdcaa.Pure
open Go.RowKit Go.Proofs.Ytofhfbojgbhdcaa.PFnExactSharedBicycle Go.Proofs.YtofhfbojgbhdcaaW.PrintWords Go.Proofs.YtofhfbojgbhdcaaW.PrintLast Go.Proofs.YtofhfbojgbhdcaaW.PrintMore Go.Proofs.Ytofhfbojgbhdcaa.Plain
theorem in_eq (a b c : Int) : spec_l1In.f a b c = some (decide (b ≤ a ∧ a ≤ c)) := by
  unfold spec_l1In.f
  by_cases h : a ≥ b
  · rw [if_pos h]; congr 1; simp; omega
  · rw [if_neg h]; congr 1; simp; omega
theorem within_eq (a b c : Int) : impl_within.f a b c = some (decide (b ≤ a ∧ a ≤ c)) := by
  unfold impl_within.f
  by_cases h : a ≥ b
  · rw [if_pos h]; congr 1; simp; omega
  · rw [if_neg h]; congr 1; simp; omega
theorem divisorOf_ev : ∀ (n : Nat) (a b : Int), 0 ≤ a → 0 ≤ b → b.toNat ≤ n → Ev (fun k => impl_divisorOf.l0 k a b) (gg a b) := by
  intro n
  induction n with
  | zero =>
    intro a b ha hb hn
    obtain rfl : b = 0 := by omega
    refine Ev.step (fun k => by simp only [impl_divisorOf.l0]; rw [if_neg (by omega)]) ?_
    rw [gg_zero ha]; exact Ev.now a
  | succ n ih =>
    intro a b ha hb hn
    by_cases h : 0 < b
    · obtain ⟨g1, g2, g3⟩ := gg_step ha h
      refine Ev.step (fun k => by simp only [impl_divisorOf.l0]; rw [if_pos h, if_neg (by omega)]) ?_
      rw [← g1]; exact ih b (a.tmod b) hb g2 (by omega)
    · obtain rfl : b = 0 := by omega
      refine Ev.step (fun k => by simp only [impl_divisorOf.l0]; rw [if_neg (by omega)]) ?_
      rw [gg_zero ha]; exact Ev.now a
theorem absOf_eq {a : Int} (h1 : -4611686018427387904 ≤ a) (h2 : a ≤ 4611686018427387904) : impl_absOf.f a = some (if a < -a then -a else a) := by
  unfold impl_absOf.f mx
  have e : wrap64 (-a) = -a := by unfold wrap64; omega
  rw [e]
theorem tdiv_lo1 {n d : Int} (hd : 0 < d) (h1 : -4611686018427387904 ≤ n) (h2 : n ≤ 4611686018427387904) : wrap64 (Int.tdiv n (gg n d)) = (lo n d).1 := by
  rw [Int.tdiv_eq_ediv_of_dvd (gg_l n d)]
  have := lo_bd1 hd h1 h2
  show wrap64 (lo n d).1 = _
  unfold wrap64; omega
theorem tdiv_lo2 {n d : Int} (hd : 0 < d) (h2 : d ≤ 4611686018427387904) : wrap64 (Int.tdiv d (gg n d)) = (lo n d).2 := by
  rw [Int.tdiv_eq_ediv_of_dvd (gg_r n d)]
  have := lo_le2 n hd
  have := lo_pos n hd
  show wrap64 (lo n d).2 = _
  unfold wrap64; omega
theorem lowest_ev {n d : Int} (hd : 0 < d) (h1 : -4611686018427387904 ≤ n) (h2 : n ≤ 4611686018427387904) (h3 : d ≤ 4611686018427387904) : Ev (fun k => impl_lowest.f k n d) (lo n d) := by
  refine Ev.congr (fun k => by unfold impl_lowest.f impl_divisorOf.f; rw [if_neg (by omega), absOf_eq h1 h2, Option.bind_some]) ?_
  have hg := gg_pos (n := n) hd
  refine Ev.bind (divisorOf_ev _ d _ (Int.le_of_lt hd) (by split <;> omega) (Nat.le_refl _)) ?_
  have e : gg d (if n < -n then -n else n) = gg n d := by rw [gg_comm, gg_abs]
  rw [e]
  simp only [if_neg (show ¬ gg n d = 0 by omega), tdiv_lo1 hd h1 h2, tdiv_lo2 (n := n) hd h3]
  exact Ev.now _
theorem most_eq (a b : Int) : spec_l1Most.f a b = some (if a > b then a else b) := by
  unfold spec_l1Most.f; split <;> rfl
theorem l1Abs_eq {a : Int} (h1 : -4611686018427387904 ≤ a) (h2 : a ≤ 4611686018427387904) : spec_l1Abs.f a = some (if a < -a then -a else a) := by
  unfold spec_l1Abs.f
  rw [most_eq]
  have e : wrap64 (-a) = -a := by unfold wrap64; omega
  rw [e]
  simp only [Option.bind_some]
  congr 1
  split <;> split <;> omega
theorem meLow_l0_ev (p q : Int) : ∀ (n : Nat) (a b : Int), 0 ≤ a → 0 ≤ b → b.toNat ≤ n → 0 < gg a b → Ev (fun k => spec_meLow.l0 k p q a b) (wrap64 (Int.tdiv p (gg a b)), wrap64 (Int.tdiv q (gg a b))) := by
  intro n
  induction n with
  | zero =>
    intro a b ha hb hn hg
    obtain rfl : b = 0 := by omega
    rw [gg_zero ha] at hg ⊢
    refine Ev.step (fun k => by simp only [spec_meLow.l0]; rw [if_neg (by omega), if_neg (by omega)]) ?_
    exact Ev.now _
  | succ n ih =>
    intro a b ha hb hn hg
    by_cases h : 0 < b
    · obtain ⟨g1, g2, g3⟩ := gg_step ha h
      refine Ev.step (fun k => by simp only [spec_meLow.l0]; rw [if_pos h, if_neg (by omega)]) ?_
      rw [← g1] at hg ⊢; exact ih b (a.tmod b) hb g2 (by omega) hg
    · obtain rfl : b = 0 := by omega
      rw [gg_zero ha] at hg ⊢
      refine Ev.step (fun k => by simp only [spec_meLow.l0]; rw [if_neg (by omega), if_neg (by omega)]) ?_
      exact Ev.now _
theorem meLow_ev {n d : Int} (hd : 0 < d) (h1 : -4611686018427387904 ≤ n) (h2 : n ≤ 4611686018427387904) (h3 : d ≤ 4611686018427387904) : Ev (fun k => spec_meLow.f k n d) (lo n d) := by
  refine Ev.congr (fun k => by unfold spec_meLow.f; rw [if_neg (by omega)]) ?_
  refine Ev.step (fun k => by simp only [spec_meLow.j0]; rw [l1Abs_eq h1 h2, Option.bind_some]) ?_
  have hg := gg_pos (n := n) hd
  have e := gg_abs n d
  have h := meLow_l0_ev n d _ (if n < -n then -n else n) d (by split <;> omega) (Int.le_of_lt hd) (Nat.le_refl _) (by rw [e]; exact hg)
  rw [e, tdiv_lo1 hd h1 h2, tdiv_lo2 (n := n) hd h3] at h
  exact h
/-- What the numbers of a shared ride come to. -/
structure Ride (L a b w : Int) : Prop where
  p0 : wrap64 (L * b) = L * b
  p1 : wrap64 (w - a) = w - a
  p2 : wrap64 (w - b) = w - b
  p3 : wrap64 (L * b * (w - a)) = L * b * (w - a)
  q1 : wrap64 (a * (w - b)) = a * (w - b)
  q2 : wrap64 (b * (w - a)) = b * (w - a)
  q3 : wrap64 (a * (w - b) + b * (w - a)) = a * (w - b) + b * (w - a)
  r1 : wrap64 (w * b) = w * b
  r2 : wrap64 (w * a) = w * a
  r3 : wrap64 (w * b + w * a) = w * b + w * a
  r4 : wrap64 (2 * a) = 2 * a
  r5 : wrap64 (2 * a * b) = 2 * a * b
  r6 : w * b + w * a - 2 * a * b = a * (w - b) + b * (w - a)
  s1 : wrap64 (L * b * (w - a) * a) = L * b * (w - a) * a
  s2 : wrap64 (L * (a * (w - b) + b * (w - a))) = L * (a * (w - b) + b * (w - a))
  s3 : wrap64 (L * (a * (w - b) + b * (w - a)) - L * b * (w - a)) = L * (a * (w - b) + b * (w - a)) - L * b * (w - a)
  s4 : wrap64 ((L * (a * (w - b) + b * (w - a)) - L * b * (w - a)) * w) = (L * (a * (w - b) + b * (w - a)) - L * b * (w - a)) * w
  s5 : wrap64 (L * b * (w - a) * a + (L * (a * (w - b) + b * (w - a)) - L * b * (w - a)) * w) = L * b * (w - a) * a + (L * (a * (w - b) + b * (w - a)) - L * b * (w - a)) * w
  t1 : wrap64 ((a * (w - b) + b * (w - a)) * a) = (a * (w - b) + b * (w - a)) * a
  t2 : wrap64 ((a * (w - b) + b * (w - a)) * a * w) = (a * (w - b) + b * (w - a)) * a * w
  t3 : wrap64 ((a * (w - b) + b * (w - a)) * w) = (a * (w - b) + b * (w - a)) * w
  t4 : (a * (w - b) + b * (w - a)) * w * a = (a * (w - b) + b * (w - a)) * a * w
  u1 : 0 ≤ L * b * (w - a) ∧ L * b * (w - a) ≤ 100000 * 100
  u2 : 0 < a * (w - b) + b * (w - a) ∧ a * (w - b) + b * (w - a) ≤ 20000
  u3 : -4611686018427387904 ≤ L * b * (w - a) * a + (L * (a * (w - b) + b * (w - a)) - L * b * (w - a)) * w ∧ L * b * (w - a) * a + (L * (a * (w - b) + b * (w - a)) - L * b * (w - a)) * w ≤ 4611686018427387904
  u4 : 0 < (a * (w - b) + b * (w - a)) * a * w ∧ (a * (w - b) + b * (w - a)) * a * w ≤ 4611686018427387904
theorem w64 {x : Int} (h1 : -9223372036854775808 ≤ x) (h2 : x ≤ 9223372036854775807) : wrap64 x = x := by unfold wrap64; omega
theorem ride {L a b w : Int} (hL : 1 ≤ L ∧ L ≤ 1000) (hw : w ≤ 100) (ha : 1 ≤ a ∧ a < w) (hb : 1 ≤ b ∧ b < w) : Ride L a b w := by
  have p0 := mul_bd (A := 1000) (B := 100) (by omega : 0 ≤ L) (by omega) (by omega : 0 ≤ b) (by omega)
  have p3 := mul_bd (A := 100000) (B := 100) p0.1 (by omega) (by omega : 0 ≤ w - a) (by omega)
  have q1 := mul_bd (A := 100) (B := 100) (by omega : 0 ≤ a) (by omega) (by omega : 0 ≤ w - b) (by omega)
  have q2 := mul_bd (A := 100) (B := 100) (by omega : 0 ≤ b) (by omega) (by omega : 0 ≤ w - a) (by omega)
  have q1p := mul_pos (by omega : 0 < a) (by omega : 0 < w - b)
  have r1 := mul_bd (A := 100) (B := 100) (by omega : 0 ≤ w) (by omega) (by omega : 0 ≤ b) (by omega)
  have r2 := mul_bd (A := 100) (B := 100) (by omega : 0 ≤ w) (by omega) (by omega : 0 ≤ a) (by omega)
  have r5 := mul_bd (A := 200) (B := 100) (by omega : 0 ≤ 2 * a) (by omega) (by omega : 0 ≤ b) (by omega)
  have r6 : w * b + w * a - 2 * a * b = a * (w - b) + b * (w - a) := by grind
  have t4 : (a * (w - b) + b * (w - a)) * w * a = (a * (w - b) + b * (w - a)) * a * w := by grind
  have s1 := mul_bd (A := 100000 * 100) (B := 100) p3.1 p3.2 (by omega : 0 ≤ a) (by omega)
  have e1 : L * (a * (w - b) + b * (w - a)) - L * b * (w - a) = L * (a * (w - b)) := by grind
  have q1L := mul_bd (A := 1000) (B := 100 * 100) (by omega : 0 ≤ L) (by omega) q1.1 q1.2
  have s4 := mul_bd (A := 1000 * (100 * 100)) (B := 100) q1L.1 q1L.2 (by omega : 0 ≤ w) (by omega)
  have s2 := mul_bd (A := 1000) (B := 20000) (by omega : 0 ≤ L) (by omega) (by omega : 0 ≤ a * (w - b) + b * (w - a)) (by omega)
  have t1 := mul_bd (A := 20000) (B := 100) (by omega : 0 ≤ a * (w - b) + b * (w - a)) (by omega) (by omega : 0 ≤ a) (by omega)
  have t2 := mul_bd (A := 20000 * 100) (B := 100) t1.1 t1.2 (by omega : 0 ≤ w) (by omega)
  have t3 := mul_bd (A := 20000) (B := 100) (by omega : 0 ≤ a * (w - b) + b * (w - a)) (by omega) (by omega : 0 ≤ w) (by omega)
  have t1p := mul_pos (by omega : 0 < a * (w - b) + b * (w - a)) (by omega : 0 < a)
  have t2p := mul_pos t1p (by omega : 0 < w)
  rw [← e1] at q1L s4
  refine ⟨?_, ?_, ?_, ?_, ?_, ?_, ?_, ?_, ?_, ?_, ?_, ?_, r6, ?_, ?_, ?_, ?_, ?_, ?_, ?_, ?_, t4, p3, ⟨?_, ?_⟩, ⟨?_, ?_⟩, ⟨t2p, ?_⟩⟩
  all_goals first | (refine w64 ?_ ?_ <;> omega) | omega
/-- What both come to. -/
def rideR (L a b w : Int) : Int × Int × Int × Int × Bool :=
  if (1 ≤ L ∧ L ≤ 1000) ∧ w ≤ 100 ∧ (1 ≤ a ∧ a < w) ∧ (1 ≤ b ∧ b < w) then
    ((lo (L * b * (w - a)) (a * (w - b) + b * (w - a))).1, (lo (L * b * (w - a)) (a * (w - b) + b * (w - a))).2,
     (lo (L * b * (w - a) * a + (L * (a * (w - b) + b * (w - a)) - L * b * (w - a)) * w) ((a * (w - b) + b * (w - a)) * a * w)).1,
     (lo (L * b * (w - a) * a + (L * (a * (w - b) + b * (w - a)) - L * b * (w - a)) * w) ((a * (w - b) + b * (w - a)) * a * w)).2, true)
  else (0, 0, 0, 0, false)
theorem spec_ride_ev (L a b w : Int) : Ev (fun k => spec_RideAndWalk.f k L a b w) (rideR L a b w) := by
  by_cases h : (1 ≤ L ∧ L ≤ 1000) ∧ w ≤ 100 ∧ (1 ≤ a ∧ a < w) ∧ (1 ≤ b ∧ b < w)
  · obtain ⟨hL, hw, ha, hb⟩ := h
    have R := ride hL hw ha hb
    have e : rideR L a b w = _ := if_pos ⟨hL, hw, ha, hb⟩
    rw [e]
    have w1 : wrap64 (w - 1) = w - 1 := w64 (by omega) (by omega)
    refine Ev.congr (fun k => by unfold spec_RideAndWalk.f; simp only [in_eq, w1, Option.bind_some]; rw [if_pos (by simp; omega), if_pos (by simp; omega), if_pos (by simp; omega)]) ?_
    refine Ev.step (fun k => by simp only [spec_RideAndWalk.j0]; rw [if_neg (by simp; omega)]) ?_
    simp only [R.p0, R.p1, R.p2, R.p3, R.q1, R.q2, R.q3, R.s1, R.s2, R.s3, R.s4, R.s5, R.t1, R.t2]
    have u1 := R.u1
    have u2 := R.u2
    refine Ev.bind (meLow_ev R.u2.1 (by omega) (by omega) (by omega)) ?_
    refine Ev.bind (meLow_ev R.u4.1 R.u3.1 R.u3.2 R.u4.2) ?_
    exact Ev.now _
  · have e : rideR L a b w = _ := if_neg h
    rw [e]
    refine Ev.congr (f := fun k => spec_RideAndWalk.j0 k L a b w true) (fun k => ?_) (Ev.step (fun k => by simp only [spec_RideAndWalk.j0]; rw [if_pos trivial]) (Ev.now _))
    unfold spec_RideAndWalk.f
    simp only [in_eq, Option.bind_some, decide_eq_true_eq]
    by_cases h1 : 1 ≤ L ∧ L ≤ 1000
    · rw [if_pos h1]
      by_cases h2 : 1 ≤ w ∧ w ≤ 100
      · have w1 : wrap64 (w - 1) = w - 1 := w64 (by omega) (by omega)
        rw [if_pos h2, w1]
        by_cases h3 : 1 ≤ a ∧ a ≤ w - 1
        · rw [if_pos h3]
          have : decide (1 ≤ b ∧ b ≤ w - 1) = false := decide_eq_false (by omega)
          rw [this]; rfl
        · rw [if_neg h3]
      · rw [if_neg h2]
    · rw [if_neg h1]
theorem impl_ride_ev (L a b w : Int) : Ev (fun k => impl_RideAndWalk.f k L a b w) (rideR L a b w) := by
  by_cases h : (1 ≤ L ∧ L ≤ 1000) ∧ w ≤ 100 ∧ (1 ≤ a ∧ a < w) ∧ (1 ≤ b ∧ b < w)
  · obtain ⟨hL, hw, ha, hb⟩ := h
    have R := ride hL hw ha hb
    have e : rideR L a b w = _ := if_pos ⟨hL, hw, ha, hb⟩
    rw [e]
    refine Ev.congr (fun k => by unfold impl_RideAndWalk.f impl_isLong.f impl_isFast.f; simp only [within_eq, Option.bind_some]; rw [if_pos (by simp; omega), if_pos (by simp; omega), if_pos (by simp; omega), if_pos (by simp; omega), if_neg (by omega)]) ?_
    refine Ev.step (fun k => by simp only [impl_RideAndWalk.j0]; rw [if_neg (by simp; omega)]) ?_
    simp only [R.p0, R.p1, R.p3, R.r1, R.r2, R.r3, R.r4, R.r5, R.r6, R.q3, R.s1, R.s2, R.s3, R.s4, R.s5, R.t3, R.t4, R.t2]
    have u1 := R.u1
    have u2 := R.u2
    refine Ev.bind (lowest_ev R.u2.1 (by omega) (by omega) (by omega)) ?_
    refine Ev.bind (lowest_ev R.u4.1 R.u3.1 R.u3.2 R.u4.2) ?_
    exact Ev.now _
  · have e : rideR L a b w = _ := if_neg h
    rw [e]
    refine Ev.congr (f := fun k => impl_RideAndWalk.j0 k L a b w true) (fun k => ?_) (Ev.step (fun k => by simp only [impl_RideAndWalk.j0]; rw [if_pos trivial]) (Ev.now _))
    unfold impl_RideAndWalk.f impl_isLong.f impl_isFast.f
    simp only [within_eq, Option.bind_some, decide_eq_true_eq]
    by_cases h1 : 1 ≤ L ∧ L ≤ 1000
    · rw [if_pos h1]
      by_cases h2 : 1 ≤ a ∧ a ≤ 100
      · rw [if_pos h2]
        by_cases h3 : 1 ≤ b ∧ b ≤ 100
        · rw [if_pos h3]
          by_cases h4 : 1 ≤ w ∧ w ≤ 100
          · rw [if_pos h4]
            by_cases h5 : a ≥ w
            · rw [if_pos h5]
            · rw [if_neg h5]
              have : decide (b ≥ w) = true := decide_eq_true (by omega)
              rw [this]
          · rw [if_neg h4]
        · rw [if_neg h3]
      · rw [if_neg h2]
    · rw [if_neg h1]
theorem FnExactSharedBicycle : laws_FnExactSharedBicycle.Pure := by
  intro L a w _ _ _
  refine Ev.rounds (Ev.bind (g := fun k => spec_SharedBicycle.f k L a w) (a := rideR L a a w) (Ev.bind (spec_ride_ev L a a w) (Ev.now _)) (Ev.bind (g := fun k => impl_SharedBicycle.f k L a w) (a := rideR L a a w) (Ev.bind (impl_ride_ev L a a w) (Ev.now _)) ?_))
  simp only [if_true, bne_self_eq_false, Bool.false_eq_true, if_false]
  exact Ev.now true
end Go.Proofs.Ytofhfbojgbhdcaa.Pure
