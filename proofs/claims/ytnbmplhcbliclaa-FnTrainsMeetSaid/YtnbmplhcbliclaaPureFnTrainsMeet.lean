/- Fronts meet and overtake where both are, trains are met as often as they leave, sidings are filled with the shortest ones, and headways are enough, for all drawn inputs. No conditions. -/
import Derived.Test.YtnbmplhcbliclaaQPx9d
import Derived.Test.YtnbmplhcbliclaaPlain
set_option linter.unusedVariables false
set_option linter.unusedSimpArgs false
namespace Go.Proofs.Ytnbmplhcbliclaa.Pure
open Go.RowKit Go.Proofs.Ytnbmplhcbliclaa.QP Go.Proofs.YtnbmplhcbliclaaW.PrintWords Go.Proofs.YtnbmplhcbliclaaW.PrintLast Go.Proofs.YtnbmplhcbliclaaW.PrintMore Go.Proofs.Ytnbmplhcbliclaa.Plain
theorem wrap_mod (x : Int) : ∃ q : Int, wrap64 x = x + 18446744073709551616 * q := by
  refine ⟨-((x + 9223372036854775808) / 18446744073709551616), ?_⟩
  unfold wrap64
  omega
theorem wrap_shift (x q : Int) : wrap64 (x + 18446744073709551616 * q) = wrap64 x := by
  unfold wrap64
  omega
theorem wrap_add_l (a b : Int) : wrap64 (wrap64 a + b) = wrap64 (a + b) := by
  unfold wrap64
  omega
theorem wrap_add_r (a b : Int) : wrap64 (a + wrap64 b) = wrap64 (a + b) := by
  unfold wrap64
  omega
theorem wrap_sub_l (a b : Int) : wrap64 (wrap64 a - b) = wrap64 (a - b) := by
  unfold wrap64
  omega
theorem wrap_sub_r (a b : Int) : wrap64 (a - wrap64 b) = wrap64 (a - b) := by
  unfold wrap64
  omega
theorem wrap_mul_l (a b : Int) : wrap64 (wrap64 a * b) = wrap64 (a * b) := by
  obtain ⟨q, h⟩ := wrap_mod a
  rw [h, Int.add_mul, Int.mul_assoc]
  exact wrap_shift _ _
theorem wrap_mul_r (a b : Int) : wrap64 (a * wrap64 b) = wrap64 (a * b) := by
  rw [Int.mul_comm, wrap_mul_l, Int.mul_comm]
theorem wrap_neg (a : Int) : wrap64 (-wrap64 a) = wrap64 (-a) := by
  unfold wrap64
  omega
theorem w64 {x : Int} (h1 : -9223372036854775808 ≤ x) (h2 : x ≤ 9223372036854775807) : wrap64 x = x := by unfold wrap64; omega
theorem qLow_l0_ev : ∀ (n : Nat) (a b : Int), 0 ≤ a → 0 ≤ b → b.toNat ≤ n → Ev (fun k => laws_qLow.l0 k a b) (gg a b == 1) := by
  intro n
  induction n with
  | zero =>
    intro a b ha hb hn
    have e : b = 0 := by omega
    subst e
    refine Ev.step (fun k => by simp only [laws_qLow.l0]; rw [if_neg (by omega)]) ?_
    rw [gg_zero ha]
    exact Ev.now _
  | succ n ih =>
    intro a b ha hb hn
    by_cases e : b = 0
    · subst e
      refine Ev.step (fun k => by simp only [laws_qLow.l0]; rw [if_neg (by omega)]) ?_
      rw [gg_zero ha]
      exact Ev.now _
    · obtain ⟨g1, g2, g3⟩ := gg_step ha (show 0 < b by omega)
      refine Ev.step (fun k => by simp only [laws_qLow.l0]; rw [if_pos (by omega), if_neg e]) ?_
      rw [← g1]
      exact ih b (a.tmod b) (by omega) g2 (by omega)
/-- A fraction in lowest terms is told so. -/
theorem qLow_ev (a b : Int) (ha : 0 ≤ a) (hb : 1 ≤ b) (hg : gg a b = 1) : Ev (fun k => laws_qLow.f k a b) true := by
  unfold laws_qLow.f
  refine Ev.congr (fun k => by rw [if_neg (by omega)]) ?_
  refine Ev.step (f := fun k => laws_qLow.l0 k a b) (fun k => by simp only [laws_qLow.j0]; rw [if_neg (by simp; omega)]) ?_
  have h := qLow_l0_ev b.toNat a b ha (by omega) (Nat.le_refl _)
  rw [hg] at h
  exact h
theorem qLow_lo {n d : Int} (hd : 0 < d) (hn : 0 ≤ n) : Ev (fun k => laws_qLow.f k (lo n d).1 (lo n d).2) true :=
  qLow_ev _ _ (lo_nonneg hd hn) (lo_pos n hd) (lo_gcd n hd)
theorem qIs_lo {n d : Int} (hd : 0 < d) (hn : 0 ≤ n) : Ev (fun k => laws_qIs.f k (lo n d).1 (lo n d).2 n d) true := by
  unfold laws_qIs.f
  refine Ev.bind (qLow_lo hd hn) ?_
  simp only [if_true]
  rw [lo_cross n d, beq_self_eq_true]
  exact Ev.now _
theorem in_eq (a b c : Int) : spec_l1In.f a b c = some (decide (b ≤ a ∧ a ≤ c)) := by
  unfold spec_l1In.f
  by_cases h : a ≥ b
  · rw [if_pos h]; congr 1; simp; omega
  · rw [if_neg h]; congr 1; simp; omega
theorem within_eq (a b c : Int) : impl_within.f a b c = some (decide (b ≤ a ∧ a ≤ c)) := by
  unfold impl_within.f
  by_cases h : a ≥ b
  · rw [if_pos h]; congr 1; simp; omega
  · rw [if_neg h]; congr 1; simp; omega
def okTrain (x : S23) : Bool := decide (1 ≤ x.f0 ∧ x.f0 ≤ 1000) && decide (1 ≤ x.f1 ∧ x.f1 ≤ 100)
def goodTrains (l : List S23) (a : Int) : Bool := decide (1 ≤ (l.length : Int) ∧ (l.length : Int) ≤ 12) && (l.all okTrain && decide (0 ≤ a ∧ a ≤ 100000))
theorem okTrain_iff {x : S23} : okTrain x = true ↔ (1 ≤ x.f0 ∧ x.f0 ≤ 1000) ∧ (1 ≤ x.f1 ∧ x.f1 ≤ 100) := by
  unfold okTrain; rw [Bool.and_eq_true, decide_eq_true_iff, decide_eq_true_iff]
theorem tiGood_eq (x : S23) : spec_tiGood.f x.f0 x.f1 = some (okTrain x) := by
  unfold spec_tiGood.f okTrain
  simp only [in_eq, Option.bind_some]
  by_cases a : decide (1 ≤ x.f0 ∧ x.f0 ≤ 1000) = true
  · simp [a]
  · simp [a]
theorem isTrain_eq (x : S23) : impl_IsTrain.f x.f0 x.f1 = some (okTrain x) := by
  unfold impl_IsTrain.f impl_isRate.f okTrain
  simp only [within_eq, Option.bind_some]
  by_cases a : decide (1 ≤ x.f0 ∧ x.f0 ≤ 1000) = true
  · simp [a]
  · simp [a]
theorem tiList_l0_ev (l : List S23) (hl : l.length ≤ 12) : ∀ i : Int, 0 ≤ i → i ≤ l.length → Ev (fun k => spec_tiList.l0 k l l.length i) ((l.drop i.toNat).all okTrain) := by
  refine downI ?_ (fun i h0 h1 ih => ?_)
  · refine Ev.step (fun k => by simp only [spec_tiList.l0]; rw [if_neg (by omega)]) ?_
    rw [List.drop_of_length_le (by omega)]
    exact Ev.now _
  · rw [drop_get l z23 i h0 h1, List.all_cons]
    have st : ∀ k, spec_tiList.l0 (k + 1) l l.length i = if okTrain (rd_T23 l i) = true then spec_tiList.l0 k l l.length (i + 1) else some false := fun k => by
      simp only [spec_tiList.l0, tiGood_eq, Option.bind_some]; rw [if_pos h1, if_pos h0, if_pos h1, w64 (x := i + 1) (by omega) (by omega)]
    show Ev _ (okTrain (rd_T23 l i) && _)
    cases a : okTrain (rd_T23 l i)
    · exact Ev.step (fun k => by rw [st, a]; rfl) (Ev.now _)
    · exact Ev.step (fun k => by rw [st, a]; rfl) ih
theorem tiList_ev (l : List S23) (a : Int) : Ev (fun k => spec_tiList.f k l a) (goodTrains l a) := by
  unfold spec_tiList.f goodTrains spec_tiWay.f
  simp only [in_eq, Option.bind_some]
  by_cases h : 1 ≤ (l.length : Int) ∧ (l.length : Int) ≤ 12
  · simp only [h, and_self, decide_true, if_true, Bool.true_and]
    by_cases h2 : 0 ≤ a ∧ a ≤ 100000
    · simp only [h2, and_self, decide_true, Bool.and_true]
      refine Ev.step (fun k => by simp only [spec_tiList.j0]; rw [if_neg (by simp)]) ?_
      exact tiList_l0_ev l (by omega) 0 (by omega) (by omega)
    · simp only [h2, decide_false, Bool.and_false]
      exact Ev.step (fun k => by simp only [spec_tiList.j0]; rw [if_pos (by simp)]) (Ev.now _)
  · simp only [h, decide_false, Bool.false_and, Bool.false_eq_true, if_false]
    exact Ev.step (fun k => by simp only [spec_tiList.j0, if_true]) (Ev.now _)
theorem areTrains_1_eq (x : S23) : impl_areTrains_1.f x.f0 x.f1 = some (!okTrain x) := by
  unfold impl_areTrains_1.f
  rw [isTrain_eq, Option.bind_some]
theorem indexTrain_ev (l : List S23) (hl : l.length ≤ 12) : ∀ i : Int, 0 ≤ i → i ≤ l.length → ∃ r : Int, Ev (fun k => impl_Train_69.l0 k l l.length i) r ∧ decide (r ≥ 0) = !((l.drop i.toNat).all okTrain) := by
  refine downI ?_ (fun i h0 h1 ih => ?_)
  · refine ⟨-1, Ev.step (fun k => by simp only [impl_Train_69.l0]; rw [if_neg (by omega)]) (Ev.now _), ?_⟩
    rw [List.drop_of_length_le (by omega)]
    rfl
  · rw [drop_get l z23 i h0 h1, List.all_cons]
    have st : ∀ k, impl_Train_69.l0 (k + 1) l l.length i = if (!okTrain (rd_T23 l i)) = true then some i else impl_Train_69.l0 k l l.length (i + 1) := fun k => by
      simp only [impl_Train_69.l0, areTrains_1_eq, Option.bind_some]; rw [if_pos h1, if_pos h0, if_pos h1, w64 (x := i + 1) (by omega) (by omega)]
    show ∃ r : Int, _ ∧ _ = !(okTrain (rd_T23 l i) && _)
    cases a : okTrain (rd_T23 l i)
    · exact ⟨i, Ev.step (fun k => by rw [st, a]; rfl) (Ev.now i), by simp [h0]⟩
    · obtain ⟨r, h2, h3⟩ := ih
      exact ⟨r, Ev.step (fun k => by rw [st, a]; rfl) h2, by simpa using h3⟩
/-- Before the way is looked at. -/
def goodTr (l : List S23) : Bool := decide (1 ≤ (l.length : Int) ∧ (l.length : Int) ≤ 12) && l.all okTrain
theorem areTrains_ev (l : List S23) : Ev (fun k => impl_areTrains.f k l) (goodTr l) := by
  unfold impl_areTrains.f goodTr
  simp only [within_eq, Option.bind_some]
  by_cases h : 1 ≤ (l.length : Int) ∧ (l.length : Int) ≤ 12
  · simp only [h, and_self, decide_true, if_true, Bool.true_and]
    obtain ⟨r, h1, h2⟩ := indexTrain_ev l (by omega) 0 (by omega) (by omega)
    unfold impl_Train_58.f impl_Train_69.f
    refine Ev.bind (Ev.bind h1 (Ev.now _)) ?_
    rw [h2]
    simp only [Bool.not_not]
    exact Ev.now _
  · simp only [h, decide_false, Bool.false_and, Bool.false_eq_true, if_false]
    exact Ev.now _
theorem divisorOf_ev : ∀ (n : Nat) (a b : Int), 0 ≤ a → 0 ≤ b → b.toNat ≤ n → Ev (fun k => impl_divisorOf.l0 k a b) (gg a b) := by
  intro n
  induction n with
  | zero =>
    intro a b ha hb hn
    obtain rfl : b = 0 := by omega
    refine Ev.step (fun k => by simp only [impl_divisorOf.l0]; rw [if_neg (by omega)]) ?_
    rw [gg_zero ha]; exact Ev.now a
  | succ n ih =>
    intro a b ha hb hn
    by_cases h : 0 < b
    · obtain ⟨g1, g2, g3⟩ := gg_step ha h
      refine Ev.step (fun k => by simp only [impl_divisorOf.l0]; rw [if_pos h, if_neg (by omega)]) ?_
      rw [← g1]; exact ih b (a.tmod b) hb g2 (by omega)
    · obtain rfl : b = 0 := by omega
      refine Ev.step (fun k => by simp only [impl_divisorOf.l0]; rw [if_neg (by omega)]) ?_
      rw [gg_zero ha]; exact Ev.now a
theorem absOf_eq {a : Int} (h1 : -4611686018427387904 ≤ a) (h2 : a ≤ 4611686018427387904) : impl_absOf.f a = some (if a < -a then -a else a) := by
  unfold impl_absOf.f mx
  have e : wrap64 (-a) = -a := by unfold wrap64; omega
  rw [e]
theorem tdiv_lo1 {n d : Int} (hd : 0 < d) (h1 : -4611686018427387904 ≤ n) (h2 : n ≤ 4611686018427387904) : wrap64 (Int.tdiv n (gg n d)) = (lo n d).1 := by
  rw [Int.tdiv_eq_ediv_of_dvd (gg_l n d)]
  have := lo_bd1 hd h1 h2
  show wrap64 (lo n d).1 = _
  unfold wrap64; omega
theorem tdiv_lo2 {n d : Int} (hd : 0 < d) (h2 : d ≤ 4611686018427387904) : wrap64 (Int.tdiv d (gg n d)) = (lo n d).2 := by
  rw [Int.tdiv_eq_ediv_of_dvd (gg_r n d)]
  have := lo_le2 n hd
  have := lo_pos n hd
  show wrap64 (lo n d).2 = _
  unfold wrap64; omega
theorem lowest_ev {n d : Int} (hd : 0 < d) (h1 : -4611686018427387904 ≤ n) (h2 : n ≤ 4611686018427387904) (h3 : d ≤ 4611686018427387904) : Ev (fun k => impl_lowest.f k n d) (lo n d) := by
  refine Ev.congr (fun k => by unfold impl_lowest.f impl_divisorOf.f; rw [if_neg (by omega), absOf_eq h1 h2, Option.bind_some]) ?_
  have hg := gg_pos (n := n) hd
  refine Ev.bind (divisorOf_ev _ d _ (Int.le_of_lt hd) (by split <;> omega) (Nat.le_refl _)) ?_
  have e : gg d (if n < -n then -n else n) = gg n d := by rw [gg_comm, gg_abs]
  rw [e]
  simp only [if_neg (show ¬ gg n d = 0 by omega), tdiv_lo1 hd h1 h2, tdiv_lo2 (n := n) hd h3]
  exact Ev.now _
theorem trCommon_ev : ∀ (n : Nat) (a b : Int), 0 ≤ a → 0 ≤ b → b.toNat ≤ n → Ev (fun k => spec_trCommon.l0 k a b) (gg a b) := by
  intro n
  induction n with
  | zero =>
    intro a b ha hb hn
    obtain rfl : b = 0 := by omega
    refine Ev.step (fun k => by simp only [spec_trCommon.l0]; rw [if_neg (by omega)]) ?_
    rw [gg_zero ha]; exact Ev.now a
  | succ n ih =>
    intro a b ha hb hn
    by_cases h : 0 < b
    · obtain ⟨g1, g2, g3⟩ := gg_step ha h
      refine Ev.step (fun k => by simp only [spec_trCommon.l0]; rw [if_pos h, if_neg (by omega)]) ?_
      rw [← g1]; exact ih b (a.tmod b) hb g2 (by omega)
    · obtain rfl : b = 0 := by omega
      refine Ev.step (fun k => by simp only [spec_trCommon.l0]; rw [if_neg (by omega)]) ?_
      rw [gg_zero ha]; exact Ev.now a
theorem tiLow_ev {n d : Int} (hd : 0 < d) (h1 : 0 ≤ n) (h2 : n ≤ 4611686018427387904) (h3 : d ≤ 4611686018427387904) : Ev (fun k => spec_tiLow.f k n d) (lo n d) := by
  have hg := gg_pos (n := n) hd
  refine Ev.bind (g := fun k => spec_trCommon.f k n d) (trCommon_ev _ n d h1 (Int.le_of_lt hd) (Nat.le_refl _)) ?_
  simp only [if_neg (show ¬ gg n d = 0 by omega), tdiv_lo1 hd (by omega) h2, tdiv_lo2 (n := n) hd h3]
  exact Ev.now _
theorem fraction_ev {n d : Int} (hd : 0 < d) (h1 : -4611686018427387904 ≤ n) (h2 : n ≤ 4611686018427387904) (h3 : d ≤ 4611686018427387904) : Ev (fun k => impl_fraction.f k n d) ((lo n d).1, (lo n d).2, true) := by
  unfold impl_fraction.f
  simp only [if_neg (show ¬ d = 0 by omega)]
  exact Ev.bind (lowest_ev hd h1 h2 h3) (Ev.now _)
/-- Two trains and a way. -/
def okTwo (s0 s1 t0 t1 g : Int) : Prop := ((1 ≤ s0 ∧ s0 ≤ 1000) ∧ (1 ≤ s1 ∧ s1 ≤ 100)) ∧ ((1 ≤ t0 ∧ t0 ≤ 1000) ∧ (1 ≤ t1 ∧ t1 ≤ 100)) ∧ (0 ≤ g ∧ g ≤ 100000)
instance (s0 s1 t0 t1 g : Int) : Decidable (okTwo s0 s1 t0 t1 g) := by unfold okTwo; infer_instance
theorem isTrain_dec (a b : Int) : impl_IsTrain.f a b = some (decide ((1 ≤ a ∧ a ≤ 1000) ∧ (1 ≤ b ∧ b ≤ 100))) := by
  unfold impl_IsTrain.f impl_isRate.f
  simp only [within_eq, Option.bind_some]
  by_cases h : 1 ≤ a ∧ a ≤ 1000
  · simp [h]
  · simp [h]
theorem tiGood_dec (a b : Int) : spec_tiGood.f a b = some (decide ((1 ≤ a ∧ a ≤ 1000) ∧ (1 ≤ b ∧ b ≤ 100))) := by
  unfold spec_tiGood.f
  simp only [in_eq, Option.bind_some]
  by_cases h : 1 ≤ a ∧ a ≤ 1000
  · simp [h]
  · simp [h]
theorem tiTwo_dec (a b c d : Int) : spec_tiTwo.f a b c d = some (decide (((1 ≤ a ∧ a ≤ 1000) ∧ (1 ≤ b ∧ b ≤ 100)) ∧ ((1 ≤ c ∧ c ≤ 1000) ∧ (1 ≤ d ∧ d ≤ 100)))) := by
  unfold spec_tiTwo.f
  simp only [tiGood_dec, Option.bind_some]
  by_cases h : (1 ≤ a ∧ a ≤ 1000) ∧ (1 ≤ b ∧ b ≤ 100)
  · simp [h]
  · simp [h]
theorem timeAndPlace_ev {s0 s1 g d : Int} (h1 : 1 ≤ s1 ∧ s1 ≤ 100) (hg : 0 ≤ g ∧ g ≤ 100000) (hd : 0 < d) (hd2 : d ≤ 1000) : Ev (fun k => impl_timeAndPlace.f k s0 s1 g d) ((lo g d).1, (lo g d).2, (lo (g * s1) d).1, (lo (g * s1) d).2, true) := by
  have b := mul_bd hg.1 hg.2 (show 0 ≤ s1 by omega) h1.2
  have e : s1 * g = g * s1 := Int.mul_comm _ _
  unfold impl_timeAndPlace.f
  simp only [if_neg (show ¬ d = 0 by omega), e, w64 (x := g * s1) (by omega) (by omega)]
  exact Ev.bind (lowest_ev hd (by omega) (by omega) (by omega)) (Ev.bind (lowest_ev hd (by omega) (by omega) (by omega)) (Ev.now _))
/-- Where two fronts meet. -/
def meetR (s0 s1 t0 t1 g : Int) : Int × Int × Int × Int × Bool :=
  if okTwo s0 s1 t0 t1 g then ((lo g (s1 + t1)).1, (lo g (s1 + t1)).2, (lo (g * s1) (s1 + t1)).1, (lo (g * s1) (s1 + t1)).2, true) else (0, 0, 0, 0, false)
theorem implMeet_ev (s0 s1 t0 t1 g : Int) : Ev (fun k => impl_MeetAfter.f k s0 s1 t0 t1 g) (meetR s0 s1 t0 t1 g) := by
  unfold impl_MeetAfter.f impl_isWay.f meetR
  simp only [isTrain_dec, within_eq, Option.bind_some]
  by_cases h1 : (1 ≤ s0 ∧ s0 ≤ 1000) ∧ (1 ≤ s1 ∧ s1 ≤ 100)
  · by_cases h2 : (1 ≤ t0 ∧ t0 ≤ 1000) ∧ (1 ≤ t1 ∧ t1 ≤ 100)
    · by_cases h3 : 0 ≤ g ∧ g ≤ 100000
      · rw [if_pos (show okTwo s0 s1 t0 t1 g from ⟨h1, h2, h3⟩)]
        simp only [decide_eq_true h1, decide_eq_true h2, decide_eq_true h3, if_true, w64 (x := s1 + t1) (by omega) (by omega)]
        exact Ev.bind (timeAndPlace_ev h1.2 h3 (by omega) (by omega)) (Ev.now _)
      · rw [if_neg (fun h => h3 h.2.2)]
        simp only [decide_eq_true h1, decide_eq_true h2, decide_eq_false h3, if_true, Bool.false_eq_true, if_false]
        exact Ev.now _
    · rw [if_neg (fun h => h2 h.2.1)]
      simp only [decide_eq_true h1, decide_eq_false h2, if_true, Bool.false_eq_true, if_false]
      exact Ev.now _
  · rw [if_neg (fun h => h1 h.1)]
    simp only [decide_eq_false h1, Bool.false_eq_true, if_false]
    exact Ev.now _
theorem specMeet_ev (s0 s1 t0 t1 g : Int) : Ev (fun k => spec_MeetAfter.f k s0 s1 t0 t1 g) (meetR s0 s1 t0 t1 g) := by
  unfold spec_MeetAfter.f spec_tiWay.f meetR
  simp only [tiTwo_dec, in_eq, Option.bind_some]
  by_cases h1 : ((1 ≤ s0 ∧ s0 ≤ 1000) ∧ (1 ≤ s1 ∧ s1 ≤ 100)) ∧ ((1 ≤ t0 ∧ t0 ≤ 1000) ∧ (1 ≤ t1 ∧ t1 ≤ 100))
  · by_cases h3 : 0 ≤ g ∧ g ≤ 100000
    · rw [if_pos (show okTwo s0 s1 t0 t1 g from ⟨h1.1, h1.2, h3⟩)]
      have b := mul_bd h3.1 h3.2 (show 0 ≤ s1 by omega) h1.1.2.2
      simp only [decide_eq_true h1, decide_eq_true h3, if_true, Bool.not_true]
      refine Ev.step (fun k => by simp only [spec_MeetAfter.j0, Bool.false_eq_true, if_false]; rw [w64 (x := s1 + t1) (by omega) (by omega), w64 (x := g * s1) (by omega) (by omega)]) ?_
      exact Ev.bind (tiLow_ev (by omega) (by omega) (by omega) (by omega)) (Ev.bind (tiLow_ev (by omega) (by omega) (by omega) (by omega)) (Ev.now _))
    · rw [if_neg (fun h => h3 h.2.2)]
      simp only [decide_eq_true h1, decide_eq_false h3, if_true, Bool.not_false]
      exact Ev.step (fun k => by simp only [spec_MeetAfter.j0, if_true]) (Ev.now _)
  · rw [if_neg (fun h => h1 ⟨h.1, h.2.1⟩)]
    simp only [decide_eq_false h1, Bool.false_eq_true, if_false]
    exact Ev.step (fun k => by simp only [spec_MeetAfter.j0, if_true]) (Ev.now _)
/-- Where one overtakes the other. -/
def overR (s0 s1 t0 t1 g : Int) : Int × Int × Int × Int × Bool :=
  if okTwo s0 s1 t0 t1 g then (if g = 0 then (0, 1, 0, 1, true) else if t1 < s1 then ((lo g (s1 - t1)).1, (lo g (s1 - t1)).2, (lo (g * s1) (s1 - t1)).1, (lo (g * s1) (s1 - t1)).2, true) else (0, 0, 0, 0, false)) else (0, 0, 0, 0, false)
theorem implOver_ev (s0 s1 t0 t1 g : Int) : Ev (fun k => impl_OvertakeAfter.f k s0 s1 t0 t1 g) (overR s0 s1 t0 t1 g) := by
  unfold impl_OvertakeAfter.f impl_isWay.f overR
  simp only [isTrain_dec, within_eq, Option.bind_some]
  by_cases h1 : (1 ≤ s0 ∧ s0 ≤ 1000) ∧ (1 ≤ s1 ∧ s1 ≤ 100)
  · by_cases h2 : (1 ≤ t0 ∧ t0 ≤ 1000) ∧ (1 ≤ t1 ∧ t1 ≤ 100)
    · by_cases h3 : 0 ≤ g ∧ g ≤ 100000
      · rw [if_pos (show okTwo s0 s1 t0 t1 g from ⟨h1, h2, h3⟩)]
        simp only [decide_eq_true h1, decide_eq_true h2, decide_eq_true h3, if_true, Bool.not_true]
        by_cases hg : g = 0
        · rw [if_pos hg]
          exact Ev.step (fun k => by simp only [impl_OvertakeAfter.j0, Bool.false_eq_true, if_false]; rw [if_pos hg]) (Ev.now _)
        · rw [if_neg hg]
          by_cases hs : t1 < s1
          · rw [if_pos hs]
            refine Ev.step (fun k => by simp only [impl_OvertakeAfter.j0, Bool.false_eq_true, if_false]; rw [if_neg hg, w64 (x := s1 - t1) (by omega) (by omega), show mx 0 (s1 - t1) = s1 - t1 by unfold mx; omega]) ?_
            exact Ev.bind (timeAndPlace_ev h1.2 h3 (by omega) (by omega)) (Ev.now _)
          · rw [if_neg hs]
            refine Ev.step (fun k => by simp only [impl_OvertakeAfter.j0, Bool.false_eq_true, if_false]; rw [if_neg hg, w64 (x := s1 - t1) (by omega) (by omega), show mx 0 (s1 - t1) = 0 by unfold mx; omega]) ?_
            unfold impl_timeAndPlace.f
            exact Ev.now _
      · rw [if_neg (fun h => h3 h.2.2)]
        simp only [decide_eq_true h1, decide_eq_true h2, decide_eq_false h3, if_true, Bool.not_false]
        exact Ev.step (fun k => by simp only [impl_OvertakeAfter.j0, if_true]) (Ev.now _)
    · rw [if_neg (fun h => h2 h.2.1)]
      simp only [decide_eq_true h1, decide_eq_false h2, if_true, Bool.false_eq_true, if_false]
      exact Ev.step (fun k => by simp only [impl_OvertakeAfter.j0, if_true]) (Ev.now _)
  · rw [if_neg (fun h => h1 h.1)]
    simp only [decide_eq_false h1, Bool.false_eq_true, if_false]
    exact Ev.step (fun k => by simp only [impl_OvertakeAfter.j0, if_true]) (Ev.now _)
theorem specOver_ev (s0 s1 t0 t1 g : Int) : Ev (fun k => spec_OvertakeAfter.f k s0 s1 t0 t1 g) (overR s0 s1 t0 t1 g) := by
  unfold spec_OvertakeAfter.f spec_tiWay.f overR
  simp only [tiTwo_dec, in_eq, Option.bind_some]
  by_cases h1 : ((1 ≤ s0 ∧ s0 ≤ 1000) ∧ (1 ≤ s1 ∧ s1 ≤ 100)) ∧ ((1 ≤ t0 ∧ t0 ≤ 1000) ∧ (1 ≤ t1 ∧ t1 ≤ 100))
  · by_cases h3 : 0 ≤ g ∧ g ≤ 100000
    · rw [if_pos (show okTwo s0 s1 t0 t1 g from ⟨h1.1, h1.2, h3⟩)]
      have b := mul_bd h3.1 h3.2 (show 0 ≤ s1 by omega) h1.1.2.2
      simp only [decide_eq_true h1, decide_eq_true h3, if_true]
      by_cases hs : t1 < s1
      · simp only [if_neg (show ¬ s1 ≤ t1 by omega)]
        by_cases hg : g = 0
        · rw [if_pos hg]
          exact Ev.step (fun k => by simp only [spec_OvertakeAfter.j0, Bool.false_eq_true, if_false]; rw [if_pos hg]) (Ev.now _)
        · rw [if_neg hg, if_pos hs]
          refine Ev.step (fun k => by simp only [spec_OvertakeAfter.j0, Bool.false_eq_true, if_false]; rw [if_neg hg, w64 (x := s1 - t1) (by omega) (by omega), w64 (x := g * s1) (by omega) (by omega)]) ?_
          exact Ev.bind (tiLow_ev (by omega) (by omega) (by omega) (by omega)) (Ev.bind (tiLow_ev (by omega) (by omega) (by omega) (by omega)) (Ev.now _))
      · simp only [if_pos (show s1 ≤ t1 by omega)]
        by_cases hg : g = 0
        · rw [if_pos hg]
          exact Ev.step (fun k => by simp only [spec_OvertakeAfter.j0]; rw [if_neg (by simp; omega), if_pos hg]) (Ev.now _)
        · rw [if_neg hg, if_neg hs]
          exact Ev.step (fun k => by simp only [spec_OvertakeAfter.j0]; rw [if_pos (by simp; omega)]) (Ev.now _)
    · rw [if_neg (fun h => h3 h.2.2)]
      simp only [decide_eq_true h1, decide_eq_false h3, if_true, Bool.false_eq_true, if_false]
      exact Ev.step (fun k => by simp only [spec_OvertakeAfter.j0, if_true]) (Ev.now _)
  · rw [if_neg (fun h => h1 ⟨h.1, h.2.1⟩)]
    simp only [decide_eq_false h1, Bool.false_eq_true, if_false]
    exact Ev.step (fun k => by simp only [spec_OvertakeAfter.j0, if_true]) (Ev.now _)
/-- The least headway: the greater of two times, over one number. -/
def headN (s0 s1 t1 g : Int) : Int := if s0 * t1 < g * t1 - (g - s0) * s1 then g * t1 - (g - s0) * s1 else s0 * t1
def headR (s0 s1 t0 t1 g : Int) : Int × Int × Bool :=
  if okTwo s0 s1 t0 t1 g ∧ s0 ≤ g then ((lo (headN s0 s1 t1 g) (s1 * t1)).1, (lo (headN s0 s1 t1 g) (s1 * t1)).2, true) else (0, 0, false)
structure HeadB (s0 s1 t1 g : Int) : Prop where
  a : 0 ≤ s0 * t1 ∧ s0 * t1 ≤ 100000
  b : 0 ≤ g * t1 ∧ g * t1 ≤ 10000000
  c : 0 ≤ (g - s0) * s1 ∧ (g - s0) * s1 ≤ 10000000
  d : 0 < s1 * t1 ∧ s1 * t1 ≤ 10000
  n : s0 * t1 ≤ headN s0 s1 t1 g ∧ g * t1 - (g - s0) * s1 ≤ headN s0 s1 t1 g ∧ headN s0 s1 t1 g ≤ 10000000
theorem headB {s0 s1 t0 t1 g : Int} (h : okTwo s0 s1 t0 t1 g) (hg : s0 ≤ g) : HeadB s0 s1 t1 g := by
  obtain ⟨⟨⟨a1, a2⟩, a3, a4⟩, ⟨⟨b1, b2⟩, b3, b4⟩, c1, c2⟩ := h
  have a := mul_bd (show 0 ≤ s0 by omega) a2 (show 0 ≤ t1 by omega) b4
  have b := mul_bd c1 c2 (show 0 ≤ t1 by omega) b4
  have c := mul_bd (show 0 ≤ g - s0 by omega) (show g - s0 ≤ 100000 by omega) (show 0 ≤ s1 by omega) a4
  have d := mul_bd (show 0 ≤ s1 by omega) a4 (show 0 ≤ t1 by omega) b4
  have d0 := mul_pos (show 0 < s1 by omega) (show 0 < t1 by omega)
  refine ⟨by omega, by omega, by omega, by omega, ?_⟩
  unfold headN
  split <;> omega
theorem implHead_ev (s0 s1 t0 t1 g : Int) : Ev (fun k => impl_LeastHeadway.f k s0 s1 t0 t1 g) (headR s0 s1 t0 t1 g) := by
  unfold impl_LeastHeadway.f impl_isWay.f headR
  simp only [isTrain_dec, within_eq, Option.bind_some]
  by_cases h1 : (1 ≤ s0 ∧ s0 ≤ 1000) ∧ (1 ≤ s1 ∧ s1 ≤ 100)
  · by_cases h2 : (1 ≤ t0 ∧ t0 ≤ 1000) ∧ (1 ≤ t1 ∧ t1 ≤ 100)
    · by_cases h3 : 0 ≤ g ∧ g ≤ 100000
      · have ok : okTwo s0 s1 t0 t1 g := ⟨h1, h2, h3⟩
        simp only [decide_eq_true h1, decide_eq_true h2, decide_eq_true h3, if_true]
        by_cases h4 : s0 ≤ g
        · rw [if_pos ⟨ok, h4⟩]
          have B := headB ok h4
          obtain ⟨Ba, Bb, Bc, Bd, Bn⟩ := B
          have e : mx (wrap64 (s0 * t1)) (wrap64 ((wrap64 (g * t1)) - (wrap64 ((wrap64 (g - s0)) * s1)))) = headN s0 s1 t1 g := by
            rw [w64 (x := g - s0) (by omega) (by omega), w64 (x := s0 * t1) (by omega) (by omega), w64 (x := g * t1) (by omega) (by omega), w64 (x := (g - s0) * s1) (by omega) (by omega), w64 (x := g * t1 - (g - s0) * s1) (by omega) (by omega)]
            rfl
          simp only [if_neg (show ¬ g < s0 by omega), e, w64 (x := s1 * t1) (by omega) (by omega)]
          exact Ev.bind (fraction_ev Bd.1 (by omega) (by omega) (by omega)) (Ev.now _)
        · rw [if_neg (fun h => h4 h.2)]
          simp only [if_pos (show g < s0 by omega)]
          exact Ev.now _
      · rw [if_neg (fun h => h3 h.1.2.2)]
        simp only [decide_eq_true h1, decide_eq_true h2, decide_eq_false h3, if_true, Bool.false_eq_true, if_false]
        exact Ev.now _
    · rw [if_neg (fun h => h2 h.1.2.1)]
      simp only [decide_eq_true h1, decide_eq_false h2, if_true, Bool.false_eq_true, if_false]
      exact Ev.now _
  · rw [if_neg (fun h => h1 h.1.1)]
    simp only [decide_eq_false h1, Bool.false_eq_true, if_false]
    exact Ev.now _
theorem specHead_ev (s0 s1 t0 t1 g : Int) : Ev (fun k => spec_LeastHeadway.f k s0 s1 t0 t1 g) (headR s0 s1 t0 t1 g) := by
  unfold spec_LeastHeadway.f spec_tiWay.f headR
  simp only [tiTwo_dec, in_eq, Option.bind_some]
  by_cases h1 : ((1 ≤ s0 ∧ s0 ≤ 1000) ∧ (1 ≤ s1 ∧ s1 ≤ 100)) ∧ ((1 ≤ t0 ∧ t0 ≤ 1000) ∧ (1 ≤ t1 ∧ t1 ≤ 100))
  · by_cases h3 : 0 ≤ g ∧ g ≤ 100000
    · have ok : okTwo s0 s1 t0 t1 g := ⟨h1.1, h1.2, h3⟩
      simp only [decide_eq_true h1, decide_eq_true h3, if_true]
      by_cases h4 : s0 ≤ g
      · rw [if_pos ⟨ok, h4⟩]
        have B := headB ok h4
        obtain ⟨Ba, Bb, Bc, Bd, Bn⟩ := B
        have hs1 : 0 < s1 := by omega
        have m1 := mul_bd (show 0 ≤ s0 by omega) h1.1.1.2 (Int.le_of_lt Bd.1) Bd.2
        have x1 := mul_le_r (Int.le_of_lt hs1) (show g * t1 - (g - s0) * s1 ≤ 10000000 by omega)
        have x2 := mul_le_r (Int.le_of_lt hs1) (show -10000000 ≤ g * t1 - (g - s0) * s1 by omega)
        have e1 : s0 * (s1 * t1) = (s0 * t1) * s1 := by grind
        refine Ev.step (fun k => by simp only [spec_LeastHeadway.j0]; rw [if_neg (by simp; omega), w64 (x := g - s0) (by omega) (by omega), w64 (x := s1 * t1) (by omega) (by omega), w64 (x := g * t1) (by omega) (by omega), w64 (x := (g - s0) * s1) (by omega) (by omega), w64 (x := g * t1 - (g - s0) * s1) (by omega) (by omega), w64 (x := s0 * (s1 * t1)) (by omega) (by omega), w64 (x := (g * t1 - (g - s0) * s1) * s1) (by omega) (by omega)]) ?_
        by_cases c : g * t1 - (g - s0) * s1 < s0 * t1
        · have c2 : (g * t1 - (g - s0) * s1) * s1 < s0 * (s1 * t1) := by rw [e1]; exact Int.mul_lt_mul_of_pos_right c hs1
          simp only [if_pos (show s0 * (s1 * t1) > (g * t1 - (g - s0) * s1) * s1 from c2)]
          have hN : headN s0 s1 t1 g = s0 * t1 := by unfold headN; rw [if_neg (by omega)]
          rw [hN, lo_eq (n := s0 * t1) (d := s1 * t1) (n' := s0) (d' := s1) Bd.1 hs1 (by grind)]
          exact Ev.bind (tiLow_ev hs1 (by omega) (by omega) (by omega)) (Ev.now _)
        · have c2 : s0 * (s1 * t1) ≤ (g * t1 - (g - s0) * s1) * s1 := by rw [e1]; exact mul_le_r (Int.le_of_lt hs1) (by omega)
          simp only [if_neg (show ¬ s0 * (s1 * t1) > (g * t1 - (g - s0) * s1) * s1 from Int.not_lt.2 c2)]
          have hN : headN s0 s1 t1 g = g * t1 - (g - s0) * s1 := by unfold headN; split <;> omega
          rw [hN]
          exact Ev.bind (tiLow_ev Bd.1 (by omega) (by omega) (by omega)) (Ev.now _)
      · rw [if_neg (fun h => h4 h.2)]
        exact Ev.step (fun k => by simp only [spec_LeastHeadway.j0]; rw [if_pos (by simp; omega)]) (Ev.now _)
    · rw [if_neg (fun h => h3 h.1.2.2)]
      simp only [decide_eq_true h1, decide_eq_false h3, if_true, Bool.false_eq_true, if_false]
      exact Ev.step (fun k => by simp only [spec_LeastHeadway.j0, if_true]) (Ev.now _)
  · rw [if_neg (fun h => h1 ⟨h.1.1, h.1.2.1⟩)]
    simp only [decide_eq_false h1, Bool.false_eq_true, if_false]
    exact Ev.step (fun k => by simp only [spec_LeastHeadway.j0, if_true]) (Ev.now _)
theorem pole_ev (s0 s1 : Int) (h : (1 ≤ s0 ∧ s0 ≤ 1000) ∧ (1 ≤ s1 ∧ s1 ≤ 100)) : Ev (fun k => impl_PolePassing.f k s0 s1) ((lo s0 s1).1, (lo s0 s1).2, true) := by
  unfold impl_PolePassing.f
  simp only [isTrain_dec, Option.bind_some, decide_eq_true h, if_true]
  exact Ev.bind (fraction_ev (by omega) (by omega) (by omega) (by omega)) (Ev.now _)
/-- How many trains are met. -/
def countR (j e : Int) (ends : Bool) : Int × Bool := if (1 ≤ j ∧ j ≤ 10000) ∧ (1 ≤ e ∧ e ≤ 10000) then (2 * ((if ends = true then j else j - 1) / e) + 1, true) else (0, false)
theorem pred_div {j e : Int} (he : 0 < e) : (j - 1) / e = if j % e = 0 then j / e - 1 else j / e := by
  have h1 := Int.mul_ediv_add_emod j e
  have h2 := Int.emod_nonneg j (Int.ne_of_gt he)
  have h3 := Int.emod_lt_of_pos j he
  have key : ∀ q r : Int, 0 ≤ r → r < e → j - 1 = r + e * q → (j - 1) / e = q := by
    intro q r r0 r1 h
    rw [h, Int.add_mul_ediv_left r q (Int.ne_of_gt he), Int.ediv_eq_zero_of_lt r0 r1]
    omega
  split
  · next h => exact key (j / e - 1) (e - 1) (by omega) (by omega) (by rw [Int.mul_sub]; omega)
  · next h => exact key (j / e) (j % e - 1) (by omega) (by omega) (by omega)
theorem div_bd {j e : Int} (hj : 0 ≤ j) (hj2 : j ≤ 10000) (he : 0 < e) : 0 ≤ j / e ∧ j / e ≤ 10000 ∧ (j / e) * e ≤ j := by
  have h1 := Int.ediv_nonneg hj (Int.le_of_lt he)
  have h2 := Int.ediv_mul_le j (Int.ne_of_gt he)
  have h3 := le_mul_pos h1 he
  omega
theorem implCount_ev (j e : Int) (b : Bool) : Ev (fun k => impl_CountTrainsMet.f k j e b) (countR j e b) := by
  unfold impl_CountTrainsMet.f impl_isSpan.f countR
  simp only [within_eq, Option.bind_some]
  by_cases h1 : 1 ≤ j ∧ j ≤ 10000
  · by_cases h2 : 1 ≤ e ∧ e ≤ 10000
    · rw [if_pos ⟨h1, h2⟩]
      simp only [decide_eq_true h1, decide_eq_true h2, if_true, Bool.not_true]
      have d1 := div_bd (show 0 ≤ j by omega) h1.2 (show 0 < e by omega)
      have d2 := div_bd (show 0 ≤ j - 1 by omega) (by omega) (show 0 < e by omega)
      cases b
      · refine Ev.step (fun k => by simp only [impl_CountTrainsMet.j0, Bool.false_eq_true, if_false]; rw [if_neg (show ¬ e = 0 by omega), w64 (x := j - 1) (by omega) (by omega), Int.tdiv_eq_ediv_of_nonneg (by omega), w64 (x := (j - 1) / e) (by omega) (by omega), w64 (x := 2 * ((j - 1) / e)) (by omega) (by omega), w64 (x := 2 * ((j - 1) / e) + 1) (by omega) (by omega)]) ?_
        exact Ev.now _
      · refine Ev.step (fun k => by simp only [impl_CountTrainsMet.j0, Bool.false_eq_true, if_false, if_true]; rw [if_neg (show ¬ e = 0 by omega), Int.tdiv_eq_ediv_of_nonneg (by omega), w64 (x := j / e) (by omega) (by omega), w64 (x := 2 * (j / e)) (by omega) (by omega), w64 (x := 2 * (j / e) + 1) (by omega) (by omega)]) ?_
        exact Ev.now _
    · rw [if_neg (fun h => h2 h.2)]
      simp only [decide_eq_true h1, decide_eq_false h2, if_true, Bool.not_false]
      exact Ev.step (fun k => by simp only [impl_CountTrainsMet.j0, if_true]) (Ev.now _)
  · rw [if_neg (fun h => h1 h.1)]
    simp only [decide_eq_false h1, Bool.false_eq_true, if_false]
    exact Ev.step (fun k => by simp only [impl_CountTrainsMet.j0, if_true]) (Ev.now _)
theorem tiJourney_eq (j e : Int) : spec_tiJourney.f j e = some (decide ((1 ≤ j ∧ j ≤ 10000) ∧ (1 ≤ e ∧ e ≤ 10000))) := by
  unfold spec_tiJourney.f
  simp only [in_eq, Option.bind_some]
  by_cases h1 : 1 ≤ j ∧ j ≤ 10000
  · simp [h1]
  · simp [h1]
theorem specCount_eq (j e : Int) (b : Bool) : spec_CountTrainsMet.f j e b = some (countR j e b) := by
  unfold spec_CountTrainsMet.f countR
  simp only [tiJourney_eq, Option.bind_some]
  by_cases h : (1 ≤ j ∧ j ≤ 10000) ∧ (1 ≤ e ∧ e ≤ 10000)
  · have d1 := div_bd (show 0 ≤ j by omega) h.1.2 (show 0 < e by omega)
    have p := pred_div (j := j) (show 0 < e by omega)
    simp only [decide_eq_true h, if_true, if_pos h]
    rw [if_neg (show ¬ e = 0 by omega), Int.tdiv_eq_ediv_of_nonneg (by omega), Int.tmod_eq_emod_of_nonneg (by omega), w64 (x := j / e) (by omega) (by omega), w64 (x := 2 * (j / e)) (by omega) (by omega), w64 (x := 1 + 2 * (j / e)) (by omega) (by omega), w64 (x := 1 + 2 * (j / e) - 2) (by omega) (by omega)]
    cases b
    · simp only [Bool.false_eq_true, if_false, p]
      split
      · congr 2; omega
      · congr 2; omega
    · simp only [if_true]
      congr 2; omega
  · simp only [decide_eq_false h, Bool.false_eq_true, if_false, if_neg h]
/-- Where the n-th one is met. -/
def metR (j e n : Int) : Int × Int × Bool := if (1 ≤ j ∧ j ≤ 10000) ∧ (1 ≤ e ∧ e ≤ 10000) ∧ (0 ≤ n ∧ n ≤ 10000) ∧ e * n ≤ j then ((lo (j + e * n) 2).1, (lo (j + e * n) 2).2, true) else (0, 0, false)
theorem implMet_ev (j e n : Int) : Ev (fun k => impl_MetAt.f k j e n) (metR j e n) := by
  unfold impl_MetAt.f impl_isSpan.f metR
  simp only [within_eq, Option.bind_some]
  by_cases h1 : 1 ≤ j ∧ j ≤ 10000
  · by_cases h2 : 1 ≤ e ∧ e ≤ 10000
    · by_cases h3 : 0 ≤ n ∧ n ≤ 10000
      · have b := mul_bd (show 0 ≤ e by omega) h2.2 h3.1 h3.2
        simp only [decide_eq_true h1, decide_eq_true h2, decide_eq_true h3, if_true, Int.mul_comm n e, w64 (x := e * n) (by omega) (by omega), w64 (x := e * n + j) (by omega) (by omega)]
        by_cases h4 : e * n ≤ j
        · rw [if_pos ⟨h1, h2, h3, h4⟩]
          simp only [if_neg (show ¬ e * n > j by omega)]
          rw [Int.add_comm j]
          exact Ev.bind (fraction_ev (by omega) (by omega) (by omega) (by omega)) (Ev.now _)
        · rw [if_neg (fun h => h4 h.2.2.2)]
          simp only [if_pos (show e * n > j by omega)]
          exact Ev.now _
      · rw [if_neg (fun h => h3 h.2.2.1)]
        simp only [decide_eq_true h1, decide_eq_true h2, decide_eq_false h3, if_true, Bool.false_eq_true, if_false]
        exact Ev.now _
    · rw [if_neg (fun h => h2 h.2.1)]
      simp only [decide_eq_true h1, decide_eq_false h2, if_true, Bool.false_eq_true, if_false]
      exact Ev.now _
  · rw [if_neg (fun h => h1 h.1)]
    simp only [decide_eq_false h1, Bool.false_eq_true, if_false]
    exact Ev.now _
theorem specMet_ev (j e n : Int) : Ev (fun k => spec_MetAt.f k j e n) (metR j e n) := by
  unfold spec_MetAt.f metR
  simp only [tiJourney_eq, in_eq, Option.bind_some]
  by_cases h1 : (1 ≤ j ∧ j ≤ 10000) ∧ (1 ≤ e ∧ e ≤ 10000)
  · by_cases h3 : 0 ≤ n ∧ n ≤ 10000
    · have b := mul_bd (show 0 ≤ e by omega) h1.2.2 h3.1 h3.2
      simp only [decide_eq_true h1, decide_eq_true h3, if_true, w64 (x := e * n) (by omega) (by omega), w64 (x := j + e * n) (by omega) (by omega)]
      by_cases h4 : e * n ≤ j
      · rw [if_pos ⟨h1.1, h1.2, h3, h4⟩]
        simp only [if_neg (show ¬ e * n > j by omega)]
        exact Ev.bind (tiLow_ev (by omega) (by omega) (by omega) (by omega)) (Ev.now _)
      · rw [if_neg (fun h => h4 h.2.2.2)]
        simp only [if_pos (show e * n > j by omega)]
        exact Ev.now _
    · rw [if_neg (fun h => h3 h.2.2.1)]
      simp only [decide_eq_true h1, decide_eq_false h3, if_true, Bool.false_eq_true, if_false]
      exact Ev.now _
  · rw [if_neg (fun h => h1 ⟨h.1, h.2.1⟩)]
    simp only [decide_eq_false h1, Bool.false_eq_true, if_false]
    exact Ev.now _
theorem l1Has_l0_ev (l : List Int) (x : Int) (hl : l.length ≤ 1048576) : ∀ i : Int, 0 ≤ i → i ≤ l.length → Ev (fun k => spec_l1Has.l0 k x l l.length i) (decide (x ∈ l.drop i.toNat)) := by
  refine downI ?_ (fun i h0 h1 ih => ?_)
  · refine Ev.step (fun k => by simp only [spec_l1Has.l0]; rw [if_neg (by omega)]) ?_
    rw [List.drop_of_length_le (by omega)]
    exact Ev.now _
  · rw [drop_get l 0 i h0 h1]
    by_cases e : rd l i = x
    · rw [decide_eq_true (show x ∈ l.getD i.toNat 0 :: l.drop (i + 1).toNat from by rw [List.mem_cons]; exact .inl e.symm)]
      exact Ev.step (fun k => by simp only [spec_l1Has.l0]; rw [if_pos h1, if_pos h0, if_pos h1, if_pos e]) (Ev.now _)
    · have e2 : decide (x ∈ l.getD i.toNat 0 :: l.drop (i + 1).toNat) = decide (x ∈ l.drop (i + 1).toNat) := by
        rw [decide_eq_decide, List.mem_cons]
        exact ⟨fun h => h.resolve_left (fun h => e h.symm), .inr⟩
      rw [e2]
      exact Ev.step (fun k => by simp only [spec_l1Has.l0]; rw [if_pos h1, if_pos h0, if_pos h1, if_neg e, w64 (x := i + 1) (by omega) (by omega)]) ih
theorem l1Has_ev (l : List Int) (x : Int) (hl : l.length ≤ 1048576) : Ev (fun k => spec_l1Has.f k l x) (decide (x ∈ l)) := by
  have h := l1Has_l0_ev l x hl 0 (by omega) (by omega)
  simp only [Int.toNat_zero, List.drop_zero] at h
  exact h
/-- Two strictly increasing lists with the same members are one. -/
theorem strict_ext : ∀ {l m : List Int}, l.Pairwise (· < ·) → m.Pairwise (· < ·) → (∀ x, x ∈ l ↔ x ∈ m) → l = m := by
  intro l
  induction l with
  | nil =>
    intro m _ _ h
    cases m with
    | nil => rfl
    | cons b m => exact absurd ((h b).2 List.mem_cons_self) (by simp)
  | cons a l ih =>
    intro m hl hm h
    cases m with
    | nil => exact absurd ((h a).1 List.mem_cons_self) (by simp)
    | cons b m =>
      obtain ⟨hl1, hl2⟩ := List.pairwise_cons.1 hl
      obtain ⟨hm1, hm2⟩ := List.pairwise_cons.1 hm
      have e : a = b := by
        rcases List.mem_cons.1 ((h a).1 List.mem_cons_self) with e | e
        · exact e
        · rcases List.mem_cons.1 ((h b).2 List.mem_cons_self) with e2 | e2
          · exact e2.symm
          · have := hl1 _ e2
            have := hm1 _ e
            omega
      subst e
      rw [ih hl2 hm2 (fun x => ?_)]
      constructor
      · intro hx
        rcases List.mem_cons.1 ((h x).1 (List.mem_cons_of_mem _ hx)) with e | e
        · have := hl1 _ hx; omega
        · exact e
      · intro hx
        rcases List.mem_cons.1 ((h x).2 (List.mem_cons_of_mem _ hx)) with e | e
        · have := hm1 _ hx; omega
        · exact e
theorem l1Put_l0_ev (l : List Int) (x : Int) (hl : l.length ≤ 1048576) (hs : l.Pairwise (· < ·)) (hx : x ∉ l) : ∀ i : Int, 0 ≤ i → i ≤ l.length → (∀ y, y ∈ l.take i.toNat → y < x) → ∃ r : List Int, Ev (fun k => spec_l1Put.l0 k l x i) r ∧ r.Pairwise (· < ·) ∧ (∀ y, y ∈ r ↔ y = x ∨ y ∈ l) ∧ r.length = l.length + 1 := by
  have fin : ∀ i : Nat, i ≤ l.length → (∀ y, y ∈ l.take i → y < x) → (∀ y, y ∈ l.drop i → x < y) → (l.take i ++ [x] ++ l.drop i).Pairwise (· < ·) ∧ (∀ y, y ∈ l.take i ++ [x] ++ l.drop i ↔ y = x ∨ y ∈ l) ∧ (l.take i ++ [x] ++ l.drop i).length = l.length + 1 := by
    intro i hi h1 h2
    refine ⟨?_, fun y => ?_, ?_⟩
    · rw [List.pairwise_append, List.pairwise_append]
      refine ⟨⟨hs.sublist (List.take_sublist _ _), by simp, fun a ha b hb => ?_⟩, hs.sublist (List.drop_sublist _ _), fun a ha b hb => ?_⟩
      · rw [List.mem_singleton.1 hb]; exact h1 a ha
      · have hbx := h2 b hb
        rcases List.mem_append.1 ha with ha | ha
        · have := h1 a ha; omega
        · rw [List.mem_singleton.1 ha]; exact hbx
    · have e : y ∈ l ↔ y ∈ l.take i ∨ y ∈ l.drop i := by
        rw [← List.mem_append, List.take_append_drop]
      rw [e, List.mem_append, List.mem_append, List.mem_singleton]
      constructor
      · rintro ((h | h) | h)
        · exact .inr (.inl h)
        · exact .inl h
        · exact .inr (.inr h)
      · rintro (h | h | h)
        · exact .inl (.inr h)
        · exact .inl (.inl h)
        · exact .inr h
    · simp only [List.length_append, List.length_take, List.length_drop, List.length_singleton]
      omega
  refine downI (fun h => ?_) (fun i h0 h1 ih h => ?_)
  · have e : ((l.length : Int)).toNat = l.length := by omega
    refine ⟨l.take l.length ++ [x] ++ l.drop l.length, ?_, fin l.length (Nat.le_refl _) (by rw [e] at h; exact h) (by simp)⟩
    refine Ev.step (fun k => by simp only [spec_l1Put.l0, Option.bind_some]; rw [if_neg (by omega), if_pos (by omega), if_pos (by omega), if_pos (by simp; omega), if_pos (by simp; omega), if_pos (by simp; omega), e]) ?_
    exact Ev.now _
  · have hd := drop_get l 0 i h0 h1
    have hge : rd l i ≠ x := fun e => hx (by rw [← e]; exact get_mem l 0 i h0 h1)
    by_cases c : rd l i < x
    · obtain ⟨r, a1, a2⟩ := ih (by
        intro y hy
        rw [show (i + 1).toNat = i.toNat + 1 by omega, List.take_add_one, List.mem_append] at hy
        rcases hy with hy | hy
        · exact h y hy
        · have hg : l[i.toNat]? = some (rd l i) := by
            unfold rd
            rw [List.getD_eq_getElem?_getD, List.getElem?_eq_getElem (show i.toNat < l.length by omega)]
            rfl
          rw [hg] at hy
          simp at hy
          rw [hy]; exact c)
      exact ⟨r, Ev.step (fun k => by simp only [spec_l1Put.l0]; rw [if_pos h1, if_pos h0, if_pos c, w64 (x := i + 1) (by omega) (by omega)]) a1, a2⟩
    · have hgt : ∀ y, y ∈ l.drop i.toNat → x < y := by
        intro y hy
        have hp := hs.sublist (List.drop_sublist i.toNat l)
        rw [hd] at hp hy
        have hr : l.getD i.toNat 0 = rd l i := rfl
        rw [hr] at hp hy
        obtain ⟨p1, _⟩ := List.pairwise_cons.1 hp
        rcases List.mem_cons.1 hy with rfl | hy
        · omega
        · have := p1 y hy; omega
      refine ⟨l.take i.toNat ++ [x] ++ l.drop i.toNat, ?_, fin i.toNat (by omega) h hgt⟩
      refine Ev.step (fun k => by simp only [spec_l1Put.l0, Option.bind_some]; rw [if_pos h1, if_pos h0, if_neg c, if_neg hge, if_pos (by omega), if_pos (by simp; omega), if_pos (by simp; omega), if_pos (by simp; omega)]) ?_
      exact Ev.now _
theorem l1Put_ev (l : List Int) (x : Int) (hl : l.length ≤ 1048576) (hs : l.Pairwise (· < ·)) (hx : x ∉ l) : ∃ r : List Int, Ev (fun k => spec_l1Put.f k l x) r ∧ r.Pairwise (· < ·) ∧ (∀ y, y ∈ r ↔ y = x ∨ y ∈ l) ∧ r.length = l.length + 1 :=
  l1Put_l0_ev l x hl hs hx 0 (by omega) (by omega) (by simp)
/-- The shorter one, or of two of one length the first one. -/
def bef (l : List S23) (a b : Int) : Prop := (rd_T23 l a).f0 < (rd_T23 l b).f0 ∨ ((rd_T23 l a).f0 = (rd_T23 l b).f0 ∧ a < b)
theorem bef_asymm {l : List S23} {a b : Int} (h1 : bef l a b) (h2 : bef l b a) : False := by
  unfold bef at *
  omega
theorem bef_trans {l : List S23} {a b c : Int} (h1 : bef l a b) (h2 : bef l b c) : bef l a c := by
  unfold bef at *
  omega
/-- Behind the search: what the reference does with the least one that is left (or -1). -/
def afterP (l : List S23) (x : Int) (out : List Int) (p : Int) (k : Nat) : Option (List Int × Bool) := if p < 0 then (some (out, true)) else (if 0 ≤ p then (if p < (l.length : Int) then (if ((rd_T23 l p).f0) > x then (some (out, true)) else ((spec_l1Put.f k out p).bind fun t164 => (spec_MostInSiding.l0 k l (wrap64 (x - ((rd_T23 l p).f0))) t164))) else (none)) else (none))
def leastP (l : List S23) (out : List Int) (p : Int) (n : Int) : Prop := (p = -1 ∧ ∀ q, 0 ≤ q → q < n → q ∈ out) ∨ (0 ≤ p ∧ p < n ∧ p ∉ out ∧ ∀ q, 0 ≤ q → q < n → q ∉ out → q = p ∨ bef l p q)
theorem leastP_uniq {l : List S23} {out : List Int} {p q n : Int} (h1 : leastP l out p n) (h2 : leastP l out q n) : p = q := by
  rcases h1 with ⟨a, b⟩ | ⟨a, b, c, d⟩ <;> rcases h2 with ⟨a', b'⟩ | ⟨a', b', c', d'⟩
  · omega
  · exact absurd (b q a' b') c'
  · exact absurd (b' p a b) c
  · rcases d q a' b' c' with h | h
    · exact h.symm
    · rcases d' p a b c with h' | h'
      · exact h'
      · exact (bef_asymm h h').elim
theorem siding_l1_ev (l : List S23) (hl : l.length ≤ 12) (x : Int) (out : List Int) (ho : out.length ≤ 1048576) (p : Int) (hp : leastP l out p l.length) (v : List Int × Bool) (hv : Ev (fun k => afterP l x out p k) v) : ∀ i : Int, 0 ≤ i → i ≤ l.length → ∀ b : Int, leastP l out b i → Ev (fun k => spec_MostInSiding.l1 k l x out b l l.length i) v := by
  refine downI (fun b hb => ?_) (fun i h0 h1 ih b hb => ?_)
  · obtain rfl := leastP_uniq hb hp
    refine Ev.step (f := fun k => afterP l x out b k) (fun k => by simp only [spec_MostInSiding.l1, afterP]; rw [if_neg (show ¬ ((l.length : Int) < l.length) by omega)]) hv
  · refine Ev.step (f := fun k => (spec_l1Has.f k out i).bind fun t160 => (if t160 = true then (spec_MostInSiding.l1 k l x out b l l.length (i + 1)) else (if b < 0 then (spec_MostInSiding.l1 k l x out i l l.length (i + 1)) else (if 0 ≤ b then (if b < (l.length : Int) then (if ((rd_T23 l i).f0) < ((rd_T23 l b).f0) then (spec_MostInSiding.l1 k l x out i l l.length (i + 1)) else (spec_MostInSiding.l1 k l x out b l l.length (i + 1))) else (none)) else (none))))) (fun k => by simp only [spec_MostInSiding.l1]; rw [if_pos h1, if_pos h0, if_pos h1, w64 (x := i + 1) (by omega) (by omega)]) ?_
    refine Ev.bind (l1Has_ev out i ho) ?_
    by_cases hi : i ∈ out
    · simp only [hi, decide_true, if_true]
      refine ih b ?_
      rcases hb with ⟨a, h⟩ | ⟨a, h, c, d⟩
      · refine .inl ⟨a, fun q q0 q1 => ?_⟩
        by_cases e : q = i
        · rw [e]; exact hi
        · exact h q q0 (by omega)
      · refine .inr ⟨a, by omega, c, fun q q0 q1 q2 => ?_⟩
        by_cases e : q = i
        · rw [e] at q2; exact absurd hi q2
        · exact d q q0 (by omega) q2
    · simp only [hi, decide_false, Bool.false_eq_true, if_false]
      rcases hb with ⟨a, h⟩ | ⟨a, h, c, d⟩
      · refine Ev.congr (fun k => by rw [if_pos (by omega)]) (ih i (.inr ⟨h0, by omega, hi, fun q q0 q1 q2 => ?_⟩))
        by_cases e : q = i
        · exact .inl e
        · exact absurd (h q q0 (by omega)) q2
      · by_cases cm : (rd_T23 l i).f0 < (rd_T23 l b).f0
        · refine Ev.congr (fun k => by rw [if_neg (by omega), if_pos a, if_pos (by omega), if_pos cm]) (ih i (.inr ⟨h0, by omega, hi, fun q q0 q1 q2 => ?_⟩))
          by_cases e : q = i
          · exact .inl e
          · refine .inr ?_
            have hib : bef l i b := .inl cm
            rcases d q q0 (by omega) q2 with e2 | e2
            · rw [e2]; exact hib
            · exact bef_trans hib e2
        · refine Ev.congr (fun k => by rw [if_neg (by omega), if_pos a, if_pos (by omega), if_neg cm]) (ih b (.inr ⟨a, by omega, c, fun q q0 q1 q2 => ?_⟩))
          by_cases e : q = i
          · right; subst e
            unfold bef
            omega
          · exact d q q0 (by omega) q2
theorem mergeSort_strict (pre : List Int) (hn : pre.Nodup) : (pre.mergeSort fun x y => decide (x ≤ y)).Pairwise (· < ·) := by
  have h := List.pairwise_mergeSort (le := fun (x y : Int) => decide (x ≤ y)) (fun a b c h1 h2 => by simp at *; omega) (fun a b => by simp; omega) pre
  have h2 : (pre.mergeSort fun x y => decide (x ≤ y)).Nodup := (List.mergeSort_perm pre _).nodup_iff.2 hn
  refine List.Pairwise.imp ?_ (List.Pairwise.and h h2)
  rintro a b ⟨h3, h4⟩
  have := of_decide_eq_true h3
  omega
/-- How long those trains are together. -/
def lenS (l : List S23) (xs : List Int) : Int := (xs.map fun q => (rd_T23 l q).f0).sum
theorem lenS_append (l : List S23) (a b : List Int) : lenS l (a ++ b) = lenS l a + lenS l b := by
  unfold lenS
  rw [List.map_append, List.sum_append]
/-- What stands in the siding: the first ones of the order, as many as fit, told upwards. -/
structure Filled (l : List S23) (ord : List Int) (a : Int) (r : List Int) : Prop where
  up : r.Pairwise (· < ·)
  part : ∃ pre rest, ord = pre ++ rest ∧ r.Perm pre ∧ lenS l pre ≤ a ∧ ∀ p t, rest = p :: t → a < lenS l pre + (rd_T23 l p).f0
/-- Both, from one point of the order on. -/
theorem siding_walk (l : List S23) (hl : l.length ≤ 12) (hg : l.all okTrain = true) (ord : List Int) (hlen : ord.length = l.length) (hmem : ∀ q, q ∈ ord ↔ 0 ≤ q ∧ q < (l.length : Int)) (hpw : ord.Pairwise (bef l)) : ∀ (rest pre : List Int), ord = pre ++ rest → ∀ (x : Int) (out : List Int), 0 ≤ x → x ≤ 100000 → out.Pairwise (· < ·) → (∀ q, q ∈ out ↔ q ∈ pre) → out.length = pre.length → ∃ r : List Int, r.length ≤ 12 ∧ Ev (fun k => impl_MostInSiding.l1 k x l pre ord l.length pre.length) (r, true) ∧ Ev (fun k => spec_MostInSiding.l0 k l x out) (r, true) ∧ Filled l ord (x + lenS l pre) r := by
  have hnd : ord.Nodup := hpw.imp (fun {a b} h e => by subst e; exact bef_asymm h h)
  have first : ∀ (out : List Int) (p : Int) (x : Int) (v : List Int × Bool), out.length ≤ 12 → leastP l out p l.length → Ev (fun k => afterP l x out p k) v → Ev (fun k => spec_MostInSiding.l0 k l x out) v := by
    intro out p x v ho hp hv
    refine Ev.step (fun k => by simp only [spec_MostInSiding.l0]; rfl) ?_
    exact siding_l1_ev l hl x out (by omega) p hp v hv 0 (by omega) (by omega) (-1) (.inl ⟨rfl, fun q h1 h2 => by omega⟩)
  intro rest
  induction rest with
  | nil =>
    intro pre he x out hx0 hx1 hs hm hol
    rw [List.append_nil] at he
    subst he
    have e : (ord.mergeSort fun x y => decide (x ≤ y)) = out := strict_ext (mergeSort_strict ord hnd) hs (fun q => by rw [hm, (List.mergeSort_perm ord _).mem_iff])
    refine ⟨out, by omega, ?_, ?_, ⟨hs, ord, [], by simp, e ▸ List.mergeSort_perm ord _, by omega, fun p t h => by cases h⟩⟩
    · refine Ev.step (fun k => by simp only [impl_MostInSiding.l1]; rw [if_neg (by omega), slices_Sort_int_int.f, if_pos (by omega), e]) ?_
      exact Ev.now _
    · refine first out (-1) x _ (by omega) (.inl ⟨rfl, fun q h1 h2 => (hm q).2 ((hmem q).2 ⟨h1, h2⟩)⟩) ?_
      exact Ev.congr (fun k => by unfold afterP; rw [if_pos (by omega)]) (Ev.now _)
  | cons p rest ih =>
    intro pre he x out hx0 hx1 hs hm hol
    have hll : pre.length + (rest.length + 1) = l.length := by
      have := congrArg List.length he
      simp at this
      omega
    have hpo : p ∈ ord := by rw [he]; simp
    obtain ⟨p0, p1⟩ := (hmem p).1 hpo
    have hnp : p ∉ pre := by
      intro h
      rw [he] at hnd
      exact (List.nodup_append.1 hnd).2.2 p h p (by simp) rfl
    have hleast : leastP l out p l.length := by
      refine .inr ⟨p0, p1, fun h => hnp ((hm p).1 h), fun q q0 q1 q2 => ?_⟩
      have hq : q ∈ ord := (hmem q).2 ⟨q0, q1⟩
      rw [he, List.mem_append, List.mem_cons] at hq
      rcases hq with hq | hq | hq
      · exact absurd ((hm q).2 hq) q2
      · exact .inl hq
      · right
        rw [he] at hpw
        exact (List.pairwise_cons.1 (List.pairwise_append.1 hpw).2.1).1 q hq
    have hrd : rd ord (pre.length : Int) = p := by
      unfold rd
      rw [he, List.getD_eq_getElem?_getD]
      simp
    have hok := okTrain_iff.1 (List.all_eq_true.1 hg _ (get_mem l z23 p p0 p1))
    change (1 ≤ (rd_T23 l p).f0 ∧ (rd_T23 l p).f0 ≤ 1000) ∧ _ at hok
    have st : ∀ k, impl_MostInSiding.l1 (k + 1) x l pre ord l.length pre.length = if (x - (rd_T23 l p).f0) < 0 then ((slices_Sort_int_int.f pre).bind fun t200 => (some (t200, true))) else (impl_MostInSiding.l1 k (x - (rd_T23 l p).f0) l (pre ++ [p]) ord l.length ((pre.length : Int) + 1)) := by
      intro k
      simp only [impl_MostInSiding.l1, hrd]
      rw [if_pos (by omega), if_pos (by omega), if_pos (by omega), if_pos p0, if_pos p1, w64 (x := x - (rd_T23 l p).f0) (by omega) (by omega), w64 (x := (pre.length : Int) + 1) (by omega) (by omega), if_pos (show pre.length < 17592186044416 by omega)]
    by_cases hc : (rd_T23 l p).f0 > x
    · have hndp : pre.Nodup := by rw [he] at hnd; exact (List.nodup_append.1 hnd).1
      have e : (pre.mergeSort fun x y => decide (x ≤ y)) = out := strict_ext (mergeSort_strict pre hndp) hs (fun q => by rw [hm, (List.mergeSort_perm pre _).mem_iff])
      refine ⟨out, by omega, ?_, ?_, ⟨hs, pre, p :: rest, he, e ▸ List.mergeSort_perm pre _, by omega, fun q t h => by
        cases h
        omega⟩⟩
      · exact Ev.step (fun k => by rw [st, if_pos (by omega), slices_Sort_int_int.f, if_pos (by omega), e]; rfl) (Ev.now _)
      · refine first out p x _ (by omega) hleast ?_
        exact Ev.congr (fun k => by unfold afterP; rw [if_neg (by omega), if_pos p0, if_pos p1, if_pos hc]) (Ev.now _)
    · obtain ⟨t, ht, ts, tm, tl⟩ := l1Put_ev out p (by omega) hs (fun h => hnp ((hm p).1 h))
      obtain ⟨r, r0, r1, r2, r3⟩ := ih (pre ++ [p]) (by rw [he]; simp) (x - (rd_T23 l p).f0) t (by omega) (by omega) ts (fun q => by rw [tm, List.mem_append, List.mem_singleton, hm]; exact Or.comm) (by simp; omega)
      have el : x - (rd_T23 l p).f0 + lenS l (pre ++ [p]) = x + lenS l pre := by
        rw [lenS_append]
        have : lenS l [p] = (rd_T23 l p).f0 := by unfold lenS; simp
        omega
      rw [el] at r3
      refine ⟨r, r0, ?_, ?_, r3⟩
      · refine Ev.step (fun k => by rw [st, if_neg (by omega)]) ?_
        rw [List.length_append, List.length_singleton] at r1
        exact r1
      · refine first out p x _ (by omega) hleast ?_
        refine Ev.congr (fun k => by unfold afterP; rw [if_neg (by omega), if_pos p0, if_pos p1, if_neg hc, w64 (x := x - (rd_T23 l p).f0) (by omega) (by omega)]) ?_
        exact Ev.bind ht r2
theorem outer_stop {n : Nat} [Inhabited (Fin n)] (lt : Fin n → Fin n → Bool) (b i : Nat) (d : Array (Fin n)) (h : ¬ i < b) : Go.Sort.insOuter lt 0 b i d = d := by
  rw [Go.Sort.insOuter, if_neg h]
theorem outer_go {n : Nat} [Inhabited (Fin n)] (lt : Fin n → Fin n → Bool) (b i : Nat) (d : Array (Fin n)) (h : i < b) : Go.Sort.insOuter lt 0 b i d = Go.Sort.insOuter lt 0 b (i + 1) (Go.Sort.insInner lt 0 i d) := by
  rw [Go.Sort.insOuter, if_pos h]
theorem insInner_lex {n : Nat} [Inhabited (Fin n)] (lt lx : Fin n → Fin n → Bool) (a : Nat) : ∀ (j : Nat) (d : Array (Fin n)), j < d.size → (∀ q, q < j → lt d[j]! d[q]! = lx d[j]! d[q]!) → Go.Sort.insInner lt a j d = Go.Sort.insInner lx a j d := by
  intro j
  induction j with
  | zero => intro d _ _; rfl
  | succ j ih =>
    intro d hs h
    unfold Go.Sort.insInner
    rw [h j (by omega)]
    split
    · refine ih _ (by rw [Go.Sort.swp_size]; omega) (fun q hq => ?_)
      rw [Go.Sort.swp_get d hs (by omega), Go.Sort.swp_get d hs (by omega), if_pos rfl, if_neg (by omega), if_neg (by omega)]
      exact h q (by omega)
    · rfl
theorem insInner_vals {n : Nat} [Inhabited (Fin n)] (lt : Fin n → Fin n → Bool) (a J : Nat) (P : Fin n → Prop) : ∀ (j : Nat) (d : Array (Fin n)), j ≤ J → J < d.size → (∀ q, q ≤ J → P d[q]!) → (Go.Sort.insInner lt a j d).size = d.size ∧ (∀ q, q ≤ J → P (Go.Sort.insInner lt a j d)[q]!) ∧ (∀ q, J < q → (Go.Sort.insInner lt a j d)[q]! = d[q]!) := by
  intro j
  induction j with
  | zero => intro d _ _ h; exact ⟨rfl, h, fun _ _ => rfl⟩
  | succ j ih =>
    intro d hj hJ h
    unfold Go.Sort.insInner
    split
    · obtain ⟨a1, a2, a3⟩ := ih (Go.Sort.swp d (j + 1) j) (by omega) (by rw [Go.Sort.swp_size]; exact hJ) (fun q hq => by
        rw [Go.Sort.swp_get d (by omega) (by omega)]
        split
        · exact h _ hj
        · split
          · exact h _ (by omega)
          · exact h q hq)
      refine ⟨by rw [a1, Go.Sort.swp_size], a2, fun q hq => ?_⟩
      rw [a3 q hq, Go.Sort.swp_get d (by omega) (by omega), if_neg (by omega), if_neg (by omega)]
    · exact ⟨rfl, h, fun _ _ => rfl⟩
theorem insOuter_lex {n : Nat} [Inhabited (Fin n)] (lt lx : Fin n → Fin n → Bool) (hl : ∀ x y : Fin n, y.val < x.val → lt x y = lx x y) : ∀ (m i : Nat) (d : Array (Fin n)), n - i = m → i ≤ n → d.size = n → (∀ q, q < i → (d[q]!).val < i) → (∀ q, i ≤ q → q < n → (d[q]!).val = q) → Go.Sort.insOuter lt 0 n i d = Go.Sort.insOuter lx 0 n i d := by
  intro m
  induction m with
  | zero =>
    intro i d hm hi hs h1 h2
    have : i = n := by omega
    subst this
    rw [outer_stop lt _ _ _ (by omega), outer_stop lx _ _ _ (by omega)]
  | succ m ih =>
    intro i d hm hi hs h1 h2
    have hin : i < n := by omega
    have hii := h2 i (Nat.le_refl _) hin
    rw [outer_go lt _ _ _ hin, outer_go lx _ _ _ hin]
    rw [insInner_lex lt lx 0 i d (by omega) (fun q hq => hl _ _ (by rw [hii]; exact h1 q hq))]
    obtain ⟨a1, a2, a3⟩ := insInner_vals lx 0 i (fun x => x.val < i + 1) i d (Nat.le_refl _) (by omega) (fun q hq => by
      by_cases e : q = i
      · subst e; rw [hii]; omega
      · have := h1 q (by omega); omega)
    refine ih (i + 1) _ (by omega) (by omega) (by rw [a1]; exact hs) (fun q hq => a2 q (by omega)) (fun q hq hq2 => ?_)
    rw [a3 q (by omega)]
    exact h2 q (by omega) hq2
/-- The library's insertion sort of the places is their order by key, then place. -/
theorem ord_spec (n : Nat) [Inhabited (Fin n)] (key : Fin n → Int) (cf : Fin n → Fin n → Int) (he : ∀ x y, cf x y < 0 ↔ key x < key y) : (XStable.ordOf n cf).Perm (XStable.iota n) ∧ (XStable.ordOf n cf).Pairwise (fun a b => ∃ x y : Fin n, ((x.val : Nat) : Int) = a ∧ ((y.val : Nat) : Int) = b ∧ (key x < key y ∨ (key x = key y ∧ x.val < y.val))) := by
  have hlt : ∀ x y, Go.Proofs.ltOf cf x y = decide (key x < key y) := by
    intro x y
    unfold Go.Proofs.ltOf
    exact decide_eq_decide.2 (he x y)
  have hlx : ∃ lx : Fin n → Fin n → Bool, ∀ x y, lx x y = decide (key x < key y ∨ (key x = key y ∧ x.val < y.val)) := ⟨fun x y => decide (key x < key y ∨ (key x = key y ∧ x.val < y.val)), fun _ _ => rfl⟩
  obtain ⟨lx, hlx⟩ := hlx
  have hd0 : ∀ q (_ : q < n), ((Array.ofFn (fun i : Fin n => i))[q]!).val = q := by
    intro q hq
    rw [getElem!_pos (Array.ofFn (fun i : Fin n => i)) q (by simpa using hq)]
    simp
  have e : Go.Sort.insertionSort (Go.Proofs.ltOf cf) (Array.ofFn (fun i : Fin n => i)) 0 n = Go.Sort.insertionSort lx (Array.ofFn (fun i : Fin n => i)) 0 n := by
    unfold Go.Sort.insertionSort
    by_cases h1 : 0 + 1 ≤ n
    · refine insOuter_lex _ lx (fun x y hxy => ?_) (n - (0 + 1)) (0 + 1) _ rfl h1 (by simp) (fun q hq => ?_) (fun q _ hq => hd0 q hq)
      · rw [hlt, hlx, decide_eq_decide]
        omega
      · obtain rfl : q = 0 := by omega
        rw [hd0 0 (by omega)]
        omega
    · rw [outer_stop _ _ _ _ (by omega), outer_stop lx _ _ _ (by omega)]
  have hS : Go.Sort.SWO lx := by
    constructor <;> intros <;> simp only [hlx, decide_eq_true_eq, decide_eq_false_iff_not] at * <;> omega
  obtain ⟨⟨s1, _, s3⟩, s4⟩ := Go.Sort.insertionSort_holds hS (Array.ofFn (fun i : Fin n => i)) 0 n (Nat.zero_le _) (by simp)
  unfold XStable.ordOf XStable.iota
  rw [e]
  generalize hD : Go.Sort.insertionSort lx (Array.ofFn (fun i : Fin n => i)) 0 n = D at *
  have hsz : D.size = n := by simpa using s1
  have hp : D.toList.Perm (Array.ofFn (fun i : Fin n => i)).toList := by
    have e1 : D.extract 0 n = D := by
      apply Array.ext
      · simp [hsz]
      · intro i h1 h2; simp
    have e2 : (Array.ofFn (fun i : Fin n => i)).extract 0 n = Array.ofFn (fun i : Fin n => i) := by
      apply Array.ext
      · simp
      · intro i h1 h2; simp
    rw [e1, e2] at s3
    exact s3
  have hio : (Array.ofFn (fun i : Fin n => i)).toList.map (fun i => ((i.val : Nat) : Int)) = (List.range n).map (fun (j : Nat) => (j : Int)) := by
    apply List.ext_getElem
    · simp
    · intro i h1 h2; simp
  refine ⟨?_, ?_⟩
  · rw [← hio]
    exact hp.map _
  · rw [List.pairwise_map]
    have hnd : D.toList.Nodup := by
      refine hp.nodup_iff.2 ?_
      rw [List.Nodup, List.pairwise_iff_getElem]
      intro i j hi hj hij h
      have : i = j := by simpa using h
      omega
    rw [List.pairwise_iff_getElem]
    intro i j hi hj hij
    have hi' : i < D.size := by simpa using hi
    have hj' : j < D.size := by simpa using hj
    have h4 := s4 i j (Nat.zero_le _) hij (by omega)
    rw [getElem!_pos D j hj', getElem!_pos D i hi', hlx, decide_eq_false_iff_not] at h4
    have hne : D[i].val ≠ D[j].val := by
      intro h
      have := List.pairwise_iff_getElem.1 hnd i j hi hj hij
      exact this (by simpa using Fin.ext h)
    refine ⟨D[i], D[j], by simp, by simp, ?_⟩
    omega
theorem iota_get (n i : Nat) (h : i < n) : (XStable.iota n)[i]? = some (i : Int) := by
  unfold XStable.iota
  rw [List.getElem?_map, List.getElem?_range h]
  rfl
theorem siding_l0_ev (x : Int) (l : List S23) (hl : l.length ≤ 12) (hp : 0 < l.length) (v : List Int × Bool) (hv : Ev (fun k => impl_MostInSiding.l1 k x l [] (slices_SortStableFunc_int_int.ord l) l.length 0) v) : ∀ i : Int, 0 ≤ i → i ≤ (l.length : Int) → ∀ acc : List Int, acc.length = l.length → acc.take i.toNat = (XStable.iota l.length).take i.toNat → Ev (fun k => impl_MostInSiding.l0 k x l acc l.length i) v := by
  refine downI (fun acc ha ht => ?_) (fun i h0 h1 ih acc ha ht => ?_)
  · have e : acc = XStable.iota l.length := by
      rw [List.take_of_length_le (by omega), List.take_of_length_le (by rw [XStable.iota_length]; omega)] at ht
      exact ht
    refine Ev.step (f := fun k => impl_MostInSiding.l1 k x l [] (slices_SortStableFunc_int_int.ord l) l.length 0) (fun k => by simp only [impl_MostInSiding.l0]; rw [if_neg (by omega), slices_SortStableFunc_int_int.f, if_pos ⟨e, by omega, hp⟩, Option.bind_some, ha]) hv
  · refine Ev.step (fun k => by simp only [impl_MostInSiding.l0]; rw [if_pos h1, if_pos h0, if_pos (by omega), w64 (x := i + 1) (by omega) (by omega)]) (ih (acc.set i.toNat i) (by simpa using ha) ?_)
    rw [show (i + 1).toNat = i.toNat + 1 by omega, List.take_succ_eq_append_getElem (by rw [List.length_set]; omega), List.getElem_set_self, List.take_set_of_le (Nat.le_refl _), ht, List.take_add_one, iota_get _ _ (by omega)]
    simp
    omega
theorem ord_facts (l : List S23) (hp : 0 < l.length) : (slices_SortStableFunc_int_int.ord l).Perm (XStable.iota l.length) ∧ (slices_SortStableFunc_int_int.ord l).Pairwise (bef l) := by
  letI : Inhabited (Fin l.length) := ⟨⟨0, hp⟩⟩
  have e : slices_SortStableFunc_int_int.ord l = XStable.ordOf l.length (slices_SortStableFunc_int_int.cf l) := by
    unfold slices_SortStableFunc_int_int.ord
    rw [dif_pos hp]
  rw [e]
  obtain ⟨a, b⟩ := ord_spec l.length (fun x => (rd_T23 l ((x.val : Nat) : Int)).f0) (slices_SortStableFunc_int_int.cf l) (slices_SortStableFunc_int_int.cf_lt l)
  refine ⟨a, b.imp (fun {p q} h => ?_)⟩
  obtain ⟨x, y, rfl, rfl, h⟩ := h
  unfold bef
  omega
theorem siding_full (l : List S23) (a : Int) : ∃ (r : List Int) (b : Bool), r.length ≤ 12 ∧ Ev (fun k => spec_MostInSiding.f k l a) (r, b) ∧ Ev (fun k => impl_MostInSiding.f k l a) (r, b) ∧ b = goodTrains l a ∧ (b = true → Filled l (slices_SortStableFunc_int_int.ord l) a r) := by
  cases hg : goodTrains l a
  · refine ⟨[], false, by simp, ?_, ?_, rfl, fun h => by cases h⟩
    · unfold spec_MostInSiding.f
      refine Ev.bind (tiList_ev l a) ?_
      rw [hg]
      exact Ev.now _
    · unfold impl_MostInSiding.f
      refine Ev.bind (areTrains_ev l) ?_
      cases h1 : goodTr l
      · simp only [Bool.false_eq_true, if_false]
        exact Ev.step (fun k => by simp only [impl_MostInSiding.j0, Bool.not_false, if_true]) (Ev.now _)
      · have h2 : decide (0 ≤ a ∧ a ≤ 100000) = false := by
          unfold goodTrains at hg
          unfold goodTr at h1
          rw [← Bool.and_assoc, h1, Bool.true_and] at hg
          exact hg
        unfold impl_isWay.f
        simp only [within_eq, Option.bind_some, h2, if_true]
        exact Ev.step (fun k => by simp only [impl_MostInSiding.j0, Bool.not_false, if_true]) (Ev.now _)
  · have hg' := hg
    unfold goodTrains at hg'
    rw [Bool.and_eq_true, Bool.and_eq_true, decide_eq_true_iff, decide_eq_true_iff] at hg'
    obtain ⟨⟨n0, n1⟩, ha, w0, w1⟩ := hg'
    have hl : l.length ≤ 12 := by omega
    have hp : 0 < l.length := by omega
    obtain ⟨o1, o2⟩ := ord_facts l hp
    have olen : (slices_SortStableFunc_int_int.ord l).length = l.length := by rw [o1.length_eq, XStable.iota_length]
    obtain ⟨r, r0, r1, r2, r3⟩ := siding_walk l hl ha _ olen (fun q => by
      rw [o1.mem_iff]
      unfold XStable.iota
      rw [List.mem_map]
      constructor
      · rintro ⟨j, hj, rfl⟩
        have := List.mem_range.1 hj
        omega
      · rintro ⟨h0, h1⟩
        exact ⟨q.toNat, List.mem_range.2 (by omega), by omega⟩) o2 _ [] rfl a [] w0 w1 List.Pairwise.nil (fun q => Iff.rfl) rfl
    have el : a + lenS l [] = a := by unfold lenS; simp
    rw [el] at r3
    refine ⟨r, true, r0, ?_, ?_, rfl, fun _ => r3⟩
    · unfold spec_MostInSiding.f
      refine Ev.bind (tiList_ev l a) ?_
      rw [hg]
      exact r2
    · unfold impl_MostInSiding.f
      refine Ev.bind (areTrains_ev l) ?_
      have h1 : goodTr l = true := by
        unfold goodTr
        rw [ha, decide_eq_true (show 1 ≤ (l.length : Int) ∧ (l.length : Int) ≤ 12 from ⟨n0, n1⟩)]
        rfl
      unfold impl_isWay.f
      simp only [h1, within_eq, Option.bind_some, decide_eq_true (show 0 ≤ a ∧ a ≤ 100000 from ⟨w0, w1⟩), if_true]
      refine Ev.step (fun k => by simp only [impl_MostInSiding.j0, Option.bind_some]; rw [if_neg (by simp), if_pos (by omega), if_pos (by omega), List.length_replicate, Int.toNat_natCast]) ?_
      exact siding_l0_ev a l hl hp _ r1 0 (by omega) (by omega) _ (by simp) (by simp)
theorem siding_both (l : List S23) (a : Int) : ∃ (r : List Int) (b : Bool), r.length ≤ 12 ∧ Ev (fun k => spec_MostInSiding.f k l a) (r, b) ∧ Ev (fun k => impl_MostInSiding.f k l a) (r, b) := by
  obtain ⟨r, b, h1, h2, h3, _⟩ := siding_full l a
  exact ⟨r, b, h1, h2, h3⟩
theorem qSame_l0_ev (l : List Int) (hl : l.length ≤ 1000) : ∀ i : Int, 0 ≤ i → i ≤ l.length → Ev (fun k => laws_qSame.l0 k l l l.length i) true := by
  refine downI ?_ (fun i h0 h1 ih => ?_)
  · exact Ev.step (fun k => by simp only [laws_qSame.l0]; rw [if_neg (by omega)]) (Ev.now _)
  · exact Ev.step (fun k => by simp only [laws_qSame.l0, if_true]; rw [if_pos h1, if_pos h0, if_pos h1, if_pos h1, w64 (x := i + 1) (by omega) (by omega)]) ih
theorem qSame_ev (l : List Int) (hl : l.length ≤ 1000) : Ev (fun k => laws_qSame.f k l l) true := by
  refine Ev.congr (fun k => by unfold laws_qSame.f; rw [if_pos rfl]) ?_
  exact qSame_l0_ev l hl 0 (by omega) (by omega)
theorem qHas_l0_ev (l : List Int) (x : Int) (hl : l.length ≤ 1000) : ∀ i : Int, 0 ≤ i → i ≤ l.length → Ev (fun k => laws_qHas.l0 k x l l.length i) (decide (x ∈ l.drop i.toNat)) := by
  refine downI ?_ (fun i h0 h1 ih => ?_)
  · rw [List.drop_of_length_le (by omega)]
    rw [decide_eq_false (by simp)]
    exact Ev.step (fun k => by simp only [laws_qHas.l0]; rw [if_neg (by omega)]) (Ev.now _)
  · rw [drop_get l 0 i h0 h1]
    by_cases e : rd l i = x
    · rw [decide_eq_true (show x ∈ l.getD i.toNat 0 :: l.drop (i + 1).toNat from List.mem_cons.2 (.inl e.symm))]
      exact Ev.step (fun k => by simp only [laws_qHas.l0]; rw [if_pos h1, if_pos h0, if_pos h1, if_pos e]) (Ev.now _)
    · have em : decide (x ∈ l.getD i.toNat 0 :: l.drop (i + 1).toNat) = decide (x ∈ l.drop (i + 1).toNat) := by
        rw [decide_eq_decide, List.mem_cons]
        constructor
        · rintro (h | h)
          · exact absurd h.symm e
          · exact h
        · exact .inr
      rw [em]
      exact Ev.step (fun k => by simp only [laws_qHas.l0]; rw [if_pos h1, if_pos h0, if_pos h1, if_neg e, w64 (x := i + 1) (by omega) (by omega)]) ih
theorem qHas_ev (l : List Int) (x : Int) (hl : l.length ≤ 1000) : Ev (fun k => laws_qHas.f k l x) (decide (x ∈ l)) := by
  have h := qHas_l0_ev l x hl 0 (by omega) (by omega)
  simpa [laws_qHas.f] using h
/-- All trains together. -/
def lenAll (l : List S23) : Int := (l.map fun x => x.f0).sum
theorem len_bd : ∀ (l : List S23), l.all okTrain = true → 0 ≤ lenAll l ∧ lenAll l ≤ 1000 * l.length := by
  intro l
  induction l with
  | nil => intro _; simp [lenAll]
  | cons x t ih =>
    intro h
    rw [List.all_cons, Bool.and_eq_true] at h
    have h1 := okTrain_iff.1 h.1
    have h2 := ih h.2
    have e : lenAll (x :: t) = x.f0 + lenAll t := by unfold lenAll; simp
    rw [e, List.length_cons]
    omega
theorem implFits_l0_ev (l : List S23) (hl : l.length ≤ 12) (hg : l.all okTrain = true) (a : Int) : ∀ i : Int, 0 ≤ i → i ≤ l.length → ∀ s : Int, 0 ≤ s → s + lenAll (l.drop i.toNat) ≤ 1000000 → Ev (fun k => impl_FitsSiding.l0 k a s l l.length i) (decide (s + lenAll (l.drop i.toNat) ≤ a), true) := by
  refine downI (fun s hs hb => ?_) (fun i h0 h1 ih s hs hb => ?_)
  · rw [List.drop_of_length_le (by omega)]
    have e : lenAll ([] : List S23) = 0 := rfl
    rw [e, Int.add_zero]
    exact Ev.step (fun k => by simp only [impl_FitsSiding.l0]; rw [if_neg (by omega)]) (Ev.now _)
  · have e : lenAll (l.drop i.toNat) = (rd_T23 l i).f0 + lenAll (l.drop (i + 1).toNat) := by rw [drop_get l z23 i h0 h1]; unfold lenAll; simp; rfl
    have hok := okTrain_iff.1 (List.all_eq_true.1 hg _ (get_mem l z23 i h0 h1))
    change (1 ≤ (rd_T23 l i).f0 ∧ (rd_T23 l i).f0 ≤ 1000) ∧ _ at hok
    have hn := (len_bd (l.drop (i + 1).toNat) (List.all_eq_true.2 fun x hx => List.all_eq_true.1 hg x (List.mem_of_mem_drop hx))).1
    rw [e] at hb ⊢
    rw [← Int.add_assoc]
    exact Ev.step (fun k => by simp only [impl_FitsSiding.l0]; rw [if_pos h1, if_pos h0, if_pos h1, w64 (x := i + 1) (by omega) (by omega), w64 (x := s + (rd_T23 l i).f0) (by omega) (by omega)]) (ih _ (by omega) (by omega))
theorem specFits_l0_ev (l : List S23) (hl : l.length ≤ 12) (hg : l.all okTrain = true) (a : Int) : ∀ i : Int, 0 ≤ i → i ≤ l.length → ∀ s : Int, 0 ≤ s → s + lenAll (l.drop i.toNat) ≤ 1000000 → Ev (fun k => spec_FitsSiding.l0 k a s l l.length i) (decide (s + lenAll (l.drop i.toNat) ≤ a), true) := by
  refine downI (fun s hs hb => ?_) (fun i h0 h1 ih s hs hb => ?_)
  · rw [List.drop_of_length_le (by omega)]
    have e : lenAll ([] : List S23) = 0 := rfl
    rw [e, Int.add_zero]
    exact Ev.step (fun k => by simp only [spec_FitsSiding.l0]; rw [if_neg (by omega)]) (Ev.now _)
  · have e : lenAll (l.drop i.toNat) = (rd_T23 l i).f0 + lenAll (l.drop (i + 1).toNat) := by rw [drop_get l z23 i h0 h1]; unfold lenAll; simp; rfl
    have hok := okTrain_iff.1 (List.all_eq_true.1 hg _ (get_mem l z23 i h0 h1))
    change (1 ≤ (rd_T23 l i).f0 ∧ (rd_T23 l i).f0 ≤ 1000) ∧ _ at hok
    have hn := (len_bd (l.drop (i + 1).toNat) (List.all_eq_true.2 fun x hx => List.all_eq_true.1 hg x (List.mem_of_mem_drop hx))).1
    rw [e] at hb ⊢
    rw [← Int.add_assoc]
    exact Ev.step (fun k => by simp only [spec_FitsSiding.l0]; rw [if_pos h1, if_pos h0, if_pos h1, w64 (x := i + 1) (by omega) (by omega), w64 (x := s + (rd_T23 l i).f0) (by omega) (by omega)]) (ih _ (by omega) (by omega))
def fitsR (l : List S23) (a : Int) : Bool × Bool := if goodTrains l a = true then (decide (lenAll l ≤ a), true) else (false, false)
theorem good_parts {l : List S23} {a : Int} : goodTrains l a = true ↔ goodTr l = true ∧ (0 ≤ a ∧ a ≤ 100000) := by
  unfold goodTrains goodTr
  rw [← Bool.and_assoc, Bool.and_eq_true, decide_eq_true_iff]
theorem goodTr_parts {l : List S23} : goodTr l = true ↔ (1 ≤ (l.length : Int) ∧ (l.length : Int) ≤ 12) ∧ l.all okTrain = true := by
  unfold goodTr
  rw [Bool.and_eq_true, decide_eq_true_iff]
theorem implFits_ev (l : List S23) (a : Int) : Ev (fun k => impl_FitsSiding.f k l a) (fitsR l a) := by
  unfold impl_FitsSiding.f fitsR impl_isWay.f
  refine Ev.bind (areTrains_ev l) ?_
  simp only [within_eq, Option.bind_some]
  by_cases h1 : goodTr l = true
  · simp only [h1, if_true]
    by_cases h2 : 0 ≤ a ∧ a ≤ 100000
    · rw [if_pos (good_parts.2 ⟨h1, h2⟩)]
      obtain ⟨n, ok⟩ := goodTr_parts.1 h1
      have b := len_bd l ok
      simp only [decide_eq_true h2, Bool.not_true]
      refine Ev.step (fun k => by simp only [impl_FitsSiding.j0, Bool.false_eq_true, if_false]; rfl) ?_
      have h := implFits_l0_ev l (by omega) ok a 0 (by omega) (by omega) 0 (by omega) (by simp; omega)
      simpa using h
    · rw [if_neg (fun h => h2 (good_parts.1 h).2)]
      simp only [decide_eq_false h2, Bool.not_false]
      exact Ev.step (fun k => by simp only [impl_FitsSiding.j0, if_true]) (Ev.now _)
  · rw [if_neg (fun h => h1 (good_parts.1 h).1), Bool.not_eq_true] at *
    simp only [h1, Bool.false_eq_true, if_false]
    exact Ev.step (fun k => by simp only [impl_FitsSiding.j0, if_true]) (Ev.now _)
theorem specFits_ev (l : List S23) (a : Int) : Ev (fun k => spec_FitsSiding.f k l a) (fitsR l a) := by
  unfold spec_FitsSiding.f fitsR
  refine Ev.bind (tiList_ev l a) ?_
  by_cases h1 : goodTrains l a = true
  · simp only [h1, if_true]
    obtain ⟨n, ok⟩ := goodTr_parts.1 (good_parts.1 h1).1
    have b := len_bd l ok
    have h := specFits_l0_ev l (by omega) ok a 0 (by omega) (by omega) 0 (by omega) (by simp; omega)
    simpa using h
  · simp only [if_neg h1]
    exact Ev.now _
/-! ### What the law says of fronts, headways, trains that are met, sidings -/
theorem meet_cross {s1 t1 g : Int} (h : 0 < s1 + t1) : (lo (g * s1) (s1 + t1)).1 * (lo (g * t1) (s1 + t1)).2 + (lo (g * t1) (s1 + t1)).1 * (lo (g * s1) (s1 + t1)).2 = g * (lo (g * s1) (s1 + t1)).2 * (lo (g * t1) (s1 + t1)).2 := by
  have c1 := lo_cross (g * s1) (s1 + t1)
  have c2 := lo_cross (g * t1) (s1 + t1)
  generalize (lo (g * s1) (s1 + t1)).1 = a at *
  generalize (lo (g * s1) (s1 + t1)).2 = b at *
  generalize (lo (g * t1) (s1 + t1)).1 = c at *
  generalize (lo (g * t1) (s1 + t1)).2 = d at *
  refine mul_cancel_r h ?_
  grind
structure HeadLaw (s0 s1 t1 g x y p q : Int) : Prop where
  low : Ev (fun k => laws_qLow.f k x y) true
  pole : ¬ wrap64 (x * q) < wrap64 (p * y)
  end_ : ¬ wrap64 (t1 * (wrap64 ((wrap64 (g * y)) - (wrap64 (x * s1))))) > wrap64 ((wrap64 ((wrap64 (g - s0)) * s1)) * y)
  eq : wrap64 (x * q) > wrap64 (p * y) → wrap64 (t1 * (wrap64 ((wrap64 (g * y)) - (wrap64 (x * s1))))) = wrap64 ((wrap64 ((wrap64 (g - s0)) * s1)) * y)
theorem head_pole {s0 s1 t1 n x y p q : Int} (c1 : x * (s1 * t1) = n * y) (c2 : p * s1 = s0 * q) : (p * y) * ((s1 * t1) * s1) = (s0 * t1) * (y * q * s1) ∧ (x * q) * ((s1 * t1) * s1) = n * (y * q * s1) := by
  constructor
  · have : (p * y) * ((s1 * t1) * s1) = (p * s1) * (y * t1 * s1) := by grind
    rw [this, c2]; grind
  · have : (x * q) * ((s1 * t1) * s1) = (x * (s1 * t1)) * (q * s1) := by grind
    rw [this, c1]; grind
theorem head_end {s1 t1 g n x y : Int} (c1 : x * (s1 * t1) = n * y) : t1 * (g * y - x * s1) = (g * t1 - n) * y := by
  have : t1 * (g * y - x * s1) = g * t1 * y - x * (s1 * t1) := by grind
  rw [this, c1]; grind
theorem head_law {s0 s1 t0 t1 g : Int} (ok : okTwo s0 s1 t0 t1 g) (hg : s0 ≤ g) : HeadLaw s0 s1 t1 g (lo (headN s0 s1 t1 g) (s1 * t1)).1 (lo (headN s0 s1 t1 g) (s1 * t1)).2 (lo s0 s1).1 (lo s0 s1).2 := by
  obtain ⟨Ba, Bb, Bc, Bd, Bn⟩ := headB ok hg
  have low := qLow_lo (n := headN s0 s1 t1 g) Bd.1 (by omega)
  have c1 := lo_cross (headN s0 s1 t1 g) (s1 * t1)
  have y0 := lo_pos (headN s0 s1 t1 g) Bd.1
  have y1 := lo_le2 (headN s0 s1 t1 g) Bd.1
  have x0 := lo_nonneg (n := headN s0 s1 t1 g) Bd.1 (by omega)
  have x1 := lo_le1 (n := headN s0 s1 t1 g) Bd.1 (by omega)
  have hN : headN s0 s1 t1 g = s0 * t1 ∨ headN s0 s1 t1 g = g * t1 - (g - s0) * s1 := by unfold headN; split <;> omega
  obtain ⟨⟨⟨a1, a2⟩, a3, a4⟩, ⟨⟨b1, b2⟩, b3, b4⟩, d1, d2⟩ := ok
  have c2 := lo_cross s0 s1
  have q0 := lo_pos s0 (show 0 < s1 by omega)
  have q1 := lo_le2 s0 (show 0 < s1 by omega)
  have p0 := lo_nonneg (n := s0) (show 0 < s1 by omega) (by omega)
  have p1 := lo_le1 (n := s0) (show 0 < s1 by omega) (by omega)
  generalize (lo (headN s0 s1 t1 g) (s1 * t1)).1 = x at *
  generalize (lo (headN s0 s1 t1 g) (s1 * t1)).2 = y at *
  generalize headN s0 s1 t1 g = n at *
  generalize (lo s0 s1).1 = p at *
  generalize (lo s0 s1).2 = q at *
  have m1 := mul_bd x0 (show x ≤ 10000000 by omega) (Int.le_of_lt q0) (show q ≤ 100 by omega)
  have m2 := mul_bd p0 (show p ≤ 1000 by omega) (Int.le_of_lt y0) (show y ≤ 10000 by omega)
  have m3 := mul_bd d1 d2 (Int.le_of_lt y0) (show y ≤ 10000 by omega)
  have m4 := mul_bd x0 (show x ≤ 10000000 by omega) (show 0 ≤ s1 by omega) a4
  have m5 := mul_bd (show 0 ≤ t1 by omega) b4 m3.1 m3.2
  have m6 := mul_bd (show 0 ≤ t1 by omega) b4 m4.1 m4.2
  have m7 := mul_bd Bc.1 Bc.2 (Int.le_of_lt y0) (show y ≤ 10000 by omega)
  have e7 : t1 * (g * y - x * s1) = t1 * (g * y) - t1 * (x * s1) := Int.mul_sub ..
  obtain ⟨i1, i2⟩ := head_pole (t1 := t1) c1 c2
  have i3 := head_end (g := g) c1
  have f0 : 0 < (s1 * t1) * s1 := mul_pos Bd.1 (by omega)
  have f1 : 0 < y * q * s1 := mul_pos (mul_pos y0 q0) (by omega)
  have w1 : wrap64 (x * q) = x * q := w64 (by omega) (by omega)
  have w2 : wrap64 (p * y) = p * y := w64 (by omega) (by omega)
  have w3 : wrap64 (t1 * (wrap64 ((wrap64 (g * y)) - (wrap64 (x * s1))))) = (g * t1 - n) * y := by
    rw [w64 (x := g * y) (by omega) (by omega), w64 (x := x * s1) (by omega) (by omega), w64 (x := g * y - x * s1) (by omega) (by omega), w64 (x := t1 * (g * y - x * s1)) (by omega) (by omega), i3]
  have w4 : wrap64 ((wrap64 ((wrap64 (g - s0)) * s1)) * y) = (g - s0) * s1 * y := by
    rw [w64 (x := g - s0) (by omega) (by omega), w64 (x := (g - s0) * s1) (by omega) (by omega), w64 (x := (g - s0) * s1 * y) (by omega) (by omega)]
  refine ⟨low, ?_, ?_, ?_⟩
  · rw [w1, w2]
    refine Int.not_lt.2 (le_cancel f0 ?_)
    rw [i1, i2]
    exact mul_le_r (Int.le_of_lt f1) Bn.1
  · rw [w3, w4]
    exact Int.not_lt.2 (mul_le_r (Int.le_of_lt y0) (by omega))
  · rw [w1, w2, w3, w4]
    intro h
    rcases hN with e | e
    · rw [e] at i2
      have : x * q = p * y := mul_cancel_r f0 (by rw [i1, i2])
      omega
    · rw [e]
      congr 1
      omega
/-- Half of them: those that leave from the time 0 on. -/
theorem count_half (q : Int) (h0 : 0 ≤ q) (h1 : q ≤ 10000) : Int.tmod (2 * q + 1) 2 = 1 ∧ wrap64 (Int.tdiv (wrap64 (2 * q + 1 - 1)) 2) = q := by
  rw [w64 (x := 2 * q + 1 - 1) (by omega) (by omega), Int.tmod_eq_emod_of_nonneg (by omega), Int.tdiv_eq_ediv_of_nonneg (by omega), w64 (x := (2 * q + 1 - 1) / 2) (by omega) (by omega)]
  omega
theorem met_half {j m : Int} (h0 : 0 ≤ m) (h1 : m ≤ j) (hj : 1 ≤ j) (hj2 : j ≤ 10000) : ¬ (lo (j + m) 2).1 > wrap64 (j * (lo (j + m) 2).2) ∧ (m < j → (lo (j + m) 2).1 ≠ wrap64 (j * (lo (j + m) 2).2)) := by
  have c := lo_cross (j + m) 2
  have y0 := lo_pos (j + m) (show (0 : Int) < 2 by omega)
  have y1 := lo_le2 (j + m) (show (0 : Int) < 2 by omega)
  generalize (lo (j + m) 2).1 = x at *
  generalize (lo (j + m) 2).2 = y at *
  have e : y = 1 ∨ y = 2 := by omega
  rcases e with rfl | rfl
  · rw [w64 (x := j * 1) (by omega) (by omega)]
    omega
  · rw [w64 (x := j * 2) (by omega) (by omega)]
    omega
theorem lenS_perm {l : List S23} {a b : List Int} (h : a.Perm b) : lenS l a = lenS l b := by
  unfold lenS
  induction h with
  | nil => rfl
  | cons x _ ih => simp only [List.map_cons, List.sum_cons, ih]
  | swap x y t => simp only [List.map_cons, List.sum_cons]; omega
  | trans _ _ h1 h2 => exact h1.trans h2
theorem lenS_iota (l : List S23) : lenS l (XStable.iota l.length) = lenAll l := by
  unfold lenS lenAll XStable.iota
  rw [List.map_map]
  congr 1
  refine List.ext_getElem (by simp) (fun i h1 h2 => ?_)
  have hi : i < l.length := by simpa using h1
  simp only [List.getElem_map, List.getElem_range, Function.comp]
  unfold rd_T23
  rw [Int.toNat_natCast, List.getD_eq_getElem?_getD, List.getElem?_eq_getElem hi]
  rfl
theorem lenS_bd {l : List S23} (hg : l.all okTrain = true) : ∀ xs : List Int, (∀ x, x ∈ xs → 0 ≤ x ∧ x < (l.length : Int)) → 0 ≤ lenS l xs ∧ lenS l xs ≤ 1000 * xs.length := by
  intro xs
  induction xs with
  | nil => intro _; simp [lenS]
  | cons x t ih =>
    intro h
    have h1 := h x List.mem_cons_self
    have hok := okTrain_iff.1 (List.all_eq_true.1 hg _ (get_mem l z23 x h1.1 h1.2))
    change (1 ≤ (rd_T23 l x).f0 ∧ (rd_T23 l x).f0 ≤ 1000) ∧ _ at hok
    have h2 := ih (fun y hy => h y (List.mem_cons_of_mem _ hy))
    have e : lenS l (x :: t) = (rd_T23 l x).f0 + lenS l t := by unfold lenS; simp
    rw [e, List.length_cons]
    omega
/-- A full siding, as the law sees it. -/
structure SidingLaw (l : List S23) (a : Int) (r : List Int) : Prop where
  len : r.length ≤ 12
  n : l.length ≤ 12
  way : 0 ≤ a ∧ a ≤ 100000
  g : l.all okTrain = true
  up : r.Pairwise (· < ·)
  mem : ∀ x, x ∈ r → 0 ≤ x ∧ x < (l.length : Int)
  sum : lenS l r ≤ a
  fits : decide (lenAll l ≤ a) = ((r.length : Int) == (l.length : Int))
  out : ∀ k : Int, 0 ≤ k → k < l.length → k ∉ r → a < lenS l r + (rd_T23 l k).f0 ∧ ∀ q, q ∈ r → bef l q k
theorem siding_law {l : List S23} {a : Int} {r : List Int} (hg : goodTrains l a = true) (F : Filled l (slices_SortStableFunc_int_int.ord l) a r) (hr : r.length ≤ 12) : SidingLaw l a r := by
  obtain ⟨h1, ha⟩ := good_parts.1 hg
  obtain ⟨hn, hok⟩ := goodTr_parts.1 h1
  obtain ⟨o1, o2⟩ := ord_facts l (by omega)
  obtain ⟨up, pre, rest, he, hp, hs, hf⟩ := F
  have hmem : ∀ q, q ∈ slices_SortStableFunc_int_int.ord l ↔ 0 ≤ q ∧ q < (l.length : Int) := fun q => by
    rw [o1.mem_iff]
    unfold XStable.iota
    rw [List.mem_map]
    constructor
    · rintro ⟨j, hj, rfl⟩
      have := List.mem_range.1 hj
      omega
    · rintro ⟨h0, h1⟩
      exact ⟨q.toNat, List.mem_range.2 (by omega), by omega⟩
  have mem : ∀ x, x ∈ r → 0 ≤ x ∧ x < (l.length : Int) := fun x hx => (hmem x).1 (by rw [he]; exact List.mem_append_left _ (hp.mem_iff.1 hx))
  have tot : lenAll l = lenS l pre + lenS l rest := by rw [← lenS_iota, ← lenS_perm o1, he, lenS_append]
  have olen : pre.length + rest.length = l.length := by
    have := o1.length_eq
    rw [he, List.length_append, XStable.iota_length] at this
    exact this
  have rest_bd := lenS_bd hok rest (fun x hx => (hmem x).1 (by rw [he]; exact List.mem_append_right _ hx))
  have bpr : ∀ q, q ∈ pre → ∀ k, k ∈ rest → bef l q k := by
    rw [he] at o2
    intro q hq k hk
    exact (List.pairwise_append.1 o2).2.2 q hq k hk
  refine ⟨hr, by omega, ha, hok, up, mem, by rw [lenS_perm hp]; exact hs, ?_, fun k k0 k1 k2 => ?_⟩
  · cases rest with
    | nil =>
      have e : lenS l [] = 0 := rfl
      have := hp.length_eq
      rw [decide_eq_true (by omega)]
      symm
      rw [beq_iff_eq]
      simp at olen
      omega
    | cons p t =>
      have hb := hf p t rfl
      have ht := lenS_bd hok t (fun x hx => (hmem x).1 (by rw [he]; exact List.mem_append_right _ (List.mem_cons_of_mem _ hx)))
      have e : lenS l (p :: t) = (rd_T23 l p).f0 + lenS l t := by unfold lenS; simp
      have := hp.length_eq
      rw [decide_eq_false (by omega)]
      symm
      rw [beq_eq_false_iff_ne]
      simp at olen
      omega
  · have hk : k ∈ rest := by
      have := (hmem k).2 ⟨k0, k1⟩
      rw [he, List.mem_append] at this
      rcases this with h | h
      · exact absurd (hp.mem_iff.2 h) k2
      · exact h
    refine ⟨?_, fun q hq => bpr q (hp.mem_iff.1 hq) k hk⟩
    rw [lenS_perm hp]
    cases rest with
    | nil => cases hk
    | cons p t =>
      have hb := hf p t rfl
      rcases List.mem_cons.1 hk with h | h
      · rw [h]; exact hb
      · rw [he] at o2
        have := (List.pairwise_cons.1 (List.pairwise_append.1 o2).2.1).1 k h
        unfold bef at this
        omega
theorem rd_up {r : List Int} (h : r.Pairwise (· < ·)) (i : Int) (h0 : 0 < i) (h1 : i < r.length) : rd r (i - 1) < rd r i := by
  have hp := List.pairwise_iff_getElem.1 h
  have e : ∀ q : Int, 0 ≤ q → (hq : q < r.length) → rd r q = r[q.toNat]'(by omega) := by
    intro q q0 hq
    unfold rd
    rw [List.getD_eq_getElem?_getD, List.getElem?_eq_getElem (by omega)]
    rfl
  rw [e (i - 1) (by omega) (by omega), e i (by omega) h1]
  exact hp _ _ _ _ (by omega)
/-! ### A reader of choices: whatever its state, it goes on -/
theorem u64_wrap (n : Int) : IntKind.u64.wrap n = n % 18446744073709551616 := by simp [IntKind.wrap, IntKind.bits, IntKind.signed]
theorem mask255 (y : Int) : 0 ≤ Go.bits .and .u64 (IntKind.u64.wrap y / 1099511627776) 255 ∧ Go.bits .and .u64 (IntKind.u64.wrap y / 1099511627776) 255 ≤ 255 := by
  have h0 : 0 ≤ IntKind.u64.wrap y / 1099511627776 := by rw [u64_wrap]; omega
  have h1 : IntKind.u64.wrap y / 1099511627776 < 2 ^ 24 := by rw [u64_wrap]; omega
  have e := Go.bits_mask .u64 24 (by decide) (fun n a b => by rw [u64_wrap]; omega) 8 (by decide) (IntKind.u64.wrap y / 1099511627776) h0 h1
  rw [show (255 : Int) = 2 ^ 8 - 1 by decide, e]
  omega
/-- The bytes of a code. -/
def Bytes (code : List Int) : Prop := code.length ≤ 1048576 ∧ ∀ x, x ∈ code → 0 ≤ x ∧ x ≤ 255
theorem bytes_of {code : List Int} (hl : code.length ≤ 1048576) (h : ∀ x, x ∈ code → (Lit.int .u8 x).wf = true) : Bytes code := by
  refine ⟨hl, fun x hx => ?_⟩
  have := h x hx
  simp only [Lit.wf, IntKind.min, IntKind.max, IntKind.signed, IntKind.bits, Bool.and_eq_true, decide_eq_true_eq] at this
  simp at this
  omega
theorem next_ok {code : List Int} (hc : Bytes code) (p s : Int) (h0 : 0 ≤ p) (h1 : p ≤ 1000000000) : ∃ x s', spec_l1Cur_next.f code p s = some (x, p + 1, s') ∧ 0 ≤ x ∧ x ≤ 255 := by
  unfold spec_l1Cur_next.f
  have hw : wrap64 (p + 1) = p + 1 := w64 (by omega) (by omega)
  rw [hw]
  by_cases c : p < (code.length : Int)
  · rw [if_pos c, if_pos h0]
    obtain ⟨b0, b1⟩ := hc.2 (rd code p) (get_mem code 0 p h0 c)
    rw [if_pos (by omega), w64 (x := rd code p) (by omega) (by omega)]
    exact ⟨_, _, rfl, b0, b1⟩
  · rw [if_neg c]
    by_cases c2 : p + 1 ≤ (code.length : Int)
    · omega
    · rw [if_neg c2]
      have m := mask255 (IntKind.u64.wrap (IntKind.u64.wrap (s * 6364136223846793005)) + 1442695040888963407)
      rw [w64 (by omega) (by omega)]
      exact ⟨_, _, rfl, m.1, m.2⟩
theorem pick_ok {code : List Int} (hc : Bytes code) (p s n : Int) (h0 : 0 ≤ p) (h1 : p ≤ 999999990) (hn : n ≤ 1000000000) : ∃ x p' s', spec_l1Cur_pick.f code p s n = some (x, p', s') ∧ 0 ≤ x ∧ (1 ≤ n → x < n) ∧ x ≤ 1000000000 ∧ p ≤ p' ∧ p' ≤ p + 2 := by
  unfold spec_l1Cur_pick.f
  by_cases c : n ≤ 1
  · rw [if_pos c]
    exact ⟨0, p, s, rfl, by omega, by omega, by omega, by omega, by omega⟩
  · rw [if_neg c]
    obtain ⟨x, s1, e1, x0, x1⟩ := next_ok hc p s h0 (by omega)
    rw [e1]
    simp only [Option.bind_some]
    have tm : ∀ y : Int, 0 ≤ y → 0 ≤ Int.tmod y n ∧ Int.tmod y n < n := by
      intro y hy
      rw [Int.tmod_eq_emod_of_nonneg hy]
      exact ⟨Int.emod_nonneg _ (by omega), Int.emod_lt_of_pos _ (by omega)⟩
    by_cases c2 : n > 200
    · rw [if_pos c2]
      obtain ⟨y, s2, e2, y0, y1⟩ := next_ok hc (p + 1) s1 (by omega) (by omega)
      rw [e2]
      simp only [Option.bind_some]
      rw [if_neg (by omega), w64 (x := x * 256) (by omega) (by omega), w64 (x := x * 256 + y) (by omega) (by omega)]
      have := tm (x * 256 + y) (by omega)
      exact ⟨_, _, _, rfl, this.1, fun _ => this.2, by omega, by omega, by omega⟩
    · rw [if_neg c2, if_neg (by omega)]
      have := tm x (by omega)
      exact ⟨_, _, _, rfl, this.1, fun _ => this.2, by omega, by omega, by omega⟩
theorem among_ok {code : List Int} (hc : Bytes code) (p s : Int) (l : List Int) (h0 : 0 ≤ p) (h1 : p ≤ 999999990) (hl : 0 < l.length) (hl2 : l.length ≤ 1000) : ∃ x p' s', spec_l1Cur_among.f code p s l = some (x, p', s') ∧ x ∈ l ∧ p ≤ p' ∧ p' ≤ p + 2 := by
  obtain ⟨x, p', s', e, x0, x1, _, p0, p1⟩ := pick_ok hc p s l.length h0 h1 (by omega)
  have x1 := x1 (by omega)
  unfold spec_l1Cur_among.f
  rw [e]
  simp only [Option.bind_some]
  rw [if_pos x0, if_pos x1]
  exact ⟨_, _, _, rfl, get_mem l 0 x x0 x1, p0, p1⟩
theorem one_ok {code : List Int} (hc : Bytes code) (p s n : Int) (h0 : 0 ≤ p) (h1 : p ≤ 999999990) (hn : n ≤ 1000000000) : ∃ x p' s', spec_l1Cur_one.f code p s n = some (x, p', s') ∧ p ≤ p' ∧ p' ≤ p + 2 := by
  obtain ⟨x, p', s', e, x0, x1, _, p0, p1⟩ := pick_ok hc p s n h0 h1 hn
  unfold spec_l1Cur_one.f
  rw [e]
  exact ⟨_, _, _, rfl, p0, p1⟩
theorem sureTrain_ok {code : List Int} (hc : Bytes code) (p s : Int) (h0 : 0 ≤ p) (h1 : p ≤ 999998000) : ∃ a b p' s', spec_l1Cur_sureTrain.f code p s = some (a, b, p', s') ∧ p ≤ p' ∧ p' ≤ p + 6 := by
  obtain ⟨x, p1, s1, e1, _, q0, q1⟩ := among_ok hc p s [1, 10, 60, 80, 120, 1000] h0 (by omega) (by simp) (by simp)
  obtain ⟨y, p2, s2, e2, y0, y1, y2, q2, q3⟩ := pick_ok hc p1 s1 1 (by omega) (by omega) (by omega)
  obtain ⟨z, p3, s3, e3, z0, z1, z2, q4, q5⟩ := pick_ok hc p2 s2 30 (by omega) (by omega) (by omega)
  exact ⟨_, _, p3, s3, by unfold spec_l1Cur_sureTrain.f; rw [e1, Option.bind_some, e2, Option.bind_some, e3, Option.bind_some], by omega, by omega⟩
theorem train_ok {code : List Int} (hc : Bytes code) (p s : Int) (h0 : 0 ≤ p) (h1 : p ≤ 999997000) : ∃ a b p' s', spec_l1Cur_train.f code p s = some (a, b, p', s') ∧ p ≤ p' ∧ p' ≤ p + 8 := by
  obtain ⟨x, p1, s1, e1, q0, q1⟩ := one_ok hc p s 14 h0 (by omega) (by omega)
  unfold spec_l1Cur_train.f
  cases x with
  | true =>
    obtain ⟨y, p2, s2, e2, _, q2, q3⟩ := among_ok hc p1 s1 [(-1), 0, 1, 1000, 1001, 4611686018427387904] (by omega) (by omega) (by simp) (by simp)
    obtain ⟨z, p3, s3, e3, _, q4, q5⟩ := among_ok hc p2 s2 [(-1), 0, 1, 100, 101, 4611686018427387904] (by omega) (by omega) (by simp) (by simp)
    exact ⟨y, z, p3, s3, by rw [e1, Option.bind_some, if_pos rfl, e2, Option.bind_some, e3, Option.bind_some], by omega, by omega⟩
  | false =>
    obtain ⟨a, b, p2, s2, e2, q2, q3⟩ := sureTrain_ok hc p1 s1 (by omega) (by omega)
    exact ⟨a, b, p2, s2, by rw [e1, Option.bind_some, if_neg (by simp), e2, Option.bind_some], by omega, by omega⟩
theorem way_ok {code : List Int} (hc : Bytes code) (p s : Int) (h0 : 0 ≤ p) (h1 : p ≤ 999998000) : ∃ a p' s', spec_l1Cur_way.f code p s = some (a, p', s') ∧ p ≤ p' ∧ p' ≤ p + 2 := by
  obtain ⟨x, p1, s1, e1, _, q0, q1⟩ := among_ok hc p s [0, 1, 7, 60, 120, 180, 999, 1000, 5000, 100000, 100001, (-1)] h0 (by omega) (by simp) (by simp)
  exact ⟨x, p1, s1, by unfold spec_l1Cur_way.f; rw [e1, Option.bind_some], q0, q1⟩
theorem drawMeet_ok {code : List Int} (hc : Bytes code) : ∃ a b c d e : Int, spec_DrawMeetAfter.f code = some (a, b, c, d, e) := by
  obtain ⟨a, b, p1, s1, e1, q0, q1⟩ := train_ok hc 0 0 (by omega) (by omega)
  obtain ⟨c, d, p2, s2, e2, q2, q3⟩ := train_ok hc p1 s1 (by omega) (by omega)
  obtain ⟨e, p3, s3, e3, q4, q5⟩ := way_ok hc p2 s2 (by omega) (by omega)
  exact ⟨a, b, c, d, e, by unfold spec_DrawMeetAfter.f spec_DrawMeetAfter.i.f; rw [e1, Option.bind_some, e2, Option.bind_some, e3]; rfl⟩
theorem drawCount_ok {code : List Int} (hc : Bytes code) : ∃ (a b : Int) (c : Bool), spec_DrawCountTrainsMet.f code = some (a, b, c) := by
  obtain ⟨a, p1, s1, e1, _, q0, q1⟩ := among_ok hc 0 0 [1, 2, 3, 7, 12, 60, 10000, 10001, 0] (by omega) (by omega) (by simp) (by simp)
  obtain ⟨b, p2, s2, e2, _, q2, q3⟩ := among_ok hc p1 s1 [1, 2, 3, 5, 12, 60, 10000, 10001, 0] (by omega) (by omega) (by simp) (by simp)
  obtain ⟨c, p3, s3, e3, q4, q5⟩ := one_ok hc p2 s2 2 (by omega) (by omega) (by omega)
  exact ⟨a, b, c, by unfold spec_DrawCountTrainsMet.f spec_DrawCountTrainsMet.i.f; rw [e1, Option.bind_some, e2, Option.bind_some, e3]; rfl⟩
theorem drawMetAt_ok {code : List Int} (hc : Bytes code) : ∃ a b c : Int, spec_DrawMetAt.f code = some (a, b, c) := by
  obtain ⟨a, b, c, e0⟩ := drawCount_ok hc
  obtain ⟨x, p1, s1, e1, x0, x1, x2, q0, q1⟩ := pick_ok hc 0 0 9 (by omega) (by omega) (by omega)
  obtain ⟨y, p2, s2, e2, y0, y1, y2, q2, q3⟩ := pick_ok hc p1 s1 9 (by omega) (by omega) (by omega)
  exact ⟨_, _, _, by unfold spec_DrawMetAt.f spec_DrawMetAt.i.f; rw [e0, Option.bind_some, e1, Option.bind_some, e2]; rfl⟩
theorem trains_l1_ev {code : List Int} (hc : Bytes code) : ∀ (d : Nat) (acc : List S23) (p s : Int), (acc.length : Int) + d = 13 → 0 ≤ p → p + 4 * d ≤ 999999000 → ∃ r p' s', Ev (fun k => spec_l1Cur_trains.l1 k acc code p s) (r, p', s') ∧ r.length ≤ 13 ∧ p ≤ p' ∧ p' ≤ p + 4 * d + 2 := by
  intro d
  induction d with
  | zero =>
    intro acc p s ha h0 h1
    obtain ⟨x, p1, s1, e1, x0, x1, x2, q0, q1⟩ := pick_ok hc p s 2 h0 (by omega) (by omega)
    refine ⟨acc, p1, s1, Ev.step (fun k => by simp only [spec_l1Cur_trains.l1]; rw [e1, Option.bind_some, w64 (x := 12 + x) (by omega) (by omega), if_neg (by omega)]) (Ev.now _), by omega, by omega, by omega⟩
  | succ d ih =>
    intro acc p s ha h0 h1
    obtain ⟨x, p1, s1, e1, x0, x1, x2, q0, q1⟩ := pick_ok hc p s 2 h0 (by omega) (by omega)
    by_cases c : (acc.length : Int) < 12 + x
    · obtain ⟨r, p', s', e, a, b, g⟩ := ih (acc ++ [⟨10, 3⟩]) p1 s1 (by simp; omega) (by omega) (by omega)
      refine ⟨r, p', s', ?_, a, by omega, by omega⟩
      refine Ev.step (fun k => by simp only [spec_l1Cur_trains.l1]; rw [e1, Option.bind_some, w64 (x := 12 + x) (by omega) (by omega), if_pos c, if_pos (show acc.length < 8796093022208 by omega)]) ?_
      exact e
    · refine ⟨acc, p1, s1, Ev.step (fun k => by simp only [spec_l1Cur_trains.l1]; rw [e1, Option.bind_some, w64 (x := 12 + x) (by omega) (by omega), if_neg c]) (Ev.now _), by omega, by omega, by omega⟩
theorem trains_l0_ev {code : List Int} (hc : Bytes code) : ∀ (d : Nat) (acc : List S23) (p s : Int), d ≤ 6 → acc.length + d ≤ 6 → 0 ≤ p → p + 8 * d ≤ 999990000 → ∃ r p' s', Ev (fun k => spec_l1Cur_trains.l0 k acc (d : Int) code p s) (r, p', s') ∧ r.length ≤ 13 ∧ p ≤ p' ∧ p' ≤ p + 8 * d + 100 := by
  intro d
  induction d with
  | zero =>
    intro acc p s _ ha h0 h1
    obtain ⟨x, p1, s1, e1, q0, q1⟩ := one_ok hc p s 14 h0 (by omega) (by omega)
    cases x with
    | true =>
      obtain ⟨r, p', s', e, a, b, g⟩ := trains_l1_ev hc (13 - acc.length) acc p1 s1 (by omega) (by omega) (by omega)
      refine ⟨r, p', s', ?_, a, by omega, by omega⟩
      exact Ev.step (fun k => by simp only [spec_l1Cur_trains.l0]; rw [if_neg (by omega), e1, Option.bind_some, if_pos rfl]) e
    | false =>
      exact ⟨acc, p1, s1, Ev.step (fun k => by simp only [spec_l1Cur_trains.l0]; rw [if_neg (by omega), e1, Option.bind_some, if_neg (by simp)]) (Ev.now _), by omega, by omega, by omega⟩
  | succ d ih =>
    intro acc p s hd ha h0 h1
    obtain ⟨a, b, p1, s1, e1, q0, q1⟩ := train_ok hc p s h0 (by omega)
    obtain ⟨r, p', s', e, c, f, g⟩ := ih (acc ++ [⟨a, b⟩]) p1 s1 (by omega) (by simp; omega) (by omega) (by omega)
    refine ⟨r, p', s', ?_, c, by omega, by omega⟩
    refine Ev.step (fun k => by simp only [spec_l1Cur_trains.l0]; rw [if_pos (by omega), e1, Option.bind_some, if_pos (show acc.length < 8796093022208 by omega), w64 (x := ((d + 1 : Nat) : Int) - 1) (by omega) (by omega), show ((d + 1 : Nat) : Int) - 1 = d by omega]) ?_
    exact e
theorem drawSiding_ev {code : List Int} (hc : Bytes code) : ∃ (l : List S23) (a : Int), Ev (fun k => spec_DrawMostInSiding.f k code) (l, a) ∧ l.length ≤ 13 := by
  obtain ⟨x, p1, s1, e1, x0, x1, x2, q0, q1⟩ := pick_ok hc 0 0 6 (by omega) (by omega) (by omega)
  obtain ⟨d, hd⟩ : ∃ d : Nat, x = d := ⟨x.toNat, by omega⟩
  subst hd
  obtain ⟨l, p2, s2, e2, hl, q2, q3⟩ := trains_l0_ev hc d [] p1 s1 (by omega) (by simp; omega) (by omega) (by omega)
  obtain ⟨a, p3, s3, e3, q4, q5⟩ := way_ok hc p2 s2 (by omega) (by omega)
  refine ⟨l, a, ?_, hl⟩
  unfold spec_DrawMostInSiding.f spec_DrawFitsSiding.f spec_DrawFitsSiding.i.f spec_l1Cur_trains.f
  refine Ev.bind (Ev.bind (Ev.bind (Ev.congr (fun k => by rw [e1, Option.bind_some]) e2) (Ev.congr (fun k => by rw [e3, Option.bind_some]) (Ev.now _))) (Ev.now _)) (Ev.now _)
/-! ### The siding -/
section
variable {l : List S23} {a : Int} {r : List Int}
theorem l2_ev (L : SidingLaw l a r) (i : Int) (h0 : 0 ≤ i) (h1 : i < l.length) (hi : i ∉ r) (s y : Int) (hn : Ev (fun k => laws_FnTrainsMeet.l1 k l a r s l l.length (i + 1)) true) : ∀ q : Int, 0 ≤ q → q ≤ r.length → Ev (fun k => laws_FnTrainsMeet.l2 k l a r s i l l.length i r r.length q (rd_T23 l i).f0 y) true := by
  have hl := L.len
  have hll := L.n
  refine downI ?_ (fun q q0 q1 ih => ?_)
  · exact Ev.step (fun k => by simp only [laws_FnTrainsMeet.l2]; rw [if_neg (by omega), w64 (x := i + 1) (by omega) (by omega)]) hn
  · have hm : rd r q ∈ r := get_mem r 0 q q0 q1
    obtain ⟨m0, m1⟩ := L.mem _ hm
    have hb := (L.out i h0 h1 hi).2 _ hm
    unfold bef at hb
    refine Ev.step (fun k => by simp only [laws_FnTrainsMeet.l2]; rw [if_pos q1, if_pos q0, if_pos q1, if_pos m0, if_pos m1, if_neg (by omega), w64 (x := q + 1) (by omega) (by omega)]) ?_
    by_cases e : (rd_T23 l (rd r q)).f0 = (rd_T23 l i).f0
    · exact Ev.congr (fun k => by rw [if_pos e, if_neg (by omega)]) ih
    · exact Ev.congr (fun k => by rw [if_neg e]) ih
theorem l1_ev (L : SidingLaw l a r) : ∀ i : Int, 0 ≤ i → i ≤ l.length → Ev (fun k => laws_FnTrainsMeet.l1 k l a r (lenS l r) l l.length i) true := by
  have hl := L.len
  have hll := L.n
  have hs := lenS_bd L.g r L.mem
  refine downI ?_ (fun i h0 h1 ih => ?_)
  · exact Ev.step (fun k => by simp only [laws_FnTrainsMeet.l1]; rw [if_neg (by omega)]) (Ev.now _)
  · refine Ev.step (fun k => by simp only [laws_FnTrainsMeet.l1]; rw [if_pos h1, if_pos h0, if_pos h1, w64 (x := i + 1) (by omega) (by omega)]) ?_
    refine Ev.bind (qHas_ev r i (by omega)) ?_
    by_cases hi : i ∈ r
    · simp only [decide_eq_true hi, if_true]
      exact ih
    · simp only [decide_eq_false hi, Bool.false_eq_true, if_false]
      have ho := (L.out i h0 h1 hi).1
      have hok := okTrain_iff.1 (List.all_eq_true.1 L.g _ (get_mem l z23 i h0 h1))
      change (1 ≤ (rd_T23 l i).f0 ∧ (rd_T23 l i).f0 ≤ 1000) ∧ _ at hok
      refine Ev.congr (fun k => by rw [w64 (x := lenS l r + (rd_T23 l i).f0) (by omega) (by omega), if_neg (by omega)]) ?_
      exact l2_ev L i h0 h1 hi _ _ ih 0 (by omega) (by omega)
theorem l0_ev (L : SidingLaw l a r) (fits : Bool) (hf : fits = decide (lenAll l ≤ a)) : ∀ i : Int, 0 ≤ i → i ≤ r.length → Ev (fun k => laws_FnTrainsMeet.l0 k l a r fits (lenS l (r.take i.toNat)) r r.length i) true := by
  have hl := L.len
  have hll := L.n
  have hs := L.sum
  have ha := L.way
  refine downI ?_ (fun i h0 h1 ih => ?_)
  · rw [List.take_of_length_le (by omega)]
    refine Ev.step (fun k => by simp only [laws_FnTrainsMeet.l0]; rw [if_neg (by omega), if_neg (by omega), hf, L.fits, bne_self_eq_false]) ?_
    refine Ev.step (fun k => by simp only [laws_FnTrainsMeet.j10, Bool.false_eq_true, if_false]; rfl) ?_
    exact l1_ev L 0 (by omega) (by omega)
  · have hm : rd r i ∈ r := get_mem r 0 i h0 h1
    obtain ⟨m0, m1⟩ := L.mem _ hm
    have hb := lenS_bd L.g (r.take i.toNat) (fun x hx => L.mem x (List.mem_of_mem_take hx))
    have hn : (r.take i.toNat).length ≤ 12 := by rw [List.length_take]; omega
    have hok := okTrain_iff.1 (List.all_eq_true.1 L.g _ (get_mem l z23 (rd r i) m0 m1))
    change (1 ≤ (rd_T23 l (rd r i)).f0 ∧ (rd_T23 l (rd r i)).f0 ≤ 1000) ∧ _ at hok
    have e : lenS l (r.take (i + 1).toNat) = lenS l (r.take i.toNat) + (rd_T23 l (rd r i)).f0 := by
      rw [take_get r 0 i h0 h1, lenS_append]
      congr 1
      unfold lenS
      simp
      rfl
    rw [e] at ih
    refine Ev.step (fun k => by simp only [laws_FnTrainsMeet.l0]; rw [if_pos h1, if_pos h0, if_pos h1, if_neg (by omega), if_neg (by omega), w64 (x := lenS l (r.take i.toNat) + (rd_T23 l (rd r i)).f0) (by omega) (by omega), w64 (x := i + 1) (by omega) (by omega), if_pos m0, if_pos m1]) ?_
    by_cases c : i > 0
    · have hu := rd_up L.up i c h1
      exact Ev.congr (fun k => by rw [if_pos c, w64 (x := i - 1) (by omega) (by omega), if_pos (by omega), if_pos (by omega), if_neg (by omega)]) ih
    · exact Ev.congr (fun k => by rw [if_neg c]) ih
end
theorem j8_ev (l : List S23) (a : Int) (r : List Int) (hr : goodTrains l a = true → SidingLaw l a r) : Ev (fun k => laws_FnTrainsMeet.j8 k l a r (goodTrains l a) (fitsR l a).1 false) true := by
  by_cases g : goodTrains l a = true
  · have L := hr g
    refine Ev.step (fun k => by simp only [laws_FnTrainsMeet.j8, Bool.false_eq_true, if_false]; rw [if_pos g]) ?_
    exact l0_ev L _ (by unfold fitsR; rw [if_pos g]) 0 (by omega) (by omega)
  · exact Ev.step (fun k => by simp only [laws_FnTrainsMeet.j8, Bool.false_eq_true, if_false]; rw [if_neg g]) (Ev.now _)
theorem j7_ev (lg of lf : Int) (l : List S23) (a : Int) (r : List Int) (hr : goodTrains l a = true → SidingLaw l a r) : Ev (fun k => laws_FnTrainsMeet.j7 k lg of lf (metR lg of lf).1 (metR lg of lf).2.1 (metR lg of lf).2.2 l a r (goodTrains l a) (fitsR l a).1) true := by
  have e8 := j8_ev l a r hr
  by_cases c : (1 ≤ lg ∧ lg ≤ 10000) ∧ (1 ≤ of ∧ of ≤ 10000) ∧ (0 ≤ lf ∧ lf ≤ 10000) ∧ of * lf ≤ lg
  · have hm : metR lg of lf = ((lo (lg + of * lf) 2).1, (lo (lg + of * lf) 2).2, true) := by unfold metR; rw [if_pos c]
    obtain ⟨c1, c2, c3, c4⟩ := c
    have b := mul_bd (show 0 ≤ of by omega) c2.2 c3.1 c3.2
    rw [hm]
    refine Ev.step (fun k => by simp only [laws_FnTrainsMeet.j7, if_true]; rw [w64 (x := of * lf) (by omega) (by omega), w64 (x := lg + of * lf) (by omega) (by omega)]) ?_
    refine Ev.bind (qIs_lo (by omega) (by omega)) ?_
    simp only [Bool.not_true]
    exact e8
  · have hm : metR lg of lf = (0, 0, false) := by unfold metR; rw [if_neg c]
    rw [hm]
    exact Ev.step (fun k => by simp only [laws_FnTrainsMeet.j7, Bool.false_eq_true, if_false]) e8
section
variable (j e : Int) (ends : Bool) (lg of lf : Int) (l : List S23) (a : Int) (r : List Int)
theorem j6_ev (hr : goodTrains l a = true → SidingLaw l a r) (h : (1 ≤ j ∧ j ≤ 10000) ∧ (1 ≤ e ∧ e ≤ 10000)) : Ev (fun k => laws_FnTrainsMeet.j6 k j e ends (countR j e ends).1 lg of lf (metR lg of lf).1 (metR lg of lf).2.1 (metR lg of lf).2.2 l a r (goodTrains l a) (fitsR l a).1 false) true := by
  have e7 := j7_ev lg of lf l a r hr
  have key : ∀ q : Int, 0 ≤ q → q ≤ 10000 → e * q ≤ j → (ends = false → e * q < j) → (countR j e ends).1 = 2 * q + 1 → Ev (fun k => laws_FnTrainsMeet.j6 k j e ends (countR j e ends).1 lg of lf (metR lg of lf).1 (metR lg of lf).2.1 (metR lg of lf).2.2 l a r (goodTrains l a) (fitsR l a).1 false) true := by
    intro q q0 q1 hq hq2 hc
    rw [hc]
    obtain ⟨x1, x2⟩ := count_half q q0 q1
    have m0 := mul_bd (show 0 ≤ e by omega) h.2.2 q0 q1
    have hm : metR j e q = ((lo (j + e * q) 2).1, (lo (j + e * q) 2).2, true) := by unfold metR; rw [if_pos ⟨h.1, h.2, ⟨q0, q1⟩, hq⟩]
    obtain ⟨y1, y2⟩ := met_half m0.1 hq h.1.1 h.1.2
    refine Ev.step (fun k => by simp only [laws_FnTrainsMeet.j6, Bool.false_eq_true, if_false, x2]; rw [if_pos q1]) ?_
    refine Ev.bind (implMet_ev j e q) ?_
    rw [hm]
    simp only [if_true, if_neg y1]
    cases ends
    · simp only [Bool.false_eq_true, if_false, if_neg (y2 (hq2 rfl))]
      exact e7
    · simp only [if_true]
      exact e7
  have d1 := div_bd (show 0 ≤ j by omega) h.1.2 (show 0 < e by omega)
  have d2 := div_bd (show 0 ≤ j - 1 by omega) (by omega) (show 0 < e by omega)
  cases ends
  · refine key ((j - 1) / e) d2.1 d2.2.1 (by rw [Int.mul_comm]; omega) (fun _ => by rw [Int.mul_comm]; omega) ?_
    unfold countR
    rw [if_pos h]
    rfl
  · refine key (j / e) d1.1 d1.2.1 (by rw [Int.mul_comm]; omega) (fun h => by cases h) ?_
    unfold countR
    rw [if_pos h]
    rfl
theorem j5_ev (hr : goodTrains l a = true → SidingLaw l a r) : Ev (fun k => laws_FnTrainsMeet.j5 k j e ends (countR j e ends).1 (countR j e ends).2 lg of lf (metR lg of lf).1 (metR lg of lf).2.1 (metR lg of lf).2.2 l a r (goodTrains l a) (fitsR l a).1 false) true := by
  by_cases h : (1 ≤ j ∧ j ≤ 10000) ∧ (1 ≤ e ∧ e ≤ 10000)
  · have e6 := j6_ev j e ends lg of lf l a r hr h
    have d1 := div_bd (show 0 ≤ j by omega) h.1.2 (show 0 < e by omega)
    have d2 := div_bd (show 0 ≤ j - 1 by omega) (by omega) (show 0 < e by omega)
    have p := pred_div (j := j) (show 0 < e by omega)
    have dd : (j - 1) / e ≤ j / e ∧ j / e - (j - 1) / e ≤ 1 := by rw [p]; split <;> omega
    have ok : ∀ b, (countR j e b).2 = true := fun b => by unfold countR; rw [if_pos h]
    have c1 : ∀ b, (countR j e b).1 = 2 * ((if b = true then j else j - 1) / e) + 1 := fun b => by unfold countR; rw [if_pos h]
    have odd : Int.tmod (countR j e ends).1 2 = 1 ∧ 1 ≤ (countR j e ends).1 := by
      rw [c1]
      cases ends
      · exact ⟨(count_half _ d2.1 d2.2.1).1, by simp only [Bool.false_eq_true, if_false]; omega⟩
      · exact ⟨(count_half _ d1.1 d1.2.1).1, by simp only [if_true]; omega⟩
    refine Ev.step (fun k => by simp only [laws_FnTrainsMeet.j5, Bool.false_eq_true, if_false, ok, if_true]; rfl) ?_
    refine Ev.bind (implCount_ev j e (!ends)) ?_
    simp only [ok, if_true, odd.1, if_neg (show ¬ (countR j e ends).1 < 1 by omega)]
    cases ends
    · simp only [Bool.false_eq_true, if_false]
      exact e6
    · have a1 := c1 true
      have a2 := c1 false
      simp only [Bool.false_eq_true, if_false, if_true] at a1 a2
      simp only [if_true, Bool.not_true]
      have w : wrap64 ((countR j e true).1 - (countR j e false).1) = (countR j e true).1 - (countR j e false).1 := w64 (by omega) (by omega)
      rw [w]
      simp only [if_neg (show ¬ (countR j e true).1 < (countR j e false).1 by omega), decide_eq_false (show ¬ (countR j e true).1 - (countR j e false).1 > 2 by omega)]
      exact e6
  · have hc : countR j e ends = (0, false) := by unfold countR; rw [if_neg h]
    rw [hc]
    exact Ev.step (fun k => by simp only [laws_FnTrainsMeet.j5, Bool.false_eq_true, if_false]) (j7_ev lg of lf l a r hr)
end
theorem j4_ev {more : List Int} (hb : Bytes more) : Ev (fun k => laws_FnTrainsMeet.j4 k more) true := by
  obtain ⟨j, e, ends, d1⟩ := drawCount_ok hb
  obtain ⟨lg, of, lf, d2⟩ := drawMetAt_ok hb
  obtain ⟨l, a, d3, _⟩ := drawSiding_ev hb
  obtain ⟨r, b, r0, r1, r2, rb, rf⟩ := siding_full l a
  subst rb
  have e5 := j5_ev j e ends lg of lf l a r (fun g => siding_law g (rf g) r0)
  have hf : (fitsR l a).2 = goodTrains l a := by
    unfold fitsR
    by_cases g : goodTrains l a = true
    · rw [if_pos g, g]
    · rw [if_neg g]; rw [Bool.not_eq_true] at g; rw [g]
  refine Ev.step (fun k => by simp only [laws_FnTrainsMeet.j4, specCount_eq, d1, d2, Option.bind_some]; rfl) ?_
  refine Ev.bind (implCount_ev j e ends) (Ev.bind (implMet_ev lg of lf) (Ev.bind (specMet_ev lg of lf) (Ev.bind d3 (Ev.bind r2 (Ev.bind r1 (Ev.bind (implFits_ev l a) (Ev.bind (specFits_ev l a) ?_)))))))
  simp only [bne_self_eq_false, Bool.false_eq_true, if_false, if_true]
  refine Ev.bind (qSame_ev r (by omega)) ?_
  simp only [if_true, hf, bne_self_eq_false]
  exact e5
section
variable {more : List Int} (hb : Bytes more)
include hb
variable (s0 s1 t0 t1 g : Int)
theorem j2_ev : Ev (fun k => laws_FnTrainsMeet.j2 k more g (headR s0 s1 t0 t1 g).1 (headR s0 s1 t0 t1 g).2.1 (headR s0 s1 t0 t1 g).2.2 false s0 s1 t0 t1) true := by
  have e4 := j4_ev hb
  by_cases c : okTwo s0 s1 t0 t1 g ∧ s0 ≤ g
  · have hh : headR s0 s1 t0 t1 g = ((lo (headN s0 s1 t1 g) (s1 * t1)).1, (lo (headN s0 s1 t1 g) (s1 * t1)).2, true) := by unfold headR; rw [if_pos c]
    obtain ⟨low, pole, en, eq⟩ := head_law c.1 c.2
    rw [hh]
    refine Ev.step (fun k => by simp only [laws_FnTrainsMeet.j2, Bool.false_eq_true, if_false, if_true]; rfl) ?_
    refine Ev.bind (pole_ev s0 s1 c.1.1) (Ev.bind low ?_)
    simp only [if_true, if_neg pole, decide_eq_false en]
    refine Ev.step (fun k => by simp only [laws_FnTrainsMeet.j3, Bool.false_eq_true, if_false]; rfl) ?_
    by_cases q : wrap64 ((lo (headN s0 s1 t1 g) (s1 * t1)).1 * (lo s0 s1).2) > wrap64 ((lo s0 s1).1 * (lo (headN s0 s1 t1 g) (s1 * t1)).2)
    · simp only [if_pos q, if_pos (eq q)]
      exact e4
    · simp only [if_neg q]
      exact e4
  · have hh : headR s0 s1 t0 t1 g = (0, 0, false) := by unfold headR; rw [if_neg c]
    rw [hh]
    exact Ev.step (fun k => by simp only [laws_FnTrainsMeet.j2, Bool.false_eq_true, if_false]) e4
theorem j1_ev : Ev (fun k => laws_FnTrainsMeet.j1 k more g (meetR s0 s1 t0 t1 g).2.2.2.2 (overR s0 s1 t0 t1 g).1 (overR s0 s1 t0 t1 g).2.1 (overR s0 s1 t0 t1 g).2.2.1 (overR s0 s1 t0 t1 g).2.2.2.1 (overR s0 s1 t0 t1 g).2.2.2.2 (headR s0 s1 t0 t1 g).1 (headR s0 s1 t0 t1 g).2.1 (headR s0 s1 t0 t1 g).2.2 s0 s1 t0 t1) true := by
  have e2 := j2_ev hb s0 s1 t0 t1 g
  by_cases c : okTwo s0 s1 t0 t1 g
  · have hm : (meetR s0 s1 t0 t1 g).2.2.2.2 = true := by unfold meetR; rw [if_pos c]
    rw [hm]
    have hg := c.2.2
    have hs := c.1.2
    have ht := c.2.1.2
    by_cases d : t1 < s1
    · have ho : overR s0 s1 t0 t1 g = ((lo g (s1 - t1)).1, (lo g (s1 - t1)).2, (lo (g * s1) (s1 - t1)).1, (lo (g * s1) (s1 - t1)).2, true) := by
        unfold overR
        rw [if_pos c]
        by_cases z : g = 0
        · rw [if_pos z, z, Int.zero_mul, lo_zero (show 0 < s1 - t1 by omega)]
        · rw [if_neg z, if_pos d]
      rw [ho]
      have b := mul_bd hg.1 hg.2 (show 0 ≤ s1 by omega) hs.2
      refine Ev.step (fun k => by simp only [laws_FnTrainsMeet.j1, if_true]; rw [if_pos (show s1 > t1 from d), w64 (x := s1 - t1) (by omega) (by omega), w64 (x := g * s1) (by omega) (by omega)]) ?_
      refine Ev.bind (qIs_lo (by omega) hg.1) ?_
      simp only [if_true]
      refine Ev.bind (qIs_lo (by omega) b.1) ?_
      simp only [if_true, bne_self_eq_false]
      by_cases z : g = 0
      · have z1 : (lo g (s1 - t1)).1 = 0 := by rw [z, lo_zero (show 0 < s1 - t1 by omega)]
        have z2 : (lo (g * s1) (s1 - t1)).1 = 0 := by rw [z, Int.zero_mul, lo_zero (show 0 < s1 - t1 by omega)]
        exact Ev.congr (fun k => by rw [if_pos z, if_pos z1, if_pos z2]) e2
      · exact Ev.congr (fun k => by rw [if_neg z]) e2
    · by_cases z : g = 0
      · have ho : overR s0 s1 t0 t1 g = (0, 1, 0, 1, true) := by unfold overR; rw [if_pos c, if_pos z]
        rw [ho]
        exact Ev.step (fun k => by simp only [laws_FnTrainsMeet.j1, if_true]; rw [if_neg (show ¬ s1 > t1 from d), if_pos z, beq_iff_eq.2 z, bne_self_eq_false]) e2
      · have ho : overR s0 s1 t0 t1 g = (0, 0, 0, 0, false) := by unfold overR; rw [if_pos c, if_neg z, if_neg d]
        rw [ho]
        exact Ev.step (fun k => by simp only [laws_FnTrainsMeet.j1, if_true, Bool.false_eq_true, if_false]; rw [if_neg (show ¬ s1 > t1 from d), beq_eq_false_iff_ne.2 z, bne_self_eq_false]) e2
  · have hm : (meetR s0 s1 t0 t1 g).2.2.2.2 = false := by unfold meetR; rw [if_neg c]
    have ho : overR s0 s1 t0 t1 g = (0, 0, 0, 0, false) := by unfold overR; rw [if_neg c]
    rw [hm, ho]
    exact Ev.step (fun k => by simp only [laws_FnTrainsMeet.j1, Bool.false_eq_true, if_false]) e2
theorem j0_ev : Ev (fun k => laws_FnTrainsMeet.j0 k more g (meetR s0 s1 t0 t1 g).1 (meetR s0 s1 t0 t1 g).2.1 (meetR s0 s1 t0 t1 g).2.2.1 (meetR s0 s1 t0 t1 g).2.2.2.1 (meetR s0 s1 t0 t1 g).2.2.2.2 (overR s0 s1 t0 t1 g).1 (overR s0 s1 t0 t1 g).2.1 (overR s0 s1 t0 t1 g).2.2.1 (overR s0 s1 t0 t1 g).2.2.2.1 (overR s0 s1 t0 t1 g).2.2.2.2 (headR s0 s1 t0 t1 g).1 (headR s0 s1 t0 t1 g).2.1 (headR s0 s1 t0 t1 g).2.2 false s0 s1 t0 t1) true := by
  have e1 := j1_ev hb s0 s1 t0 t1 g
  by_cases c : okTwo s0 s1 t0 t1 g
  · have hm : meetR s0 s1 t0 t1 g = ((lo g (s1 + t1)).1, (lo g (s1 + t1)).2, (lo (g * s1) (s1 + t1)).1, (lo (g * s1) (s1 + t1)).2, true) := by unfold meetR; rw [if_pos c]
    have c' : okTwo t0 t1 s0 s1 g := ⟨c.2.1, c.1, c.2.2⟩
    have hm' : meetR t0 t1 s0 s1 g = ((lo g (s1 + t1)).1, (lo g (s1 + t1)).2, (lo (g * t1) (s1 + t1)).1, (lo (g * t1) (s1 + t1)).2, true) := by unfold meetR; rw [if_pos c', Int.add_comm t1 s1]
    have hg := c.2.2
    have hs := c.1.2
    have ht := c.2.1.2
    have b := mul_bd hg.1 hg.2 (show 0 ≤ s1 by omega) hs.2
    have mc := meet_cross (s1 := s1) (t1 := t1) (g := g) (by omega)
    have wc : wrap64 ((wrap64 ((lo (g * s1) (s1 + t1)).1 * (lo (g * t1) (s1 + t1)).2)) + (wrap64 ((lo (g * t1) (s1 + t1)).1 * (lo (g * s1) (s1 + t1)).2))) = wrap64 ((wrap64 (g * (lo (g * s1) (s1 + t1)).2)) * (lo (g * t1) (s1 + t1)).2) := by
      rw [wrap_add_l, wrap_add_r, wrap_mul_l, mc]
    rw [hm] at e1 ⊢
    refine Ev.step (fun k => by simp only [laws_FnTrainsMeet.j0, Bool.false_eq_true, if_false, if_true]; rfl) ?_
    refine Ev.bind (implMeet_ev t0 t1 s0 s1 g) ?_
    rw [hm', w64 (x := s1 + t1) (by omega) (by omega), w64 (x := g * s1) (by omega) (by omega)]
    refine Ev.bind (qIs_lo (by omega) hg.1) ?_
    simp only [if_true]
    refine Ev.bind (qIs_lo (by omega) b.1) ?_
    simp only [if_true, if_pos wc]
    exact e1
  · have hm : meetR s0 s1 t0 t1 g = (0, 0, 0, 0, false) := by unfold meetR; rw [if_neg c]
    rw [hm] at e1 ⊢
    exact Ev.step (fun k => by simp only [laws_FnTrainsMeet.j0, Bool.false_eq_true, if_false]) e1
end
theorem FnTrainsMeet : laws_FnTrainsMeet.Pure := by
  intro l0 l1 _ h0 _ h1
  refine Ev.rounds ?_
  unfold laws_FnTrainsMeet.f laws_big.f
  by_cases c0 : (l0.length : Int) > 1048576
  · exact Ev.congr (fun k => by rw [if_pos c0]; rfl) (Ev.now _)
  refine Ev.congr (fun k => by rw [if_neg c0, Option.bind_some, w64 (x := 1048576 - (l0.length : Int)) (by omega) (by omega)]) ?_
  by_cases c1 : (l1.length : Int) > 1048576 - (l0.length : Int)
  · exact Ev.congr (fun k => by rw [if_pos (decide_eq_true c1)]) (Ev.now _)
  refine Ev.congr (fun k => by rw [if_neg (by simpa using c1)]) ?_
  have b0 := bytes_of (show l0.length ≤ 1048576 by omega) h0
  have b1 := bytes_of (show l1.length ≤ 1048576 by omega) h1
  obtain ⟨s0, s1, t0, t1, g, d⟩ := drawMeet_ok b0
  simp only [d, Option.bind_some]
  have e0 := j0_ev b1 s0 s1 t0 t1 g
  have h1 : (overR s0 s1 t0 t1 g).2.2.2.2 = true → (meetR s0 s1 t0 t1 g).2.2.2.2 = true := by
    unfold overR meetR
    by_cases c : okTwo s0 s1 t0 t1 g
    · rw [if_pos c, if_pos c]; exact fun _ => rfl
    · rw [if_neg c, if_neg c]; exact fun h => h
  have h2 : (headR s0 s1 t0 t1 g).2.2 = true → (meetR s0 s1 t0 t1 g).2.2.2.2 = true := by
    unfold headR meetR
    by_cases c : okTwo s0 s1 t0 t1 g
    · rw [if_pos c]; exact fun _ => rfl
    · rw [if_neg (fun h => c h.1)]; exact fun h => by cases h
  refine Ev.bind (implMeet_ev s0 s1 t0 t1 g) (Ev.bind (specMeet_ev s0 s1 t0 t1 g) (Ev.bind (implOver_ev s0 s1 t0 t1 g) (Ev.bind (specOver_ev s0 s1 t0 t1 g) (Ev.bind (implHead_ev s0 s1 t0 t1 g) (Ev.bind (specHead_ev s0 s1 t0 t1 g) ?_)))))
  simp only [bne_self_eq_false, Bool.false_eq_true, if_false, if_true]
  by_cases a1 : (overR s0 s1 t0 t1 g).2.2.2.2 = true
  · by_cases a2 : (headR s0 s1 t0 t1 g).2.2 = true
    · exact Ev.congr (fun k => by rw [if_pos a1, if_pos (h1 a1), if_pos a2, h1 a1, Bool.not_true]) (by rw [h1 a1] at e0; exact e0)
    · exact Ev.congr (fun k => by rw [if_pos a1, if_pos (h1 a1), if_neg a2]) e0
  · by_cases a2 : (headR s0 s1 t0 t1 g).2.2 = true
    · exact Ev.congr (fun k => by rw [if_neg a1, if_pos a2, h2 a2, Bool.not_true]) (by rw [h2 a2] at e0; exact e0)
    · exact Ev.congr (fun k => by rw [if_neg a1, if_neg a2]) e0
end Go.Proofs.Ytnbmplhcbliclaa.Pure
