/- Times of legs add up, mean speeds are ways by times, places are told by the legs, and means by ways are never greater than means by times, whatever was drawn. No conditions. -/
import Derived.Test.YtbhnpccbjgbcbaaGreatDoorQDx15d
import Derived.Test.YtbhnpccbjgbcbaaGreatDoorPlain
set_option linter.unusedVariables false
set_option linter.unusedSimpArgs false
namespace Go.Proofs.YtbhnpccbjgbcbaaGreatDoor.Pure
open Go.RowKit Go.Proofs.YtbhnpccbjgbcbaaGreatDoor.QD Go.Proofs.YtbhnpccbjgbcbaaGreatDoorW.PrintWords Go.Proofs.YtbhnpccbjgbcbaaGreatDoorW.PrintLast Go.Proofs.YtbhnpccbjgbcbaaGreatDoorW.PrintMore Go.Proofs.YtbhnpccbjgbcbaaGreatDoor.Plain
theorem wrap_mod (x : Int) : ∃ q : Int, wrap64 x = x + 18446744073709551616 * q := by
 refine ⟨-((x + 9223372036854775808) / 18446744073709551616), ?_⟩
 unfold wrap64
 omega
theorem wrap_shift (x q : Int) : wrap64 (x + 18446744073709551616 * q) = wrap64 x := by
 unfold wrap64
 omega
theorem wrap_mul_l (a b : Int) : wrap64 (wrap64 a * b) = wrap64 (a * b) := by
 obtain ⟨q, h⟩ := wrap_mod a
 rw [h, Int.add_mul, Int.mul_assoc]
 exact wrap_shift _ _
theorem w64 {x : Int} (h1 : -9223372036854775808 ≤ x) (h2 : x ≤ 9223372036854775807) : wrap64 x = x := by unfold wrap64; omega
theorem yLow_l0_ev : ∀ (n : Nat) (a b : Int), 0 ≤ a → 0 ≤ b → b.toNat ≤ n → Ev (fun k => laws_yLow.l0 k a b) (gg a b == 1) := by
 intro n
 induction n with
 | zero =>
  intro a b ha hb hn
  have e : b = 0 := by omega
  subst e
  refine Ev.step (fun k => by simp only [laws_yLow.l0]; rw [if_neg (by omega)]) ?_
  rw [gg_zero ha]
  exact Ev.now _
 | succ n ih =>
  intro a b ha hb hn
  by_cases e : b = 0
  ·subst e
   refine Ev.step (fun k => by simp only [laws_yLow.l0]; rw [if_neg (by omega)]) ?_
   rw [gg_zero ha]
   exact Ev.now _
  ·obtain ⟨g1, g2, g3⟩ := gg_step ha (show 0 < b by omega)
   refine Ev.step (fun k => by simp only [laws_yLow.l0]; rw [if_pos (by omega), if_neg e]) ?_
   rw [← g1]
   exact ih b (a.tmod b) (by omega) g2 (by omega)
theorem yLow_ev (a b : Int) (ha : 0 ≤ a) (hb : 1 ≤ b) (hg : gg a b = 1) : Ev (fun k => laws_yLow.f k a b) true := by
 unfold laws_yLow.f
 refine Ev.congr (fun k => by rw [if_neg (by omega), if_neg (by omega)]) ?_
 refine Ev.step (f := fun k => laws_yLow.l0 k a b) (fun k => by simp only [laws_yLow.j0]) ?_
 have h := yLow_l0_ev b.toNat a b ha (by omega) (Nat.le_refl _)
 rw [hg] at h
 exact h
theorem yLow_lo {n d : Int} (hd : 0 < d) (hn : 0 ≤ n) : Ev (fun k => laws_yLow.f k (lo n d).1 (lo n d).2) true :=
 yLow_ev _ _ (lo_nonneg hd hn) (lo_pos n hd) (lo_gcd n hd)
theorem in_eq (a b c : Int) : spec_l1In.f a b c = some (decide (b ≤ a ∧ a ≤ c)) := by
 unfold spec_l1In.f
 by_cases h : a ≥ b
 ·rw [if_pos h]; congr 1; simp; omega
 ·rw [if_neg h]; congr 1; simp; omega
theorem within_eq (a b c : Int) : impl_within.f a b c = some (decide (b ≤ a ∧ a ≤ c)) := by
 unfold impl_within.f
 by_cases h : a ≥ b
 ·rw [if_pos h]; congr 1; simp; omega
 ·rw [if_neg h]; congr 1; simp; omega
def okLeg (x : S37) : Bool := decide (1 ≤ x.f0 ∧ x.f0 ≤ 1000) && decide (1 ≤ x.f1 ∧ x.f1 ≤ 100)
def goodLegs (l : List S37) : Bool := decide (1 ≤ (l.length : Int) ∧ (l.length : Int) ≤ 5) && l.all okLeg
theorem okLeg_iff {x : S37} : okLeg x = true ↔ (1 ≤ x.f0 ∧ x.f0 ≤ 1000) ∧ (1 ≤ x.f1 ∧ x.f1 ≤ 100) := by
 unfold okLeg; rw [Bool.and_eq_true, decide_eq_true_iff, decide_eq_true_iff]
theorem reGood_l0_ev (l : List S37) (hl : l.length ≤ 5) : ∀ i : Int, 0 ≤ i → i ≤ l.length → Ev (fun k => spec_reGood.l0 k l l.length i) ((l.drop i.toNat).all okLeg) := by
 refine downI ?_ (fun i h0 h1 ih => ?_)
 ·refine Ev.step (fun k => by simp only [spec_reGood.l0]; rw [if_neg (by omega)]) ?_
  rw [List.drop_of_length_le (by omega)]
  exact Ev.now _
 ·rw [drop_get l z37 i h0 h1, List.all_cons]
  refine Ev.step (f := fun k => if decide (1 ≤ (rd_T37 l i).f0 ∧ (rd_T37 l i).f0 ≤ 1000) = true then (if decide (1 ≤ (rd_T37 l i).f1 ∧ (rd_T37 l i).f1 ≤ 100) = true then spec_reGood.l0 k l l.length (i + 1) else some false) else some false) (fun k => by simp only [spec_reGood.l0, in_eq, Option.bind_some]; rw [if_pos h1, if_pos h0, if_pos h1, w64 (x := i + 1) (by omega) (by omega)]) ?_
  show Ev _ (okLeg (rd_T37 l i) && _)
  unfold okLeg
  by_cases a : decide (1 ≤ (rd_T37 l i).f0 ∧ (rd_T37 l i).f0 ≤ 1000) = true
  ·by_cases b : decide (1 ≤ (rd_T37 l i).f1 ∧ (rd_T37 l i).f1 ≤ 100) = true
   ·simp only [a, b, if_true, Bool.true_and]; exact ih
   ·simp only [a, b, if_true, Bool.true_and, Bool.false_and, Bool.false_eq_true, if_false]; exact Ev.now _
  ·simp only [a, Bool.false_and, Bool.false_eq_true, if_false]; exact Ev.now _
theorem reGood_ev (l : List S37) : Ev (fun k => spec_reGood.f k l) (goodLegs l) := by
 unfold spec_reGood.f goodLegs
 simp only [in_eq, Option.bind_some]
 by_cases h : 1 ≤ (l.length : Int) ∧ (l.length : Int) ≤ 5
 ·simp only [h, and_self, decide_true, if_true, Bool.true_and]
  exact reGood_l0_ev l (by omega) 0 (by omega) (by omega)
 ·simp only [h, decide_false, Bool.false_and, Bool.false_eq_true, if_false]
  exact Ev.now _
theorem areLegs_1_eq (x : S37) : impl_AreLegs_1.f x.f0 x.f1 = some (!okLeg x) := by
 unfold impl_AreLegs_1.f impl_isLong.f impl_isFast.f okLeg
 simp only [within_eq, Option.bind_some]
 by_cases a : decide (1 ≤ x.f0 ∧ x.f0 ≤ 1000) = true
 ·simp [a]
 ·simp [a]
theorem indexLeg_ev (l : List S37) (hl : l.length ≤ 5) : ∀ i : Int, 0 ≤ i → i ≤ l.length → ∃ r : Int, Ev (fun k => impl_Leg_79.l0 k l l.length i) r ∧ decide (r ≥ 0) = !((l.drop i.toNat).all okLeg) := by
 refine downI ?_ (fun i h0 h1 ih => ?_)
 ·refine ⟨-1, Ev.step (fun k => by simp only [impl_Leg_79.l0]; rw [if_neg (by omega)]) (Ev.now _), ?_⟩
  rw [List.drop_of_length_le (by omega)]
  rfl
 ·rw [drop_get l z37 i h0 h1, List.all_cons]
  have st : ∀ k, impl_Leg_79.l0 (k + 1) l l.length i = if (!okLeg (rd_T37 l i)) = true then some i else impl_Leg_79.l0 k l l.length (i + 1) := fun k => by
   simp only [impl_Leg_79.l0, areLegs_1_eq, Option.bind_some]; rw [if_pos h1, if_pos h0, if_pos h1, w64 (x := i + 1) (by omega) (by omega)]
  show ∃ r : Int, _ ∧ _ = !(okLeg (rd_T37 l i) && _)
  cases a : okLeg (rd_T37 l i)
  ·exact ⟨i, Ev.step (fun k => by rw [st, a]; rfl) (Ev.now i), by simp [h0]⟩
  ·obtain ⟨r, h2, h3⟩ := ih
   exact ⟨r, Ev.step (fun k => by rw [st, a]; rfl) h2, by simpa using h3⟩
theorem areLegs_ev (l : List S37) : Ev (fun k => impl_AreLegs.f k l) (goodLegs l) := by
 unfold impl_AreLegs.f goodLegs
 simp only [within_eq, Option.bind_some]
 by_cases h : 1 ≤ (l.length : Int) ∧ (l.length : Int) ≤ 5
 ·simp only [h, and_self, decide_true, if_true, Bool.true_and]
  obtain ⟨r, h1, h2⟩ := indexLeg_ev l (by omega) 0 (by omega) (by omega)
  unfold impl_Leg_49.f impl_Leg_79.f
  refine Ev.bind (Ev.bind h1 (Ev.now _)) ?_
  rw [h2]
  simp only [Bool.not_not]
  exact Ev.now _
 ·simp only [h, decide_false, Bool.false_and, Bool.false_eq_true, if_false]
  exact Ev.now _
theorem good_len {l : List S37} (h : goodLegs l = true) : 1 ≤ l.length ∧ l.length ≤ 5 := by
 unfold goodLegs at h
 rw [Bool.and_eq_true, decide_eq_true_iff] at h
 omega
theorem good_ok {l : List S37} (h : goodLegs l = true) : ∀ x, x ∈ l → okLeg x = true := by
 unfold goodLegs at h
 rw [Bool.and_eq_true] at h
 exact List.all_eq_true.1 h.2
def longI (l : List S37) : Int := (l.map (fun x => x.f0)).sum
theorem longI_cons (x : S37) (l : List S37) : longI (x :: l) = x.f0 + longI l := by simp [longI]
theorem longI_bd : ∀ (l : List S37), (∀ x, x ∈ l → okLeg x = true) → (l.length : Int) ≤ longI l ∧ longI l ≤ 1000 * l.length := by
 intro l
 induction l with
 | nil => intro _; simp [longI]
 | cons x l ih =>
  intro h
  rw [longI_cons]
  have h1 := okLeg_iff.1 (h x List.mem_cons_self)
  have h2 := ih (fun y hy => h y (List.mem_cons_of_mem _ hy))
  simp only [List.length_cons]
  omega
theorem reLong_l0_ev (l : List S37) (hl : l.length ≤ 5) (ok : ∀ x, x ∈ l → okLeg x = true) : ∀ i : Int, 0 ≤ i → i ≤ l.length → ∀ s : Int, 0 ≤ s → s ≤ 1000 * i → Ev (fun k => spec_reLong.l0 k s l l.length i) (s + longI (l.drop i.toNat)) := by
 refine downI (fun s h0 h1 => ?_) (fun i h0 h1 ih s hs hs2 => ?_)
 ·refine Ev.step (fun k => by simp only [spec_reLong.l0]; rw [if_neg (by omega)]) ?_
  rw [List.drop_of_length_le (by omega)]
  simp only [longI, List.map_nil, List.sum_nil, Int.add_zero]
  exact Ev.now _
 ·have hx := okLeg_iff.1 (ok _ (get_mem l z37 i h0 h1))
  rw [drop_get l z37 i h0 h1, longI_cons, ← Int.add_assoc]
  have e : wrap64 (s + (rd_T37 l i).f0) = s + (l.getD i.toNat z37).f0 := w64 (x := s + (l.getD i.toNat z37).f0) (by omega) (by omega)
  refine Ev.step (fun k => by simp only [spec_reLong.l0]; rw [if_pos h1, if_pos h0, if_pos h1, w64 (x := i + 1) (by omega) (by omega), e]) ?_
  exact ih _ (by omega) (by omega)
theorem longOf_l0_ev (l : List S37) (hl : l.length ≤ 5) (ok : ∀ x, x ∈ l → okLeg x = true) : ∀ i : Int, 0 ≤ i → i ≤ l.length → ∀ s : Int, 0 ≤ s → s ≤ 1000 * i → Ev (fun k => impl_longOf.l0 k s l l.length i) (s + longI (l.drop i.toNat)) := by
 refine downI (fun s h0 h1 => ?_) (fun i h0 h1 ih s hs hs2 => ?_)
 ·refine Ev.step (fun k => by simp only [impl_longOf.l0]; rw [if_neg (by omega)]) ?_
  rw [List.drop_of_length_le (by omega)]
  simp only [longI, List.map_nil, List.sum_nil, Int.add_zero]
  exact Ev.now _
 ·have hx := okLeg_iff.1 (ok _ (get_mem l z37 i h0 h1))
  rw [drop_get l z37 i h0 h1, longI_cons, ← Int.add_assoc]
  have e : wrap64 (s + (rd_T37 l i).f0) = s + (l.getD i.toNat z37).f0 := w64 (x := s + (l.getD i.toNat z37).f0) (by omega) (by omega)
  refine Ev.step (fun k => by simp only [impl_longOf.l0]; rw [if_pos h1, if_pos h0, if_pos h1, w64 (x := i + 1) (by omega) (by omega), e]) ?_
  exact ih _ (by omega) (by omega)
theorem reLong_ev (l : List S37) (hl : l.length ≤ 5) (ok : ∀ x, x ∈ l → okLeg x = true) : Ev (fun k => spec_reLong.f k l) (longI l) := by
 unfold spec_reLong.f
 have h := reLong_l0_ev l hl ok 0 (by omega) (by omega) 0 (by omega) (by omega)
 simpa using h
theorem longOf_ev (l : List S37) (hl : l.length ≤ 5) (ok : ∀ x, x ∈ l → okLeg x = true) : Ev (fun k => impl_longOf.f k l) (longI l) := by
 unfold impl_longOf.f
 have h := longOf_l0_ev l hl ok 0 (by omega) (by omega) 0 (by omega) (by omega)
 simpa using h
theorem most_eq (a b : Int) : spec_l1Most.f a b = some (if a > b then a else b) := by
 unfold spec_l1Most.f; split <;> rfl
theorem l1Abs_eq {a : Int} (h1 : -4611686018427387904 ≤ a) (h2 : a ≤ 4611686018427387904) : spec_l1Abs.f a = some (if a < -a then -a else a) := by
 unfold spec_l1Abs.f
 rw [most_eq]
 have e : wrap64 (-a) = -a := by unfold wrap64; omega
 rw [e]
 simp only [Option.bind_some]
 congr 1
 split <;> split <;> omega
theorem divisorOf_ev : ∀ (n : Nat) (a b : Int), 0 ≤ a → 0 ≤ b → b.toNat ≤ n → Ev (fun k => impl_divisorOf.l0 k a b) (gg a b) := by
 intro n
 induction n with
 | zero =>
  intro a b ha hb hn
  obtain rfl : b = 0 := by omega
  refine Ev.step (fun k => by simp only [impl_divisorOf.l0]; rw [if_neg (by omega)]) ?_
  rw [gg_zero ha]; exact Ev.now a
 | succ n ih =>
  intro a b ha hb hn
  by_cases h : 0 < b
  ·obtain ⟨g1, g2, g3⟩ := gg_step ha h
   refine Ev.step (fun k => by simp only [impl_divisorOf.l0]; rw [if_pos h, if_neg (by omega)]) ?_
   rw [← g1]; exact ih b (a.tmod b) hb g2 (by omega)
  ·obtain rfl : b = 0 := by omega
   refine Ev.step (fun k => by simp only [impl_divisorOf.l0]; rw [if_neg (by omega)]) ?_
   rw [gg_zero ha]; exact Ev.now a
theorem absOf_eq {a : Int} (h1 : -4611686018427387904 ≤ a) (h2 : a ≤ 4611686018427387904) : impl_absOf.f a = some (if a < -a then -a else a) := by
 unfold impl_absOf.f mx
 have e : wrap64 (-a) = -a := by unfold wrap64; omega
 rw [e]
theorem tdiv_lo1 {n d : Int} (hd : 0 < d) (h1 : -4611686018427387904 ≤ n) (h2 : n ≤ 4611686018427387904) : wrap64 (Int.tdiv n (gg n d)) = (lo n d).1 := by
 rw [Int.tdiv_eq_ediv_of_dvd (gg_l n d)]
 have := lo_bd1 hd h1 h2
 show wrap64 (lo n d).1 = _
 unfold wrap64; omega
theorem tdiv_lo2 {n d : Int} (hd : 0 < d) (h2 : d ≤ 4611686018427387904) : wrap64 (Int.tdiv d (gg n d)) = (lo n d).2 := by
 rw [Int.tdiv_eq_ediv_of_dvd (gg_r n d)]
 have := lo_le2 n hd
 have := lo_pos n hd
 show wrap64 (lo n d).2 = _
 unfold wrap64; omega
theorem lowest_ev {n d : Int} (hd : 0 < d) (h1 : -4611686018427387904 ≤ n) (h2 : n ≤ 4611686018427387904) (h3 : d ≤ 4611686018427387904) : Ev (fun k => impl_lowest.f k n d) (lo n d) := by
 refine Ev.congr (fun k => by unfold impl_lowest.f impl_divisorOf.f; rw [if_neg (by omega), absOf_eq h1 h2, Option.bind_some]) ?_
 have hg := gg_pos (n := n) hd
 refine Ev.bind (divisorOf_ev _ d _ (Int.le_of_lt hd) (by split <;> omega) (Nat.le_refl _)) ?_
 have e : gg d (if n < -n then -n else n) = gg n d := by rw [gg_comm, gg_abs]
 rw [e]
 simp only [if_neg (show ¬ gg n d = 0 by omega), tdiv_lo1 hd h1 h2, tdiv_lo2 (n := n) hd h3]
 exact Ev.now _
theorem meLow_l0_ev (p q : Int) : ∀ (n : Nat) (a b : Int), 0 ≤ a → 0 ≤ b → b.toNat ≤ n → 0 < gg a b → Ev (fun k => spec_meLow.l0 k p q a b) (wrap64 (Int.tdiv p (gg a b)), wrap64 (Int.tdiv q (gg a b))) := by
 intro n
 induction n with
 | zero =>
  intro a b ha hb hn hg
  obtain rfl : b = 0 := by omega
  rw [gg_zero ha] at hg ⊢
  refine Ev.step (fun k => by simp only [spec_meLow.l0]; rw [if_neg (by omega), if_neg (by omega)]) ?_
  exact Ev.now _
 | succ n ih =>
  intro a b ha hb hn hg
  by_cases h : 0 < b
  ·obtain ⟨g1, g2, g3⟩ := gg_step ha h
   refine Ev.step (fun k => by simp only [spec_meLow.l0]; rw [if_pos h, if_neg (by omega)]) ?_
   rw [← g1] at hg ⊢; exact ih b (a.tmod b) hb g2 (by omega) hg
  ·obtain rfl : b = 0 := by omega
   rw [gg_zero ha] at hg ⊢
   refine Ev.step (fun k => by simp only [spec_meLow.l0]; rw [if_neg (by omega), if_neg (by omega)]) ?_
   exact Ev.now _
theorem meLow_ev {n d : Int} (hd : 0 < d) (h1 : -4611686018427387904 ≤ n) (h2 : n ≤ 4611686018427387904) (h3 : d ≤ 4611686018427387904) : Ev (fun k => spec_meLow.f k n d) (lo n d) := by
 refine Ev.congr (fun k => by unfold spec_meLow.f; rw [if_neg (by omega)]) ?_
 refine Ev.step (fun k => by simp only [spec_meLow.j0]; rw [l1Abs_eq h1 h2, Option.bind_some]) ?_
 have hg := gg_pos (n := n) hd
 have e := gg_abs n d
 have h := meLow_l0_ev n d _ (if n < -n then -n else n) d (by split <;> omega) (Int.le_of_lt hd) (Nat.le_refl _) (by rw [e]; exact hg)
 rw [e, tdiv_lo1 hd h1 h2, tdiv_lo2 (n := n) hd h3] at h
 exact h
def tstep (t : Int × Int) (x : S37) : Int × Int := lo (t.1 * x.f1 + x.f0 * t.2) (t.2 * x.f1)
def timeL (l : List S37) : Int × Int := l.foldl tstep (0, 1)
structure Tm (n : Nat) (t : Int × Int) : Prop where
 nn : 0 ≤ t.1
 pos : 1 ≤ n → 0 < t.1
 rat : t.1 ≤ (1000 * (n : Int)) * t.2
 one : 1 ≤ t.2
 den : t.2 ≤ pw n
 low : gg t.1 t.2 = 1
theorem Tm.bd {n : Nat} {t : Int × Int} (h : Tm n t) (hn : n ≤ 5) : t.1 ≤ 50000000000000 ∧ t.2 ≤ 10000000000 := by
 have h1 := h.den
 have h2 := pw_le hn
 have h3 := h.rat
 have h4 := mul_bd (a := 1000 * (n : Int)) (b := t.2) (A := 5000) (B := 10000000000) (by omega) (by omega) (by have := h.one; omega) (by omega)
 omega
theorem tm_zero : Tm 0 (0, 1) := ⟨by simp, fun h => absurd h (by omega), by simp, by simp, by simp [pw], by unfold gg; simp⟩
structure Step (n : Nat) (t : Int × Int) (x : S37) : Prop where
 next : Tm (n + 1) (tstep t x)
 a : wrap64 (t.1 * x.f1) = t.1 * x.f1
 b : wrap64 (x.f0 * t.2) = x.f0 * t.2
 c : wrap64 (t.1 * x.f1 + x.f0 * t.2) = t.1 * x.f1 + x.f0 * t.2
 d : wrap64 (t.2 * x.f1) = t.2 * x.f1
 dp : 0 < t.2 * x.f1
 n1 : 0 ≤ t.1 * x.f1 + x.f0 * t.2 ∧ t.1 * x.f1 + x.f0 * t.2 ≤ 4611686018427387904
 d1 : t.2 * x.f1 ≤ 4611686018427387904
theorem step_of {n : Nat} {t : Int × Int} {x : S37} (h : Tm n t) (hn : n ≤ 4) (hx : okLeg x = true) : Step n t x := by
 obtain ⟨⟨l1, l2⟩, f1, f2⟩ := okLeg_iff.1 hx
 obtain ⟨t1, t2⟩ := h.bd (by omega)
 have t3 := h.nn
 have t4 := h.one
 have a := mul_bd (a := t.1) (b := x.f1) (A := 50000000000000) (B := 100) t3 t1 (by omega) f2
 have b := mul_bd (a := x.f0) (b := t.2) (A := 1000) (B := 10000000000) (by omega) l2 (by omega) t2
 have d := mul_bd (a := t.2) (b := x.f1) (A := 10000000000) (B := 100) (by omega) t2 (by omega) f2
 have dp := mul_pos (a := t.2) (b := x.f1) (by omega) (by omega)
 have bp := mul_pos (a := x.f0) (b := t.2) (by omega) (by omega)
 refine ⟨⟨lo_nonneg dp (by omega), fun _ => lo_pos1 dp (by omega), lo_ratio dp ?_, lo_pos _ dp, ?_, lo_gcd _ dp⟩, w64 (by omega) (by omega), w64 (by omega) (by omega), w64 (by omega) (by omega), w64 (by omega) (by omega), dp, ⟨by omega, by omega⟩, by omega⟩
 ·have r := mul_le_r (c := x.f1) (by omega) h.rat
  have s1 := mul_le_r (c := t.2) (by omega) l2
  have s2 := mul_le_l (c := 1000 * t.2) (by omega) f1
  have e : (1000 * ((n + 1 : Nat) : Int)) * (t.2 * x.f1) = 1000 * (n : Int) * t.2 * x.f1 + 1000 * t.2 * x.f1 := by
   rw [show ((n + 1 : Nat) : Int) = (n : Int) + 1 by omega]
   grind
  omega
 ·refine Int.le_trans (lo_le2 _ dp) ?_
  have := h.den
  have p := pw_pos n
  have := mul_bd (a := t.2) (b := x.f1) (A := pw n) (B := 100) (by omega) h.den (by omega) f2
  simp only [pw]
  omega
theorem tm_foldl : ∀ (l : List S37) (n : Nat) (t : Int × Int), n + l.length ≤ 5 → Tm n t → (∀ x, x ∈ l → okLeg x = true) → Tm (n + l.length) (l.foldl tstep t) := by
 intro l
 induction l with
 | nil => intro n t _ h _; exact h
 | cons x l ih =>
  intro n t hn h ok
  simp only [List.length_cons] at hn
  have := ih (n + 1) (tstep t x) (by omega) (step_of h (by omega) (ok x List.mem_cons_self)).next (fun y hy => ok y (List.mem_cons_of_mem _ hy))
  simp only [List.foldl_cons, List.length_cons]
  rw [show n + (l.length + 1) = n + 1 + l.length by omega]
  exact this
theorem timeL_tm (l : List S37) (hl : l.length ≤ 5) (ok : ∀ x, x ∈ l → okLeg x = true) : Tm l.length (timeL l) := by
 have := tm_foldl l 0 (0, 1) (by omega) tm_zero ok
 rw [Nat.zero_add] at this
 exact this
theorem reTime_l0_ev (l : List S37) (hl : l.length ≤ 5) (ok : ∀ x, x ∈ l → okLeg x = true) : ∀ i : Int, 0 ≤ i → i ≤ l.length → ∀ t : Int × Int, Tm i.toNat t → Ev (fun k => spec_reTime.l0 k t.1 t.2 l l.length i) ((l.drop i.toNat).foldl tstep t) := by
 refine downI (fun t h => ?_) (fun i h0 h1 ih t h => ?_)
 ·refine Ev.step (fun k => by simp only [spec_reTime.l0]; rw [if_neg (by omega)]) ?_
  rw [List.drop_of_length_le (by omega)]
  exact Ev.now _
 ·have s := step_of h (by omega) (ok _ (get_mem l z37 i h0 h1))
  have n1 := s.n1
  rw [drop_get l z37 i h0 h1, List.foldl_cons]
  refine Ev.step (fun k => by simp only [spec_reTime.l0, rd_T37]; rw [if_pos h1, if_pos h0, if_pos h1, w64 (x := i + 1) (by omega) (by omega), s.a, s.b, s.c, s.d]) ?_
  refine Ev.bind (meLow_ev s.dp (by omega) s.n1.2 s.d1) ?_
  have := s.next
  rw [show i.toNat + 1 = (i + 1).toNat by omega] at this
  exact ih _ this
theorem timeOf_l0_ev (l : List S37) (hl : l.length ≤ 5) (ok : ∀ x, x ∈ l → okLeg x = true) : ∀ i : Int, 0 ≤ i → i ≤ l.length → ∀ t : Int × Int, Tm i.toNat t → Ev (fun k => impl_timeOf.l0 k t.1 t.2 l l.length i) ((l.drop i.toNat).foldl tstep t) := by
 refine downI (fun t h => ?_) (fun i h0 h1 ih t h => ?_)
 ·refine Ev.step (fun k => by simp only [impl_timeOf.l0]; rw [if_neg (by omega)]) ?_
  rw [List.drop_of_length_le (by omega)]
  exact Ev.now _
 ·have s := step_of h (by omega) (ok _ (get_mem l z37 i h0 h1))
  have n1 := s.n1
  rw [drop_get l z37 i h0 h1, List.foldl_cons]
  refine Ev.step (fun k => by simp only [impl_timeOf.l0, rd_T37]; rw [if_pos h1, if_pos h0, if_pos h1, w64 (x := i + 1) (by omega) (by omega), s.a, s.b, s.c, s.d]) ?_
  refine Ev.bind (lowest_ev s.dp (by omega) s.n1.2 s.d1) ?_
  have := s.next
  rw [show i.toNat + 1 = (i + 1).toNat by omega] at this
  exact ih _ this
theorem reTime_ev (l : List S37) (hl : l.length ≤ 5) (ok : ∀ x, x ∈ l → okLeg x = true) : Ev (fun k => spec_reTime.f k l) (timeL l) := by
 unfold spec_reTime.f timeL
 have h := reTime_l0_ev l hl ok 0 (by omega) (by omega) (0, 1) tm_zero
 simpa using h
theorem timeOf_ev (l : List S37) (hl : l.length ≤ 5) (ok : ∀ x, x ∈ l → okLeg x = true) : Ev (fun k => impl_timeOf.f k l) (timeL l) := by
 unfold impl_timeOf.f timeL
 have h := timeOf_l0_ev l hl ok 0 (by omega) (by omega) (0, 1) tm_zero
 simpa using h
def onStop (l : List S37) (num den j : Int) : Prop := num * (timeL (l.take (j + 1).toNat)).2 < (timeL (l.take (j + 1).toNat)).1 * den
theorem take_ok {l : List S37} (ok : ∀ x, x ∈ l → okLeg x = true) (n : Nat) : ∀ x, x ∈ l.take n → okLeg x = true := fun x hx => ok x (List.mem_of_mem_take hx)
theorem tmt (l : List S37) (hl : l.length ≤ 5) (ok : ∀ x, x ∈ l → okLeg x = true) (n : Nat) : Tm (l.take n).length (timeL (l.take n)) := timeL_tm _ (by simp; omega) (take_ok ok n)
theorem onW (l : List S37) (hl : l.length ≤ 5) (ok : ∀ x, x ∈ l → okLeg x = true) {num den : Int} (hn : 0 ≤ num ∧ num ≤ 100000) (hd : 1 ≤ den ∧ den ≤ 1000) (n : Nat) :
  wrap64 (num * (timeL (l.take n)).2) = num * (timeL (l.take n)).2 ∧ wrap64 ((timeL (l.take n)).1 * den) = (timeL (l.take n)).1 * den ∧ (0 ≤ num * (timeL (l.take n)).2 ∧ num * (timeL (l.take n)).2 ≤ 1000000000000000) ∧ (0 ≤ (timeL (l.take n)).1 * den ∧ (timeL (l.take n)).1 * den ≤ 50000000000000000) := by
 have t := tmt l hl ok n
 have b := t.bd (by simp; omega)
 have o := t.one
 have z := t.nn
 have m1 := mul_bd (a := num) (b := (timeL (l.take n)).2) (A := 100000) (B := 10000000000) hn.1 hn.2 (by omega) b.2
 have m2 := mul_bd (a := (timeL (l.take n)).1) (b := den) (A := 50000000000000) (B := 1000) z b.1 (by omega) hd.2
 exact ⟨w64 (by omega) (by omega), w64 (by omega) (by omega), by omega, by omega⟩
theorem reOn_ev (l : List S37) (hl : l.length ≤ 5) (ok : ∀ x, x ∈ l → okLeg x = true) {num den : Int} (hn : 0 ≤ num ∧ num ≤ 100000) (hd : 1 ≤ den ∧ den ≤ 1000) : ∀ i : Int, 0 ≤ i → i ≤ l.length → ∃ n : Int, Ev (fun k => spec_reOn.l0 k l num den i) n ∧ i ≤ n ∧ n ≤ l.length ∧ (∀ j, i ≤ j → j < n → ¬ onStop l num den j) ∧ (n < l.length → onStop l num den n) := by
 refine downI ?_ (fun i h0 h1 ih => ?_)
 ·exact ⟨l.length, Ev.step (fun k => by simp only [spec_reOn.l0]; rw [if_neg (by omega)]) (Ev.now _), Int.le_refl _, Int.le_refl _, fun j a b => by omega, fun h => by omega⟩
 ·obtain ⟨w1, w2, _⟩ := onW l hl ok hn hd (i + 1).toNat
  have ev := reTime_ev (l.take (i + 1).toNat) (by simp; omega) (take_ok ok _)
  by_cases c : onStop l num den i
  ·refine ⟨i, Ev.step (fun k => by simp only [spec_reOn.l0]; rw [if_pos h1, w64 (x := i + 1) (by omega) (by omega), if_pos (by omega), if_pos (by omega)]) (Ev.bind ev ?_), Int.le_refl _, by omega, fun j a b => by omega, fun _ => c⟩
   simp only [w1, w2]
   unfold onStop at c
   simp only [if_pos c]
   exact Ev.now _
  ·obtain ⟨n, e, a1, a2, a3, a4⟩ := ih
   refine ⟨n, Ev.step (fun k => by simp only [spec_reOn.l0]; rw [if_pos h1, w64 (x := i + 1) (by omega) (by omega), if_pos (by omega), if_pos (by omega)]) (Ev.bind ev ?_), by omega, a2, fun j b1 b2 => ?_, a4⟩
   ·simp only [w1, w2]
    unfold onStop at c
    simp only [if_neg c]
    exact e
   ·by_cases e2 : j = i
    ·rw [e2]; exact c
    ·exact a3 j (by omega) b2
theorem legAt_l0_ev (l : List S37) (hl1 : 1 ≤ l.length) (hl : l.length ≤ 5) (ok : ∀ x, x ∈ l → okLeg x = true) {num den : Int} (hn : 0 ≤ num ∧ num ≤ 100000) (hd : 1 ≤ den ∧ den ≤ 1000) : ∀ i : Int, 0 ≤ i → i ≤ (l.length : Int) - 1 → ∃ n : Int, Ev (fun k => impl_legAt.l0 k l num den ((l.length : Int) - 1) i) n ∧ i ≤ n ∧ n ≤ (l.length : Int) - 1 ∧ (∀ j, i ≤ j → j < n → ¬ onStop l num den j) ∧ (n < (l.length : Int) - 1 → onStop l num den n) := by
 refine downI ?_ (fun i h0 h1 ih => ?_)
 ·exact ⟨(l.length : Int) - 1, Ev.step (fun k => by simp only [impl_legAt.l0]; rw [if_neg (by omega), w64 (x := (l.length : Int) - 1) (by omega) (by omega)]) (Ev.now _), Int.le_refl _, Int.le_refl _, fun j a b => by omega, fun h => by omega⟩
 ·obtain ⟨w1, w2, _⟩ := onW l hl ok hn hd (i + 1).toNat
  have ev := timeOf_ev (l.take (i + 1).toNat) (by simp; omega) (take_ok ok _)
  by_cases c : onStop l num den i
  ·refine ⟨i, Ev.step (fun k => by simp only [impl_legAt.l0]; rw [if_pos h1, w64 (x := i + 1) (by omega) (by omega), if_pos (by omega), if_pos (by omega)]) (Ev.bind ev ?_), Int.le_refl _, by omega, fun j a b => by omega, fun _ => c⟩
   simp only [w1, w2]
   unfold onStop at c
   simp only [if_pos c]
   exact Ev.now _
  ·obtain ⟨n, e, a1, a2, a3, a4⟩ := ih
   refine ⟨n, Ev.step (fun k => by simp only [impl_legAt.l0]; rw [if_pos h1, w64 (x := i + 1) (by omega) (by omega), if_pos (by omega), if_pos (by omega)]) (Ev.bind ev ?_), by omega, a2, fun j b1 b2 => ?_, a4⟩
   ·simp only [w1, w2]
    unfold onStop at c
    simp only [if_neg c]
    exact e
   ·by_cases e2 : j = i
    ·rw [e2]; exact c
    ·exact a3 j (by omega) b2
theorem legs_on (l : List S37) (g : goodLegs l = true) {num den : Int} (hn : 0 ≤ num ∧ num ≤ 100000) (hd : 1 ≤ den ∧ den ≤ 1000) :
  ∃ n m : Int, Ev (fun k => spec_reOn.f k l num den) n ∧ Ev (fun k => impl_legAt.f k l num den) m ∧ 0 ≤ n ∧ n ≤ l.length ∧ m = (if n < (l.length : Int) - 1 then n else (l.length : Int) - 1) ∧ (∀ j, 0 ≤ j → j < n → ¬ onStop l num den j) ∧ (n < l.length → onStop l num den n) := by
 have hl := good_len g
 have ok := good_ok g
 obtain ⟨n, e, a1, a2, a3, a4⟩ := reOn_ev l hl.2 ok hn hd 0 (by omega) (by omega)
 obtain ⟨m, f, b1, b2, b3, b4⟩ := legAt_l0_ev l hl.1 hl.2 ok hn hd 0 (by omega) (by omega)
 refine ⟨n, m, e, ?_, a1, a2, ?_, a3, a4⟩
 ·unfold impl_legAt.f
  rw [w64 (x := (l.length : Int) - 1) (by omega) (by omega)]
  exact f
 ·by_cases c1 : m < n
  ·have := a3 m b1 c1
   have : ¬ m < (l.length : Int) - 1 := fun h => this (b4 h)
   split <;> omega
  ·by_cases c2 : n < m
   ·exact absurd (a4 (by omega)) (b3 n a1 c2)
   ·split <;> omega
def momB (num den : Int) : Bool := decide (0 ≤ num ∧ num ≤ 100000) && decide (1 ≤ den ∧ den ≤ 1000)
theorem mom_eq (num den : Int) : spec_reMoment.f num den = some (momB num den) := by
 unfold spec_reMoment.f momB
 simp only [in_eq, Option.bind_some]
 by_cases h : 0 ≤ num ∧ num ≤ 100000
 ·simp [h]
 ·simp [h]
theorem legTime_eq (num den : Int) : impl_isLegTime.f num den = some (momB num den) := by
 unfold impl_isLegTime.f momB
 simp only [within_eq, Option.bind_some]
 by_cases h : 0 ≤ num ∧ num ≤ 100000
 ·simp [h]
 ·simp [h]
theorem momB_iff {num den : Int} : momB num den = true ↔ (0 ≤ num ∧ num ≤ 100000) ∧ (1 ≤ den ∧ den ≤ 1000) := by
 unfold momB; rw [Bool.and_eq_true, decide_eq_true_iff, decide_eq_true_iff]
theorem fraction_ev {n d : Int} (hd : 0 < d) (h1 : -4611686018427387904 ≤ n) (h2 : n ≤ 4611686018427387904) (h3 : d ≤ 4611686018427387904) : Ev (fun k => impl_fraction.f k n d) ((lo n d).1, (lo n d).2, true) := by
 unfold impl_fraction.f
 simp only [if_neg (show ¬ d = 0 by omega)]
 exact Ev.bind (lowest_ev hd h1 h2 h3) (Ev.now _)
theorem timeL_take (l : List S37) (i : Int) (h0 : 0 ≤ i) (h1 : i < l.length) : timeL (l.take (i + 1).toNat) = tstep (timeL (l.take i.toNat)) (rd_T37 l i) := by
 rw [take_get l z37 i h0 h1]
 unfold timeL
 rw [List.foldl_append]
 rfl
theorem stop_iff (l : List S37) (hl : l.length ≤ 5) (ok : ∀ x, x ∈ l → okLeg x = true) (num den : Int) {i : Int} (h0 : 0 ≤ i) (h1 : i < l.length) :
  onStop l num den i ↔ (rd_T37 l i).f1 * (num * (timeL (l.take i.toNat)).2 - (timeL (l.take i.toNat)).1 * den) < (rd_T37 l i).f0 * (timeL (l.take i.toNat)).2 * den := by
 have t := tmt l hl ok i.toNat
 have x := okLeg_iff.1 (ok _ (get_mem l z37 i h0 h1))
 unfold onStop
 rw [timeL_take l i h0 h1]
 generalize timeL (l.take i.toNat) = T at *
 change (1 ≤ (rd_T37 l i).f0 ∧ (rd_T37 l i).f0 ≤ 1000) ∧ (1 ≤ (rd_T37 l i).f1 ∧ (rd_T37 l i).f1 ≤ 100) at x
 generalize rd_T37 l i = X at *
 unfold tstep
 have o := t.one
 have dp : 0 < T.2 * X.f1 := mul_pos (by omega) (by omega)
 have cr := lo_cross (T.1 * X.f1 + X.f0 * T.2) (T.2 * X.f1)
 have Dp := lo_pos (T.1 * X.f1 + X.f0 * T.2) dp
 generalize (lo (T.1 * X.f1 + X.f0 * T.2) (T.2 * X.f1)).1 = N at *
 generalize (lo (T.1 * X.f1 + X.f0 * T.2) (T.2 * X.f1)).2 = D at *
 have lt_iff : ∀ {a b c : Int}, 0 < c → (a < b ↔ a * c < b * c) := fun {a b c} hc => ⟨fun h => Int.mul_lt_mul_of_pos_right h hc, fun h => Int.lt_of_mul_lt_mul_right h (Int.le_of_lt hc)⟩
 rw [lt_iff dp]
 rw [show N * den * (T.2 * X.f1) = (N * (T.2 * X.f1)) * den by grind, cr]
 rw [show num * D * (T.2 * X.f1) = (num * (T.2 * X.f1)) * D by grind, show (T.1 * X.f1 + X.f0 * T.2) * D * den = ((T.1 * X.f1 + X.f0 * T.2) * den) * D by grind]
 rw [← lt_iff Dp]
 have e1 : X.f1 * (num * T.2 - T.1 * den) = num * (T.2 * X.f1) - T.1 * X.f1 * den := by grind
 have e2 : (T.1 * X.f1 + X.f0 * T.2) * den = T.1 * X.f1 * den + X.f0 * T.2 * den := by grind
 rw [e1, e2]
 omega
structure Plc (l : List S37) (num den i : Int) (T : Int × Int) (X : S37) : Prop where
 nn : 0 ≤ num * T.2 - T.1 * den
 a : wrap64 (num * T.2) = num * T.2
 b : wrap64 (T.1 * den) = T.1 * den
 c : wrap64 (num * T.2 - T.1 * den) = num * T.2 - T.1 * den
 d : wrap64 (X.f1 * (num * T.2 - T.1 * den)) = X.f1 * (num * T.2 - T.1 * den)
 e : wrap64 (X.f0 * T.2) = X.f0 * T.2
 f : wrap64 (X.f0 * T.2 * den) = X.f0 * T.2 * den
 bd1 : num * T.2 - T.1 * den ≤ 1000000000000000
 tp : 1 ≤ T.2 ∧ T.2 ≤ 10000000000
 xp : (1 ≤ X.f0 ∧ X.f0 ≤ 1000) ∧ (1 ≤ X.f1 ∧ X.f1 ≤ 100)
 g : wrap64 (T.2 * den) = T.2 * den
 gp : 0 < T.2 * den ∧ T.2 * den ≤ 10000000000000
 on : 0 ≤ X.f1 * (num * T.2 - T.1 * den) ∧ X.f1 * (num * T.2 - T.1 * den) ≤ 100000000000000000
 lp : 0 ≤ longI (l.take i.toNat) ∧ longI (l.take i.toNat) ≤ 5000
 h : wrap64 (longI (l.take i.toNat) * T.2) = longI (l.take i.toNat) * T.2
 k : wrap64 (longI (l.take i.toNat) * T.2 * den) = longI (l.take i.toNat) * T.2 * den
 m : wrap64 (longI (l.take i.toNat) * T.2 * den + X.f1 * (num * T.2 - T.1 * den)) = longI (l.take i.toNat) * T.2 * den + X.f1 * (num * T.2 - T.1 * den)
 mp : 0 ≤ longI (l.take i.toNat) * T.2 * den + X.f1 * (num * T.2 - T.1 * den) ∧ longI (l.take i.toNat) * T.2 * den + X.f1 * (num * T.2 - T.1 * den) ≤ 4611686018427387904
theorem plc (l : List S37) (hl : l.length ≤ 5) (ok : ∀ x, x ∈ l → okLeg x = true) {num den : Int} (hn : 0 ≤ num ∧ num ≤ 100000) (hd : 1 ≤ den ∧ den ≤ 1000) {i : Int} (h0 : 0 ≤ i) (h1 : i < l.length) (hs : ∀ j, 0 ≤ j → j < i → ¬ onStop l num den j) :
  Plc l num den i (timeL (l.take i.toNat)) (rd_T37 l i) := by
 have t := tmt l hl ok i.toNat
 have b := t.bd (by simp; omega)
 have o := t.one
 have z := t.nn
 obtain ⟨w1, w2, w3, w4⟩ := onW l hl ok hn hd i.toNat
 have x := okLeg_iff.1 (ok _ (get_mem l z37 i h0 h1))
 change (1 ≤ (rd_T37 l i).f0 ∧ (rd_T37 l i).f0 ≤ 1000) ∧ (1 ≤ (rd_T37 l i).f1 ∧ (rd_T37 l i).f1 ≤ 100) at x
 have nn : (timeL (l.take i.toNat)).1 * den ≤ num * (timeL (l.take i.toNat)).2 := by
  by_cases e : i = 0
  ·subst e
   simp [timeL]
   omega
  ·have := hs (i - 1) (by omega) (by omega)
   unfold onStop at this
   rw [show i - 1 + 1 = i by omega] at this
   omega
 have L := longI_bd (l.take i.toNat) (take_ok ok _)
 have Ll : (l.take i.toNat).length ≤ 5 := by simp; omega
 generalize hT : timeL (l.take i.toNat) = T at *
 generalize rd_T37 l i = X at *
 generalize hQ : longI (l.take i.toNat) = Q at *
 have m1 := mul_bd (a := X.f1) (b := num * T.2 - T.1 * den) (A := 100) (B := 1000000000000000) (by omega) x.2.2 (by omega) (by omega)
 have m2 := mul_bd (a := X.f0) (b := T.2) (A := 1000) (B := 10000000000) (by omega) x.1.2 (by omega) b.2
 have m3 := mul_bd (a := X.f0 * T.2) (b := den) (A := 1000 * 10000000000) (B := 1000) m2.1 m2.2 (by omega) hd.2
 have m4 := mul_bd (a := T.2) (b := den) (A := 10000000000) (B := 1000) (by omega) b.2 (by omega) hd.2
 have p4 := mul_pos (show 0 < T.2 by omega) (show 0 < den by omega)
 have m5 := mul_bd (a := Q) (b := T.2) (A := 5000) (B := 10000000000) (by omega) (by omega) (by omega) b.2
 have m6 := mul_bd (a := Q * T.2) (b := den) (A := 5000 * 10000000000) (B := 1000) m5.1 m5.2 (by omega) hd.2
 have r : Plc l num den i T X := by
  refine ⟨by omega, w1, w2, w64 (by omega) (by omega), w64 (by omega) (by omega), w64 (by omega) (by omega), w64 (by omega) (by omega), by omega, ⟨o, b.2⟩, x, w64 (by omega) (by omega), ⟨p4, by omega⟩, ⟨m1.1, by omega⟩, ⟨by omega, by omega⟩, ?_, ?_, ?_, ?_⟩
  all_goals rw [hQ]
  ·exact w64 (by omega) (by omega)
  ·exact w64 (by omega) (by omega)
  ·exact w64 (by omega) (by omega)
  ·omega
 exact r
theorem least_eq (a b : Int) : spec_l1Least.f a b = some (if a < b then a else b) := by
 unfold spec_l1Least.f; split <;> rfl
def tmRow (l : List S37) (j : Nat) : List Int := [(timeL (l.take (j + 1))).1, (timeL (l.take (j + 1))).2]
def tmRows (l : List S37) : List (List Int) := (List.range l.length).map (tmRow l)
theorem tmRows_length (l : List S37) : (tmRows l).length = l.length := by simp [tmRows]
theorem tmRows_get (l : List S37) (i : Int) (h0 : 0 ≤ i) (h1 : i < l.length) : (tmRows l).getD i.toNat [] = tmRow l i.toNat := by
 have : i.toNat < l.length := by omega
 simp [tmRows, List.getD_eq_getElem?_getD, this]
theorem tmRows_two (l : List S37) : ∀ y, y ∈ tmRows l → y.length = 2 := by
 intro y hy
 obtain ⟨j, _, rfl⟩ := List.mem_map.1 hy
 rfl
theorem specTimesLegs_ev (l : List S37) (hl : l.length ≤ 5) (ok : ∀ x, x ∈ l → okLeg x = true) : ∀ i : Int, 0 ≤ i → i ≤ l.length → ∀ acc : List (List Int), (acc.length : Int) = i → Ev (fun k => spec_TimesOfLegs.l0 k l acc l.length i) (acc ++ (tmRows l).drop i.toNat, true) := by
 refine downI (fun acc ha => ?_) (fun i h0 h1 ih acc ha => ?_)
 ·refine Ev.step (fun k => by simp only [spec_TimesOfLegs.l0]; rw [if_neg (by omega)]) ?_
  rw [List.drop_of_length_le (by rw [tmRows_length]; omega), List.append_nil]
  exact Ev.now _
 ·have e1 : wrap64 (i + 1) = i + 1 := w64 (by omega) (by omega)
  refine Ev.step (fun k => by simp only [spec_TimesOfLegs.l0, e1]; rw [if_pos h1, if_pos (by omega), if_pos (by omega)]) ?_
  refine Ev.bind (reTime_ev (l.take (i + 1).toNat) (by simp; omega) (fun x hx => ok x (List.mem_of_mem_take hx))) ?_
  refine Ev.congr (fun k => by rw [if_pos (by omega)]) ?_
  have h := ih (acc ++ [tmRow l i.toNat]) (by simp; omega)
  rw [drop_get (tmRows l) [] i h0 (by rw [tmRows_length]; exact h1), tmRows_get l i h0 h1]
  rw [List.append_assoc, List.singleton_append] at h
  have e : tmRow l i.toNat = [(timeL (l.take (i + 1).toNat)).1, (timeL (l.take (i + 1).toNat)).2] := by
   unfold tmRow
   rw [show (i + 1).toNat = i.toNat + 1 by omega]
  rw [e] at h ⊢
  exact h
theorem implTimesLegs_ev (l : List S37) (hl : l.length ≤ 5) (ok : ∀ x, x ∈ l → okLeg x = true) : ∀ i : Int, 0 ≤ i → i ≤ l.length → ∀ acc : List (List Int), acc.length = l.length → Ev (fun k => impl_TimesOfLegs.l0 k l acc l.length i) (acc.take i.toNat ++ (tmRows l).drop i.toNat, true) := by
 refine downI (fun acc ha => ?_) (fun i h0 h1 ih acc ha => ?_)
 ·refine Ev.step (fun k => by simp only [impl_TimesOfLegs.l0]; rw [if_neg (by omega)]) ?_
  rw [List.drop_of_length_le (by rw [tmRows_length]; omega), List.append_nil, List.take_of_length_le (by omega)]
  exact Ev.now _
 ·have e1 : wrap64 (i + 1) = i + 1 := w64 (by omega) (by omega)
  refine Ev.step (fun k => by simp only [impl_TimesOfLegs.l0, e1]; rw [if_pos h1, if_pos (by omega), if_pos (by omega)]) ?_
  refine Ev.bind (timeOf_ev (l.take (i + 1).toNat) (by simp; omega) (fun x hx => ok x (List.mem_of_mem_take hx))) ?_
  refine Ev.congr (fun k => by rw [if_pos h0, if_pos (by omega)]) ?_
  have h := ih (acc.set i.toNat (tmRow l i.toNat)) (by simpa using ha)
  rw [drop_get (tmRows l) [] i h0 (by rw [tmRows_length]; exact h1), tmRows_get l i h0 h1]
  have e : tmRow l i.toNat = [(timeL (l.take (i + 1).toNat)).1, (timeL (l.take (i + 1).toNat)).2] := by
   unfold tmRow
   rw [show (i + 1).toNat = i.toNat + 1 by omega]
  rw [show (i + 1).toNat = i.toNat + 1 by omega, set_fill acc _ i.toNat _ (by omega)] at h
  rw [show (i + 1).toNat = i.toNat + 1 by omega] at e ⊢
  rw [e] at h ⊢
  exact h
theorem meanSpeed_bd (l : List S37) (g : goodLegs l = true) : wrap64 (longI l * (timeL l).2) = longI l * (timeL l).2 ∧ 0 ≤ longI l * (timeL l).2 ∧ longI l * (timeL l).2 ≤ 4611686018427387904 ∧ 0 < (timeL l).1 ∧ (timeL l).1 ≤ 4611686018427387904 := by
 have hl := good_len g
 have ok := good_ok g
 have t := timeL_tm l hl.2 ok
 have b := t.bd hl.2
 have o := t.one
 have L := longI_bd l ok
 have m := mul_bd (a := longI l) (b := (timeL l).2) (A := 5000) (B := 10000000000) (by omega) (by omega) (by omega) (by omega)
 exact ⟨w64 (by omega) (by omega), by omega, by omega, t.pos hl.1, by omega⟩
theorem specMean_ev (l : List S37) (g : goodLegs l = true) : Ev (fun k => spec_MeanSpeed.f k l) ((lo (longI l * (timeL l).2) (timeL l).1).1, (lo (longI l * (timeL l).2) (timeL l).1).2, true) := by
 have hl := good_len g
 have ok := good_ok g
 obtain ⟨w, m1, m2, p1, p2⟩ := meanSpeed_bd l g
 refine Ev.bind (reGood_ev l) ?_
 rw [g]
 refine Ev.bind (reTime_ev l hl.2 ok) (Ev.bind (reLong_ev l hl.2 ok) ?_)
 rw [w]
 exact Ev.bind (meLow_ev p1 (by omega) m2 p2) (Ev.now _)
theorem implMean_ev (l : List S37) (g : goodLegs l = true) : Ev (fun k => impl_MeanSpeed.f k l) ((lo (longI l * (timeL l).2) (timeL l).1).1, (lo (longI l * (timeL l).2) (timeL l).1).2, true) := by
 have hl := good_len g
 have ok := good_ok g
 obtain ⟨w, m1, m2, p1, p2⟩ := meanSpeed_bd l g
 refine Ev.bind (areLegs_ev l) ?_
 rw [g]
 refine Ev.bind (timeOf_ev l hl.2 ok) (Ev.bind (longOf_ev l hl.2 ok) ?_)
 rw [w]
 exact Ev.bind (fraction_ev p1 (by omega) m2 p2) (Ev.now _)
theorem time_told (l : List S37) : Ev (fun k => spec_TimeOfLegs.f k l) (if goodLegs l = true then ((timeL l).1, (timeL l).2, true) else (0, 0, false)) ∧ Ev (fun k => impl_TimeOfLegs.f k l) (if goodLegs l = true then ((timeL l).1, (timeL l).2, true) else (0, 0, false)) := by
 cases g : goodLegs l with
 | true =>
  have hl := good_len g
  have ok := good_ok g
  exact ⟨Ev.bind (reGood_ev l) (by rw [g]; exact Ev.bind (reTime_ev l hl.2 ok) (Ev.now _)), Ev.bind (areLegs_ev l) (by rw [g]; exact Ev.bind (timeOf_ev l hl.2 ok) (Ev.now _))⟩
 | false => exact ⟨Ev.bind (reGood_ev l) (by rw [g]; exact Ev.now _), Ev.bind (areLegs_ev l) (by rw [g]; exact Ev.now _)⟩
theorem long_told (l : List S37) : Ev (fun k => spec_LongOfLegs.f k l) (if goodLegs l = true then (longI l, true) else (0, false)) ∧ Ev (fun k => impl_LongOfLegs.f k l) (if goodLegs l = true then (longI l, true) else (0, false)) := by
 cases g : goodLegs l with
 | true =>
  have hl := good_len g
  have ok := good_ok g
  exact ⟨Ev.bind (reGood_ev l) (by rw [g]; exact Ev.bind (reLong_ev l hl.2 ok) (Ev.now _)), Ev.bind (areLegs_ev l) (by rw [g]; exact Ev.bind (longOf_ev l hl.2 ok) (Ev.now _))⟩
 | false => exact ⟨Ev.bind (reGood_ev l) (by rw [g]; exact Ev.now _), Ev.bind (areLegs_ev l) (by rw [g]; exact Ev.now _)⟩
theorem mean_told (l : List S37) : Ev (fun k => spec_MeanSpeed.f k l) (if goodLegs l = true then ((lo (longI l * (timeL l).2) (timeL l).1).1, (lo (longI l * (timeL l).2) (timeL l).1).2, true) else (0, 0, false)) ∧ Ev (fun k => impl_MeanSpeed.f k l) (if goodLegs l = true then ((lo (longI l * (timeL l).2) (timeL l).1).1, (lo (longI l * (timeL l).2) (timeL l).1).2, true) else (0, 0, false)) := by
 cases g : goodLegs l with
 | true => exact ⟨specMean_ev l g, implMean_ev l g⟩
 | false => exact ⟨Ev.bind (reGood_ev l) (by rw [g]; exact Ev.now _), Ev.bind (areLegs_ev l) (by rw [g]; exact Ev.now _)⟩
theorem times_told (l : List S37) : Ev (fun k => spec_TimesOfLegs.f k l) (if goodLegs l = true then (tmRows l, true) else ([], false)) ∧ Ev (fun k => impl_TimesOfLegs.f k l) (if goodLegs l = true then (tmRows l, true) else ([], false)) := by
 cases g : goodLegs l with
 | true =>
  have hl := good_len g
  have ok := good_ok g
  refine ⟨Ev.bind (reGood_ev l) ?_, Ev.bind (areLegs_ev l) ?_⟩
  ·rw [g]
   have h := specTimesLegs_ev l hl.2 ok 0 (by omega) (by omega) [] (by simp)
   simpa using h
  ·rw [g]
   refine Ev.congr (fun k => by rw [if_pos rfl, if_pos (by omega), if_pos (by omega), Option.bind_some, List.length_replicate]) ?_
   have h := implTimesLegs_ev l hl.2 ok 0 (by omega) (by omega) (List.replicate ((l.length : Int)).toNat []) (by simp)
   simpa using h
 | false => exact ⟨Ev.bind (reGood_ev l) (by rw [g]; exact Ev.now _), Ev.bind (areLegs_ev l) (by rw [g]; exact Ev.now _)⟩
def Slow (l : List S37) (b i : Int) : Prop := ∀ j : Int, 0 ≤ j → j < i → (rd_T37 l j).f0 * (rd_T37 l b).f1 ≤ (rd_T37 l b).f0 * (rd_T37 l j).f1 ∧ (j < b → (rd_T37 l j).f0 * (rd_T37 l b).f1 ≠ (rd_T37 l b).f0 * (rd_T37 l j).f1)
theorem slow_trans {a b c d e f : Int} (hd : 0 < d) (h1 : a * d ≤ c * b) (h2 : c * f < e * d) (hb : 0 < b) (hf : 0 < f) : a * f < e * b := by
 have k1 : (a * d) * f ≤ (c * b) * f := Int.mul_le_mul_of_nonneg_right h1 (Int.le_of_lt hf)
 have k2 : (c * f) * b < (e * d) * b := Int.mul_lt_mul_of_pos_right h2 hb
 have k3 : (a * f) * d < (e * b) * d := by
  have e1 : (a * d) * f = (a * f) * d := by grind
  have e2 : (c * b) * f = (c * f) * b := by grind
  have e3 : (e * d) * b = (e * b) * d := by grind
  omega
 exact Int.lt_of_mul_lt_mul_right k3 (Int.le_of_lt hd)
theorem leg_bd {l : List S37} (ok : ∀ x, x ∈ l → okLeg x = true) {i : Int} (h0 : 0 ≤ i) (h1 : i < l.length) : (1 ≤ (rd_T37 l i).f0 ∧ (rd_T37 l i).f0 ≤ 1000) ∧ (1 ≤ (rd_T37 l i).f1 ∧ (rd_T37 l i).f1 ≤ 100) := okLeg_iff.1 (ok _ (get_mem l z37 i h0 h1))
theorem leg_mul {l : List S37} (ok : ∀ x, x ∈ l → okLeg x = true) {i j : Int} (h0 : 0 ≤ i) (h1 : i < l.length) (j0 : 0 ≤ j) (j1 : j < l.length) : wrap64 ((rd_T37 l i).f0 * (rd_T37 l j).f1) = (rd_T37 l i).f0 * (rd_T37 l j).f1 := by
 have a := leg_bd ok h0 h1
 have b := leg_bd ok j0 j1
 have m := mul_bd (a := (rd_T37 l i).f0) (b := (rd_T37 l j).f1) (A := 1000) (B := 100) (by omega) a.1.2 (by omega) b.2.2
 exact w64 (by omega) (by omega)
theorem slow_ev (l : List S37) (hl : l.length ≤ 5) (ok : ∀ x, x ∈ l → okLeg x = true) : ∀ i : Int, 0 ≤ i → i ≤ l.length → ∀ b : Int, 0 ≤ b → b < l.length → (i = 0 → b = 0) → b ≤ i → Slow l b i → ∃ q : Int, Ev (fun k => spec_SlowestLeg.l0 k l b l l.length i) (q, true) ∧ Ev (fun k => impl_SlowestLeg.l0 k l b l l.length i) (q, true) ∧ 0 ≤ q ∧ q < l.length ∧ Slow l q l.length := by
 refine downI (fun b hb hb2 _ _ hs => ?_) (fun i h0 h1 ih b hb hb2 hz hbi hs => ?_)
 ·exact ⟨b, Ev.step (fun k => by simp only [spec_SlowestLeg.l0]; rw [if_neg (by omega)]) (Ev.now _), Ev.step (fun k => by simp only [impl_SlowestLeg.l0]; rw [if_neg (by omega)]) (Ev.now _), hb, hb2, hs⟩
 ·have w1 := leg_mul ok h0 h1 hb hb2
  have w2 := leg_mul ok hb hb2 h0 h1
  by_cases c : wrap64 ((rd_T37 l i).f0 * (rd_T37 l b).f1) > wrap64 ((rd_T37 l b).f0 * (rd_T37 l i).f1)
  ·have c' := c
   rw [w1, w2] at c'
   have hn : Slow l i (i + 1) := fun j j0 j1 => by
    by_cases e : j = i
    ·rw [e]; exact ⟨Int.le_refl _, fun h => by omega⟩
    ·have hj := (hs j j0 (by omega)).1
     have x1 := leg_bd ok hb hb2
     have x2 := leg_bd ok h0 h1
     have x3 := leg_bd ok j0 (show j < l.length by omega)
     have := slow_trans (show 0 < (rd_T37 l b).f1 by omega) hj c' (show 0 < (rd_T37 l j).f1 by omega) (show 0 < (rd_T37 l i).f1 by omega)
     exact ⟨by omega, fun _ => by omega⟩
   obtain ⟨q, a1, a2, a3⟩ := ih i h0 h1 (by omega) (by omega) hn
   refine ⟨q, Ev.step (fun k => by simp only [spec_SlowestLeg.l0]; rw [if_pos h1, if_pos h0, if_pos h1, if_pos hb, if_pos hb2, if_pos c, w64 (x := i + 1) (by omega) (by omega)]) a1, Ev.step (fun k => by simp only [impl_SlowestLeg.l0]; rw [if_pos h1, if_pos h0, if_pos h1, if_pos hb, if_pos hb2, if_pos c, w64 (x := i + 1) (by omega) (by omega)]) a2, a3⟩
  ·have c' := c
   rw [w1, w2] at c'
   have hn : Slow l b (i + 1) := fun j j0 j1 => by
    by_cases e : j = i
    ·rw [e]; exact ⟨by omega, fun h => by omega⟩
    ·exact hs j j0 (by omega)
   obtain ⟨q, a1, a2, a3⟩ := ih b hb hb2 (by omega) (by omega) hn
   refine ⟨q, Ev.step (fun k => by simp only [spec_SlowestLeg.l0]; rw [if_pos h1, if_pos h0, if_pos h1, if_pos hb, if_pos hb2, if_neg c, w64 (x := i + 1) (by omega) (by omega)]) a1, Ev.step (fun k => by simp only [impl_SlowestLeg.l0]; rw [if_pos h1, if_pos h0, if_pos h1, if_pos hb, if_pos hb2, if_neg c, w64 (x := i + 1) (by omega) (by omega)]) a2, a3⟩
theorem slow_told (l : List S37) : ∃ q : Int, Ev (fun k => spec_SlowestLeg.f k l) (q, goodLegs l) ∧ Ev (fun k => impl_SlowestLeg.f k l) (q, goodLegs l) ∧ (goodLegs l = true → 0 ≤ q ∧ q < l.length ∧ Slow l q l.length) := by
 cases g : goodLegs l with
 | true =>
  have hl := good_len g
  obtain ⟨q, a1, a2, a3⟩ := slow_ev l hl.2 (good_ok g) 0 (by omega) (by omega) 0 (by omega) (by omega) (fun _ => rfl) (by omega) (fun j j0 j1 => by omega)
  exact ⟨q, Ev.bind (reGood_ev l) (by rw [g]; exact a1), Ev.bind (areLegs_ev l) (by rw [g]; exact a2), fun _ => a3⟩
 | false => exact ⟨0, Ev.bind (reGood_ev l) (by rw [g]; exact Ev.now _), Ev.bind (areLegs_ev l) (by rw [g]; exact Ev.now _), (fun h => by cases h)⟩
structure PlaceLaw (l : List S37) (x y q : Int) : Prop where
 good : goodLegs l = true
 low : gg x y = 1
 x0 : 0 ≤ x
 y0 : 1 ≤ y ∧ y ≤ 10000000000000
 all : x ≤ longI l * y
 q0 : 0 ≤ q
 q1 : q < l.length
 ge : longI (l.take q.toNat) * y ≤ x
 le : x ≤ (longI (l.take q.toNat) + (rd_T37 l q).f0) * y
theorem longI_app (a b : List S37) : longI (a ++ b) = longI a + longI b := by
 induction a with
 | nil => simp [longI]
 | cons x a ih => rw [List.cons_append, longI_cons, longI_cons, ih]; omega
theorem longI_take (l : List S37) (i : Int) (h0 : 0 ≤ i) (h1 : i < l.length) : longI (l.take (i + 1).toNat) = longI (l.take i.toNat) + (rd_T37 l i).f0 := by
 rw [take_get l z37 i h0 h1, longI_app]
 simp [longI]
 rfl
theorem longI_split (l : List S37) (ok : ∀ x, x ∈ l → okLeg x = true) (n : Nat) : longI (l.take n) ≤ longI l ∧ 0 ≤ longI (l.take n) := by
 have e := longI_app (l.take n) (l.drop n)
 rw [List.take_append_drop] at e
 have h1 := (longI_bd (l.drop n) (fun x hx => ok x (List.mem_of_mem_drop hx))).1
 have h2 := (longI_bd (l.take n) (fun x hx => ok x (List.mem_of_mem_take hx))).1
 omega
theorem one_low (x : Int) : gg x 1 = 1 := by unfold gg; simp
theorem place_told (l : List S37) (num den : Int) : ∃ (x y q : Int) (b : Bool), b = (goodLegs l && momB num den) ∧
  Ev (fun k => spec_PlaceOnLegs.f k l num den) (x, y, b) ∧ Ev (fun k => impl_PlaceOnLegs.f k l num den) (x, y, b) ∧ Ev (fun k => spec_LegAt.f k l num den) (q, b) ∧ Ev (fun k => impl_LegAt.f k l num den) (q, b) ∧
  (b = true → PlaceLaw l x y q) ∧
  (b = true → ∀ i : Int, 0 ≤ i → i ≤ l.length → (∀ j, 0 ≤ j → j < i → ¬ onStop l num den j) → (i < l.length → onStop l num den i) → num * (timeL (l.take i.toNat)).2 = (timeL (l.take i.toNat)).1 * den → x = longI (l.take i.toNat) ∧ y = 1 ∧ q = (if i = l.length then i - 1 else i)) := by
 cases g : goodLegs l with
 | false =>
  refine ⟨0, 0, 0, false, rfl, Ev.bind (reGood_ev l) ?_, Ev.bind (areLegs_ev l) ?_, Ev.bind (reGood_ev l) ?_, Ev.bind (areLegs_ev l) ?_, (fun h => by cases h), (fun h => by cases h)⟩
  ·simp only [g, Bool.false_eq_true, if_false]
   exact Ev.step (fun k => by simp only [spec_PlaceOnLegs.j0]; rw [if_pos (by simp)]) (Ev.now _)
  ·simp only [g, Bool.false_eq_true, if_false]
   exact Ev.step (fun k => by simp only [impl_PlaceOnLegs.j0]; rw [if_pos (by simp)]) (Ev.now _)
  ·simp only [g, Bool.false_eq_true, if_false]
   exact Ev.step (fun k => by simp only [spec_LegAt.j0]; rw [if_pos (by simp)]) (Ev.now _)
  ·simp only [g, Bool.false_eq_true, if_false]
   exact Ev.now _
 | true =>
  cases m : momB num den with
  | false =>
   refine ⟨0, 0, 0, false, rfl, Ev.bind (reGood_ev l) ?_, Ev.bind (areLegs_ev l) ?_, Ev.bind (reGood_ev l) ?_, Ev.bind (areLegs_ev l) ?_, (fun h => by cases h), (fun h => by cases h)⟩
   ·simp only [g, mom_eq, m, if_true, Option.bind_some]
    exact Ev.step (fun k => by simp only [spec_PlaceOnLegs.j0]; rw [if_pos (by simp)]) (Ev.now _)
   ·simp only [g, legTime_eq, m, if_true, Option.bind_some]
    exact Ev.step (fun k => by simp only [impl_PlaceOnLegs.j0]; rw [if_pos (by simp)]) (Ev.now _)
   ·simp only [g, mom_eq, m, if_true, Option.bind_some]
    exact Ev.step (fun k => by simp only [spec_LegAt.j0]; rw [if_pos (by simp)]) (Ev.now _)
   ·simp only [g, legTime_eq, m, if_true, Option.bind_some, Bool.false_eq_true, if_false]
    exact Ev.now _
  | true =>
   obtain ⟨hn, hd⟩ := momB_iff.1 m
   obtain ⟨n, q, e, f, a1, a2, a3, a4, a5⟩ := legs_on l g hn hd
   have hl := good_len g
   have ok := good_ok g
   have q0 : 0 ≤ q := by rw [a3]; split <;> omega
   have q1 : q < l.length := by rw [a3]; split <;> omega
   have qs : ∀ j, 0 ≤ j → j < q → ¬ onStop l num den j := fun j b1 b2 => a4 j b1 (by rw [a3] at b2; split at b2 <;> omega)
   have P := plc l hl.2 ok hn hd q0 q1 qs
   have St := stop_iff l hl.2 ok num den q0 q1
   have at1 : Ev (fun k => spec_LegAt.f k l num den) (q, true) := by
    refine Ev.bind (reGood_ev l) ?_
    simp only [g, mom_eq, m, if_true, Option.bind_some]
    refine Ev.step (fun k => by simp only [spec_LegAt.j0]; rw [if_neg (by simp)]) (Ev.bind e ?_)
    simp only [least_eq, Option.bind_some, w64 (x := (l.length : Int) - 1) (by omega) (by omega), ← a3]
    exact Ev.now _
   have at2 : Ev (fun k => impl_LegAt.f k l num den) (q, true) := by
    refine Ev.bind (areLegs_ev l) ?_
    simp only [g, legTime_eq, m, if_true, Option.bind_some]
    exact Ev.bind f (Ev.now _)
   have who : ∀ i : Int, 0 ≤ i → i ≤ l.length → (∀ j, 0 ≤ j → j < i → ¬ onStop l num den j) → (i < l.length → onStop l num den i) → n = i := fun i i0 i1 i2 i3 => by
    by_cases c1 : n < i
    ·exact absurd (a5 (by omega)) (i2 n a1 c1)
    ·by_cases c2 : i < n
     ·exact absurd (i3 (by omega)) (a4 i i0 c2)
     ·omega
   have specStart : ∀ r, Ev (fun k => spec_PlaceOnLegs.j0 k l num den false) r → Ev (fun k => spec_PlaceOnLegs.f k l num den) r := fun r h => Ev.bind (reGood_ev l) (by simp only [g, mom_eq, m, if_true, Option.bind_some]; exact h)
   have implStart : ∀ r, Ev (fun k => impl_PlaceOnLegs.j0 k l num den false) r → Ev (fun k => impl_PlaceOnLegs.f k l num den) r := fun r h => Ev.bind (areLegs_ev l) (by simp only [g, legTime_eq, m, if_true, Option.bind_some]; exact h)
   by_cases c : n = l.length
   ·
    have hq : q = (l.length : Int) - 1 := by rw [a3]; split <;> omega
    have ns : ¬ onStop l num den q := a4 q q0 (by omega)
    rw [St] at ns
    have e2 : l.take (q + 1).toNat = l := List.take_of_length_le (by omega)
    have lt := longI_take l q q0 q1
    rw [e2] at lt
    have sp := longI_split l ok q.toNat
    have bd := longI_bd l ok
    have xb := leg_bd ok q0 q1
    refine ⟨longI l, 1, q, true, rfl, specStart _ ?_, implStart _ ?_, at1, at2, fun _ => ⟨g, one_low _, by omega, by omega, by omega, q0, q1, by omega, by omega⟩, fun _ i i0 i1 i2 i3 _ => ?_⟩
    ·refine Ev.step (fun k => by simp only [spec_PlaceOnLegs.j0]; rw [if_neg (by simp)]) (Ev.bind e ?_)
     simp only [if_pos c]
     exact Ev.bind (reLong_ev l hl.2 ok) (Ev.now _)
    ·refine Ev.step (fun k => by simp only [impl_PlaceOnLegs.j0]; rw [if_neg (by simp)]) (Ev.bind f ?_)
     simp only [if_pos q0, if_pos (show q ≤ l.length by omega)]
     refine Ev.bind (timeOf_ev (l.take q.toNat) (by simp; omega) (take_ok ok _)) ?_
     simp only [if_pos q1, P.a, P.b, P.c, P.d, P.e, P.f]
     have e1 : wrap64 (q + 1) = q + 1 := w64 (by omega) (by omega)
     simp only [if_pos (show (rd_T37 l q).f1 * (num * (timeL (l.take q.toNat)).2 - (timeL (l.take q.toNat)).1 * den) ≥ (rd_T37 l q).f0 * (timeL (l.take q.toNat)).2 * den by omega), e1, if_pos (show 0 ≤ q + 1 by omega), if_pos (show q + 1 ≤ l.length by omega)]
     rw [e2]
     exact Ev.bind (longOf_ev l hl.2 ok) (Ev.now _)
    ·have hi := who i i0 i1 i2 i3
     rw [show i = l.length by omega, Int.toNat_natCast, List.take_of_length_le (Nat.le_refl _), if_pos rfl]
     exact ⟨rfl, rfl, hq⟩
   ·
    have hq : q = n := by rw [a3]; split <;> omega
    subst hq
    have ns := a5 (by omega)
    rw [St] at ns
    have hb := lo_cross (num * (timeL (l.take q.toNat)).2 - (timeL (l.take q.toNat)).1 * den) (den * (timeL (l.take q.toNat)).2)
    have gp := P.gp
    have hdt : 0 < den * (timeL (l.take q.toNat)).2 := by rw [Int.mul_comm]; exact gp.1
    have hdt2 : den * (timeL (l.take q.toNat)).2 ≤ 10000000000000 := by rw [Int.mul_comm]; exact gp.2
    have yp := lo_pos (num * (timeL (l.take q.toNat)).2 - (timeL (l.take q.toNat)).1 * den) hdt
    have yl := lo_le2 (num * (timeL (l.take q.toNat)).2 - (timeL (l.take q.toNat)).1 * den) hdt
    have x0 := lo_nonneg hdt P.nn
    have xl := lo_le1 hdt P.nn
    have bd1 := P.bd1
    have on := P.on
    have mp := P.mp
    have sp := longI_split l ok q.toNat
    have sp1 := longI_split l ok (q + 1).toNat
    have lt := longI_take l q q0 q1
    have cr := lo_cross (longI (l.take q.toNat) * (timeL (l.take q.toNat)).2 * den + (rd_T37 l q).f1 * (num * (timeL (l.take q.toNat)).2 - (timeL (l.take q.toNat)).1 * den)) ((timeL (l.take q.toNat)).2 * den)
    have rp := lo_pos (longI (l.take q.toNat) * (timeL (l.take q.toNat)).2 * den + (rd_T37 l q).f1 * (num * (timeL (l.take q.toNat)).2 - (timeL (l.take q.toNat)).1 * den)) gp.1
    have rl := lo_le2 (longI (l.take q.toNat) * (timeL (l.take q.toNat)).2 * den + (rd_T37 l q).f1 * (num * (timeL (l.take q.toNat)).2 - (timeL (l.take q.toNat)).1 * den)) gp.1
    have rn := lo_nonneg gp.1 mp.1
    have rg := lo_gcd (longI (l.take q.toNat) * (timeL (l.take q.toNat)).2 * den + (rd_T37 l q).f1 * (num * (timeL (l.take q.toNat)).2 - (timeL (l.take q.toNat)).1 * den)) gp.1
    have law : PlaceLaw l (lo (longI (l.take q.toNat) * (timeL (l.take q.toNat)).2 * den + (rd_T37 l q).f1 * (num * (timeL (l.take q.toNat)).2 - (timeL (l.take q.toNat)).1 * den)) ((timeL (l.take q.toNat)).2 * den)).1 (lo (longI (l.take q.toNat) * (timeL (l.take q.toNat)).2 * den + (rd_T37 l q).f1 * (num * (timeL (l.take q.toNat)).2 - (timeL (l.take q.toNat)).1 * den)) ((timeL (l.take q.toNat)).2 * den)).2 q := by
     generalize hX : (lo (longI (l.take q.toNat) * (timeL (l.take q.toNat)).2 * den + (rd_T37 l q).f1 * (num * (timeL (l.take q.toNat)).2 - (timeL (l.take q.toNat)).1 * den)) ((timeL (l.take q.toNat)).2 * den)).1 = X at *
     generalize hY : (lo (longI (l.take q.toNat) * (timeL (l.take q.toNat)).2 * den + (rd_T37 l q).f1 * (num * (timeL (l.take q.toNat)).2 - (timeL (l.take q.toNat)).1 * den)) ((timeL (l.take q.toNat)).2 * den)).2 = Y at *
     have hge : longI (l.take q.toNat) * Y ≤ X := by
      refine le_cancel gp.1 ?_
      rw [cr]
      have h1 := Int.mul_nonneg on.1 (Int.le_of_lt rp)
      have : (longI (l.take q.toNat) * (timeL (l.take q.toNat)).2 * den + (rd_T37 l q).f1 * (num * (timeL (l.take q.toNat)).2 - (timeL (l.take q.toNat)).1 * den)) * Y = longI (l.take q.toNat) * Y * ((timeL (l.take q.toNat)).2 * den) + (rd_T37 l q).f1 * (num * (timeL (l.take q.toNat)).2 - (timeL (l.take q.toNat)).1 * den) * Y := by grind
      omega
     have hle : X ≤ (longI (l.take q.toNat) + (rd_T37 l q).f0) * Y := by
      refine le_cancel gp.1 ?_
      rw [cr]
      have h1 := Int.mul_le_mul_of_nonneg_right (Int.le_of_lt ns) (Int.le_of_lt rp)
      have e1 : (longI (l.take q.toNat) * (timeL (l.take q.toNat)).2 * den + (rd_T37 l q).f1 * (num * (timeL (l.take q.toNat)).2 - (timeL (l.take q.toNat)).1 * den)) * Y = longI (l.take q.toNat) * (timeL (l.take q.toNat)).2 * den * Y + (rd_T37 l q).f1 * (num * (timeL (l.take q.toNat)).2 - (timeL (l.take q.toNat)).1 * den) * Y := Int.add_mul ..
      have e2 : (longI (l.take q.toNat) + (rd_T37 l q).f0) * Y * ((timeL (l.take q.toNat)).2 * den) = longI (l.take q.toNat) * (timeL (l.take q.toNat)).2 * den * Y + (rd_T37 l q).f0 * (timeL (l.take q.toNat)).2 * den * Y := by grind
      omega
     refine ⟨g, rg, rn, by omega, ?_, q0, q1, hge, hle⟩
     have h2 := Int.mul_le_mul_of_nonneg_right (show longI (l.take q.toNat) + (rd_T37 l q).f0 ≤ longI l by omega) (Int.le_of_lt rp)
     omega
    refine ⟨_, _, q, true, rfl, specStart _ ?_, implStart _ ?_, at1, at2, fun _ => law, fun _ i i0 i1 i2 i3 i4 => ?_⟩
    ·refine Ev.step (fun k => by simp only [spec_PlaceOnLegs.j0]; rw [if_neg (by simp)]) (Ev.bind e ?_)
     simp only [if_neg c, if_pos q0, if_pos (show q ≤ l.length by omega)]
     refine Ev.bind (reTime_ev (l.take q.toNat) (by simp; omega) (take_ok ok _)) ?_
     have wg : wrap64 (den * (timeL (l.take q.toNat)).2) = den * (timeL (l.take q.toNat)).2 := w64 (by omega) (by omega)
     simp only [P.a, P.b, P.c, wg]
     refine Ev.bind (meLow_ev hdt (by omega) (by omega) (by omega)) (Ev.bind (reLong_ev (l.take q.toNat) (by simp; omega) (take_ok ok _)) ?_)
     simp only [if_pos q1]
     have lp := P.lp
     have xp := P.xp
     generalize hA : (lo (num * (timeL (l.take q.toNat)).2 - (timeL (l.take q.toNat)).1 * den) (den * (timeL (l.take q.toNat)).2)).1 = A at *
     generalize hB : (lo (num * (timeL (l.take q.toNat)).2 - (timeL (l.take q.toNat)).1 * den) (den * (timeL (l.take q.toNat)).2)).2 = B at *
     have m1 := mul_bd (a := longI (l.take q.toNat)) (b := B) (A := 5000) (B := 10000000000000) lp.1 lp.2 (by omega) (by omega)
     have m2 := mul_bd (a := (rd_T37 l q).f1) (b := A) (A := 100) (B := 1000000000000000) (by omega) xp.2.2 x0 (by omega)
     have v1 : wrap64 (longI (l.take q.toNat) * B) = longI (l.take q.toNat) * B := w64 (by omega) (by omega)
     have v2 : wrap64 ((rd_T37 l q).f1 * A) = (rd_T37 l q).f1 * A := w64 (by omega) (by omega)
     have v3 : wrap64 (longI (l.take q.toNat) * B + (rd_T37 l q).f1 * A) = longI (l.take q.toNat) * B + (rd_T37 l q).f1 * A := w64 (by omega) (by omega)
     simp only [v1, v2, v3]
     have eq : lo (longI (l.take q.toNat) * (timeL (l.take q.toNat)).2 * den + (rd_T37 l q).f1 * (num * (timeL (l.take q.toNat)).2 - (timeL (l.take q.toNat)).1 * den)) ((timeL (l.take q.toNat)).2 * den) = lo (longI (l.take q.toNat) * B + (rd_T37 l q).f1 * A) B := by
      refine lo_eq gp.1 yp ?_
      generalize num * (timeL (l.take q.toNat)).2 - (timeL (l.take q.toNat)).1 * den = U at *
      generalize (timeL (l.take q.toNat)).2 = V at *
      generalize longI (l.take q.toNat) = Q at *
      generalize (rd_T37 l q).f1 = F at *
      have : A * (den * V) = U * B := hb
      grind
     rw [eq]
     exact Ev.bind (meLow_ev yp (by omega) (by omega) (by omega)) (Ev.now _)
    ·refine Ev.step (fun k => by simp only [impl_PlaceOnLegs.j0]; rw [if_neg (by simp)]) (Ev.bind f ?_)
     simp only [if_pos q0, if_pos (show q ≤ l.length by omega)]
     refine Ev.bind (timeOf_ev (l.take q.toNat) (by simp; omega) (take_ok ok _)) ?_
     simp only [if_pos q1, P.a, P.b, P.c, P.d, P.e, P.f]
     simp only [if_neg (show ¬ (rd_T37 l q).f1 * (num * (timeL (l.take q.toNat)).2 - (timeL (l.take q.toNat)).1 * den) ≥ (rd_T37 l q).f0 * (timeL (l.take q.toNat)).2 * den by omega)]
     refine Ev.bind (longOf_ev (l.take q.toNat) (by simp; omega) (take_ok ok _)) ?_
     simp only [P.h, P.k, P.m, P.g]
     exact Ev.bind (fraction_ev gp.1 (by omega) mp.2 (by omega)) (Ev.now _)
    ·have hi := who i i0 i1 i2 i3
     subst hi
     have z : num * (timeL (l.take q.toNat)).2 - (timeL (l.take q.toNat)).1 * den = 0 := by omega
     have el : lo (longI (l.take q.toNat) * (timeL (l.take q.toNat)).2 * den + (rd_T37 l q).f1 * (num * (timeL (l.take q.toNat)).2 - (timeL (l.take q.toNat)).1 * den)) ((timeL (l.take q.toNat)).2 * den) = (longI (l.take q.toNat), 1) := by
      rw [z]
      refine lo_of_cross gp.1 (by omega) (one_low _) ?_
      rw [Int.mul_zero, Int.add_zero, Int.mul_one, Int.mul_assoc]
     rw [el, if_neg c]
     exact ⟨rfl, rfl, rfl⟩
theorem time_le (l : List S37) (hl : l.length ≤ 5) (ok : ∀ x, x ∈ l → okLeg x = true) (i : Int) (h0 : 0 ≤ i) (h1 : i < l.length) : (timeL (l.take i.toNat)).1 * (timeL (l.take (i + 1).toNat)).2 < (timeL (l.take (i + 1).toNat)).1 * (timeL (l.take i.toNat)).2 := by
 have t := tmt l hl ok i.toNat
 have x := leg_bd ok h0 h1
 rw [timeL_take l i h0 h1]
 generalize timeL (l.take i.toNat) = T at *
 generalize rd_T37 l i = X at *
 have o := t.one
 have dp : 0 < T.2 * X.f1 := mul_pos (by omega) (by omega)
 unfold tstep
 have cr := lo_cross (T.1 * X.f1 + X.f0 * T.2) (T.2 * X.f1)
 have Dp := lo_pos (T.1 * X.f1 + X.f0 * T.2) dp
 generalize (lo (T.1 * X.f1 + X.f0 * T.2) (T.2 * X.f1)).1 = N at *
 generalize (lo (T.1 * X.f1 + X.f0 * T.2) (T.2 * X.f1)).2 = D at *
 have e1 : N * T.2 * X.f1 = N * (T.2 * X.f1) := Int.mul_assoc ..
 have e2 : (T.1 * X.f1 + X.f0 * T.2) * D = T.1 * D * X.f1 + X.f0 * T.2 * D := by grind
 have p : 0 < X.f0 * T.2 * D := mul_pos (mul_pos (by omega) (by omega)) Dp
 have key : T.1 * D * X.f1 < N * T.2 * X.f1 := by
  rw [e1, cr, e2]
  omega
 exact Int.lt_of_mul_lt_mul_right key (by omega)
theorem frac_le {a b c d e f : Int} (hb : 0 < b) (hd : 0 < d) (hf : 0 < f) (h1 : a * d ≤ c * b) (h2 : c * f ≤ e * d) : a * f ≤ e * b := by
 have k1 : (a * d) * f ≤ (c * b) * f := Int.mul_le_mul_of_nonneg_right h1 (Int.le_of_lt hf)
 have k2 : (c * f) * b ≤ (e * d) * b := Int.mul_le_mul_of_nonneg_right h2 (Int.le_of_lt hb)
 refine le_cancel hd ?_
 have e1 : (a * d) * f = (a * f) * d := by grind
 have e2 : (c * b) * f = (c * f) * b := by grind
 have e3 : (e * d) * b = (e * b) * d := by grind
 omega
theorem times_up (l : List S37) (hl : l.length ≤ 5) (ok : ∀ x, x ∈ l → okLeg x = true) : ∀ (d : Nat) (j : Int), 0 ≤ j → j + d ≤ l.length → (timeL (l.take j.toNat)).1 * (timeL (l.take (j + d).toNat)).2 ≤ (timeL (l.take (j + d).toNat)).1 * (timeL (l.take j.toNat)).2 := by
 intro d
 induction d with
 | zero => intro j _ _; rw [show j + ((0 : Nat) : Int) = j by omega]; exact Int.le_refl _
 | succ d ih =>
  intro j j0 j1
  have h1 := ih j j0 (by omega)
  have h2 := Int.le_of_lt (time_le l hl ok (j + d) (by omega) (by omega))
  have t1 := (tmt l hl ok j.toNat).one
  have t2 := (tmt l hl ok (j + d).toNat).one
  have t3 := (tmt l hl ok (j + d + 1).toNat).one
  rw [show j + ((d + 1 : Nat) : Int) = j + d + 1 by omega]
  exact frac_le (by omega) (by omega) (by omega) h1 h2
theorem end_stop (l : List S37) (hl : l.length ≤ 5) (ok : ∀ x, x ∈ l → okLeg x = true) (i : Int) (h0 : 0 ≤ i) (h1 : i ≤ l.length) : (∀ j, 0 ≤ j → j < i → ¬ onStop l (timeL (l.take i.toNat)).1 (timeL (l.take i.toNat)).2 j) ∧ (i < l.length → onStop l (timeL (l.take i.toNat)).1 (timeL (l.take i.toNat)).2 i) := by
 constructor
 ·intro j j0 j1
  unfold onStop
  have := times_up l hl ok (i - (j + 1)).toNat (j + 1) (by omega) (by omega)
  rw [show j + 1 + (((i - (j + 1)).toNat : Nat) : Int) = i by omega] at this
  omega
 ·intro h
  unfold onStop
  exact time_le l hl ok i h0 h
theorem decDigits_len : ∀ n : Nat, (Lib.decDigits n).length ≤ n + 1 := by
 intro n
 induction n using Nat.strongRecOn with
 | ind n ih =>
  rw [Lib.decDigits]
  split
  ·simp
  ·next h =>
   have := ih (n / 10) (by omega)
   simp
   omega
theorem ba_append (a b : List UInt8) : (⟨a.toArray⟩ : ByteArray) ++ ⟨b.toArray⟩ = ⟨(a ++ b).toArray⟩ := by
 apply ByteArray.ext
 simp
theorem ba_size (a : List UInt8) : (⟨a.toArray⟩ : ByteArray).size = a.length := by
 simp [ByteArray.size]
theorem digit_str (d : Nat) (h : d < 10) : strOfNums [(wrap64 (48 + (d : Int))) % 256] = ⟨([UInt8.ofNat (48 + d)] : List UInt8).toArray⟩ := by
 unfold strOfNums
 rw [w64 (by omega) (by omega), show (48 + (d : Int)) % 256 = ((48 + d : Nat) : Int) by omega]
 rw [List.map_cons, List.map_nil, Int.toNat_natCast]
theorem l1Num_ev : ∀ n : Nat, n ≤ 1000000000000000 → Ev (fun k => spec_l1Num.f k (n : Int)) (⟨(Lib.decDigits n).toArray⟩ : ByteArray) := by
 intro n
 induction n using Nat.strongRecOn with
 | ind n ih =>
  intro hn
  rw [Lib.decDigits]
  split
  ·next h =>
   refine Ev.step (fun k => by simp only [spec_l1Num.f]; rw [if_pos (by omega), digit_str n h]) (Ev.now _)
  ·next h =>
   have e1 : wrap64 (Int.tdiv (n : Int) 10) = ((n / 10 : Nat) : Int) := by
    have h1 : Int.tdiv (n : Int) 10 = ((n / 10 : Nat) : Int) := by rw [Int.tdiv_eq_ediv_of_nonneg (by omega)]; omega
    rw [h1, w64 (by omega) (by omega)]
   have e2 : Int.tmod (n : Int) 10 = ((n % 10 : Nat) : Int) := by rw [Int.tmod_eq_emod_of_nonneg (by omega)]; omega
   have hl := decDigits_len (n / 10)
   refine Ev.step (f := fun k => (spec_l1Num.f k ((n / 10 : Nat) : Int)).bind fun t107 => (if t107.size + ((⟨([UInt8.ofNat (48 + n % 10)] : List UInt8).toArray⟩ : ByteArray)).size ≤ 9223372036854775807 then (some (t107 ++ (⟨([UInt8.ofNat (48 + n % 10)] : List UInt8).toArray⟩ : ByteArray))) else none)) (fun k => by simp only [spec_l1Num.f, Option.bind_some]; rw [if_neg (by omega), e1, e2, digit_str (n % 10) (by omega)]) ?_
   refine Ev.bind (ih (n / 10) (by omega) (by omega)) ?_
   refine Ev.congr (fun k => by rw [ba_size, ba_size, if_pos (by simp; omega), ba_append]) (Ev.now _)
theorem itoa_nat (n : Nat) : Lib.itoa (n : Int) = Lib.decDigits n := by
 unfold Lib.itoa
 rw [if_neg (by omega), Int.toNat_natCast]
def txt (n : Int) : ByteArray := ⟨(Lib.itoa n).toArray⟩
theorem l1Num_txt (n : Int) (h0 : 0 ≤ n) (h1 : n ≤ 1000000000000000) : Ev (fun k => spec_l1Num.f k n) (txt n) := by
 obtain ⟨m, rfl⟩ := Int.eq_ofNat_of_zero_le h0
 unfold txt
 rw [itoa_nat]
 exact l1Num_ev m (by omega)
theorem txt_size (n : Int) (h0 : 0 ≤ n) : (txt n).size ≤ n.toNat + 1 := by
 obtain ⟨m, rfl⟩ := Int.eq_ofNat_of_zero_le h0
 unfold txt
 rw [itoa_nat, ba_size]
 exact decDigits_len m
theorem itoa_len (n : Int) (h0 : 0 ≤ n) : (Lib.itoa n).length ≤ n.toNat + 1 := by
 have := txt_size n h0
 unfold txt at this
 rwa [ba_size] at this
theorem itoa_ev (n : Int) (h0 : -9223372036854775808 ≤ n) (h1 : n ≤ 9223372036854775807) : strconv_Itoa.f n = some (txt n) := by
 unfold strconv_Itoa.f
 rw [if_pos ⟨h0, h1⟩]
 rfl
def cutL (c : UInt8) : List UInt8 → List (List UInt8)
 | [] => [[]]
 | x :: xs => if x = c then [] :: cutL c xs else (match cutL c xs with | [] => [[x]] | y :: ys => (x :: y) :: ys)
theorem cutL_ne (c : UInt8) : ∀ l, cutL c l ≠ [] := by
 intro l
 cases l with
 | nil => simp [cutL]
 | cons x xs =>
  unfold cutL
  split
  ·simp
  ·split <;> simp
theorem cutL_free (c : UInt8) : ∀ l, c ∉ l → cutL c l = [l] := by
 intro l
 induction l with
 | nil => intro _; rfl
 | cons x xs ih =>
  intro h
  rw [List.mem_cons, not_or] at h
  unfold cutL
  rw [if_neg (fun e => h.1 e.symm), ih h.2]
theorem cutL_app (c : UInt8) (b : List UInt8) : ∀ a, c ∉ a → cutL c (a ++ c :: b) = a :: cutL c b := by
 intro a
 induction a with
 | nil =>
  intro _
  show cutL c (c :: b) = _
  rw [cutL, if_pos rfl]
 | cons x xs ih =>
  intro h
  rw [List.mem_cons, not_or] at h
  show cutL c (x :: (xs ++ c :: b)) = _
  rw [cutL, if_neg (fun e => h.1 e.symm), ih h.2]
theorem cutL_join (c : UInt8) : ∀ l, Lib.join (cutL c l) [c] = l := by
 intro l
 induction l with
 | nil => rfl
 | cons x xs ih =>
  unfold cutL
  split
  ·next h =>
   subst h
   cases e : cutL x xs with
   | nil => exact absurd e (cutL_ne x xs)
   | cons y ys =>
    rw [e, Lib.join_cons] at ih
    rw [Lib.join_cons]
    have : Lib.joinTail [x] (y :: ys) = [x] ++ y ++ Lib.joinTail [x] ys := by simp [Lib.joinTail]
    rw [this, ← ih]
    simp
  ·cases e : cutL c xs with
   | nil => exact absurd e (cutL_ne c xs)
   | cons y ys =>
    rw [e, Lib.join_cons] at ih
    simp only [Lib.join_cons]
    rw [← ih]
    rfl
theorem join_cons2 (p q : List UInt8) (r : List (List UInt8)) (c : UInt8) : Lib.join (p :: q :: r) [c] = p ++ c :: Lib.join (q :: r) [c] := by
 rw [Lib.join_cons, Lib.join_cons]
 simp [Lib.joinTail]
theorem cutL_of_join (c : UInt8) : ∀ ps : List (List UInt8), ps ≠ [] → (∀ p, p ∈ ps → c ∉ p) → cutL c (Lib.join ps [c]) = ps := by
 intro ps
 induction ps with
 | nil => intro h; exact absurd rfl h
 | cons p r ih =>
  intro _ h
  have hp := h p List.mem_cons_self
  cases r with
  | nil => rw [Lib.join_one]; exact cutL_free c p hp
  | cons q r => rw [join_cons2, cutL_app c _ p hp, ih (by simp) (fun x hx => h x (List.mem_cons_of_mem _ hx))]
def mkB (l : List UInt8) : ByteArray := ⟨l.toArray⟩
theorem mkB_list (l : List UInt8) : (mkB l).data.toList = l := by simp [mkB]
theorem mkB_of (s : ByteArray) : mkB s.data.toList = s := by
 apply ByteArray.ext
 simp [mkB]
theorem mkB_size (l : List UInt8) : (mkB l).size = l.length := ba_size l
theorem size_list (s : ByteArray) : s.size = s.data.toList.length := by rw [Array.length_toList]; rfl
def cutB (c : UInt8) (s : ByteArray) : List ByteArray := (cutL c s.data.toList).map mkB
theorem ext_list {a b : ByteArray} (h : a.data.toList = b.data.toList) : a = b := by
 rw [← mkB_of a, ← mkB_of b, h]
theorem mkB_toList (l : List UInt8) : (mkB l).toList = l := by simp [mkB]
theorem toList_eq (x : ByteArray) : x.toList = x.data.toList := by
 have h := mkB_toList x.data.toList
 rwa [mkB_of] at h
theorem toList_inj (a b : ByteArray) (h : a.toList = b.toList) : a = b := by
 rw [toList_eq, toList_eq] at h
 exact ext_list h
theorem sep_size (c : UInt8) : (⟨#[c]⟩ : ByteArray).size = 1 := rfl
theorem splitB_cut (c : UInt8) : ∀ (n : Nat) (s : ByteArray), s.size ≤ n → Lib.splitB (⟨#[c]⟩ : ByteArray) 0 (Lib.countB s ⟨#[c]⟩) s = cutB c s := by
 intro n
 induction n with
 | zero =>
  intro s hs
  have hl : s.data.toList = [] := List.eq_nil_of_length_eq_zero (by rw [← size_list]; omega)
  have hi : Lib.indexB s (⟨#[c]⟩ : ByteArray) = -1 := by
   show Lib.index s.data.toList [c] = -1
   rw [hl]; rfl
  rw [Lib.countB_miss s _ hi, Lib.splitB_zero]
  unfold cutB
  rw [hl]
  show [s] = [mkB []]
  rw [← hl, mkB_of]
 | succ n ih =>
  intro s hs
  have hix : Lib.indexB s (⟨#[c]⟩ : ByteArray) = Lib.indexByte s.data.toList c := by
   show Lib.index s.data.toList [c] = _
   exact Lib.index_one _ _
  rcases Lib.indexB_cases s ⟨#[c]⟩ with hi | ⟨i, hi, hr⟩
  ·rw [Lib.countB_miss s _ hi, Lib.splitB_zero]
   rw [hix] at hi
   have hn : c ∉ s.data.toList := fun hm => by
    obtain ⟨k, hk, e⟩ := List.getElem_of_mem hm
    exact Lib.indexByte_none hi k (by rw [List.getElem?_eq_getElem hk, e])
   unfold cutB
   rw [cutL_free c _ hn]
   show [s] = [mkB _]
   rw [mkB_of]
  ·rw [Lib.countB_hit s _ i (by rw [sep_size]; omega) hi, Nat.add_comm 1, Lib.splitB_hit _ _ _ s i hi]
   rw [sep_size] at hr ⊢
   have e2 : (s.extract (i + 1) s.size).size = s.size - (i + 1) := by rw [ByteArray.size_extract]; omega
   rw [ih _ (by omega)]
   rw [hix] at hi
   obtain ⟨h1, h2⟩ := Lib.indexByte_some hi
   have hlt : i < s.data.toList.length := by rw [← size_list]; omega
   have hdec : s.data.toList = s.data.toList.take i ++ c :: s.data.toList.drop (i + 1) := by
    conv => lhs; rw [← List.take_append_drop i s.data.toList]
    rw [List.drop_eq_getElem_cons hlt]
    rw [List.getElem?_eq_getElem hlt] at h1
    injection h1 with h1
    rw [h1]
   have hfree : c ∉ s.data.toList.take i := fun hm => by
    obtain ⟨k, hk, e⟩ := List.getElem_of_mem hm
    rw [List.length_take] at hk
    rw [List.getElem_take] at e
    exact h2 k (by omega) (by rw [List.getElem?_eq_getElem (by omega), e])
   have hc : cutB c s = mkB (s.data.toList.take i) :: cutB c (s.extract (i + 1) s.size) := by
    unfold cutB
    rw [Lib.extract_to_end]
    conv => lhs; rw [hdec]
    rw [cutL_app c _ _ hfree, List.map_cons]
   rw [hc]
   congr 1
   apply ext_list
   rw [mkB_list, Lib.extract_from_zero, Nat.add_zero]
theorem split_eq (c : UInt8) (s : ByteArray) (hs : s.size < 4294967281) : strings_Split.f s (⟨#[c]⟩ : ByteArray) = some (cutB c s) := by
 unfold strings_Split.f
 rw [if_pos ⟨hs, by rw [sep_size]; omega⟩, splitB_cut c s.size s (Nat.le_refl _)]
theorem bt_list (s : ByteArray) (i : Int) (h0 : 0 ≤ i) (h1 : i < s.size) : ∃ h : i.toNat < s.data.toList.length, bt s i = ((s.data.toList[i.toNat]).toNat : Int) := by
 have h : i.toNat < s.size := by omega
 refine ⟨by rw [← size_list]; exact h, ?_⟩
 rw [← bt_at s i h]
 rfl
theorem ext_take (s : ByteArray) (a b : Nat) (h : a ≤ b) : (s.extract a b).data.toList = (s.data.toList.drop a).take (b - a) := by
 simp [List.take_drop]
theorem l1Split_l0_ev (c : UInt8) (s : ByteArray) (hs : s.size ≤ 1048576) : ∀ i : Int, 0 ≤ i → i ≤ s.size → ∀ (acc : List ByteArray) (f : Int), 0 ≤ f → f ≤ i → (acc.length : Int) ≤ f → c ∉ (s.data.toList.drop f.toNat).take (i.toNat - f.toNat) → Ev (fun k => spec_l1Split.l0 k s c.toNat acc f i) (acc ++ (cutL c (s.data.toList.drop f.toNat)).map mkB) := by
 refine downI (fun acc f f0 f1 ha hn => ?_) (fun i h0 h1 ih acc f f0 f1 ha hn => ?_)
 ·have hd : (s.data.toList.drop f.toNat).take ((s.size : Int).toNat - f.toNat) = s.data.toList.drop f.toNat := by
   refine List.take_of_length_le ?_
   rw [List.length_drop, ← size_list]; omega
  rw [hd] at hn
  refine Ev.step (fun k => by simp only [spec_l1Split.l0]; rw [if_neg (by omega), if_pos f0, if_pos f1, if_pos (by omega)]) ?_
  rw [cutL_free c _ hn]
  have e : s.extract f.toNat s.size = mkB (s.data.toList.drop f.toNat) := ext_list (by rw [Lib.extract_to_end, mkB_list])
  rw [e]
  exact Ev.now _
 ·obtain ⟨hlt, hb⟩ := bt_list s i h0 h1
  by_cases hc : s.data.toList[i.toNat] = c
  ·have hbc : bt s i = (c.toNat : Int) := by rw [hb, hc]
   have hdec : s.data.toList.drop f.toNat = (s.data.toList.drop f.toNat).take (i.toNat - f.toNat) ++ c :: s.data.toList.drop (i + 1).toNat := by
    conv => lhs; rw [← List.take_append_drop (i.toNat - f.toNat) (s.data.toList.drop f.toNat)]
    rw [List.drop_drop, show f.toNat + (i.toNat - f.toNat) = i.toNat by omega, List.drop_eq_getElem_cons hlt, hc, show (i + 1).toNat = i.toNat + 1 by omega]
   have e : s.extract f.toNat i.toNat = mkB ((s.data.toList.drop f.toNat).take (i.toNat - f.toNat)) := ext_list (by rw [ext_take _ _ _ (by omega), mkB_list])
   refine Ev.step (fun k => by simp only [spec_l1Split.l0]; rw [if_pos h1, if_pos h0, if_pos hbc, if_pos f0, if_pos f1, if_pos (by omega), if_pos (by omega), w64 (x := i + 1) (by omega) (by omega), e]) ?_
   have h := ih (acc ++ [mkB ((s.data.toList.drop f.toNat).take (i.toNat - f.toNat))]) (i + 1) (by omega) (by omega) (by simp; omega) (by simp)
   have hg : (cutL c (s.data.toList.drop f.toNat)).map mkB = mkB ((s.data.toList.drop f.toNat).take (i.toNat - f.toNat)) :: (cutL c (s.data.toList.drop (i + 1).toNat)).map mkB := by
    conv => lhs; rw [hdec]
    rw [cutL_app c _ _ hn, List.map_cons]
   rw [hg]
   rw [List.append_assoc] at h
   exact h
  ·have hbc : ¬ bt s i = (c.toNat : Int) := by
    rw [hb]
    intro e
    exact hc (UInt8.toNat_inj.1 (by omega))
   refine Ev.step (fun k => by simp only [spec_l1Split.l0]; rw [if_pos h1, if_pos h0, if_neg hbc, w64 (x := i + 1) (by omega) (by omega)]) (ih acc f f0 (by omega) ha ?_)
   rw [show (i + 1).toNat - f.toNat = (i.toNat - f.toNat) + 1 by omega, List.take_add_one, List.mem_append, not_or]
   refine ⟨hn, ?_⟩
   rw [List.getElem?_drop, show f.toNat + (i.toNat - f.toNat) = i.toNat by omega, List.getElem?_eq_getElem hlt]
   simp only [Option.toList_some, List.mem_singleton]
   exact fun e => hc e.symm
theorem l1Split_ev (c : UInt8) (s : ByteArray) (hs : s.size ≤ 1048576) (b : Int) (hb : b = (c.toNat : Int)) : Ev (fun k => spec_l1Split.f k s b) (cutB c s) := by
 subst hb
 unfold spec_l1Split.f
 have h := l1Split_l0_ev c s hs 0 (by omega) (by omega) [] 0 (by omega) (by omega) (by simp) (by simp)
 simpa [cutB] using h
theorem cutB_mem {c : UInt8} {s q : ByteArray} (h : q ∈ cutB c s) : q.size ≤ s.size := by
 have key : ∀ (l : List UInt8) (p : List UInt8), p ∈ cutL c l → p.length ≤ l.length := by
  intro l
  induction l with
  | nil => intro p hp; simp [cutL] at hp; simp [hp]
  | cons x xs ih =>
   intro p hp
   unfold cutL at hp
   split at hp
   ·rcases List.mem_cons.1 hp with rfl | hp
    ·simp
    ·have := ih p hp; simp; omega
   ·cases e : cutL c xs with
    | nil => rw [e] at hp; simp at hp; simp [hp]
    | cons y ys =>
     rw [e] at hp
     rcases List.mem_cons.1 hp with rfl | hp
     ·have := ih y (by rw [e]; exact List.mem_cons_self); simp; omega
     ·have := ih p (by rw [e]; exact List.mem_cons_of_mem _ hp); simp; omega
 obtain ⟨p, hp, rfl⟩ := List.mem_map.1 h
 rw [mkB_size, size_list]
 exact key _ p hp
def isDig (c : UInt8) : Bool := decide (48 ≤ c.toNat ∧ c.toNat ≤ 57)
def foldN (a : Nat) (l : List UInt8) : Nat := l.foldl (fun a c => a * 10 + (c.toNat - 48)) a
theorem foldN_cons (a : Nat) (c : UInt8) (l : List UInt8) : foldN a (c :: l) = foldN (a * 10 + (c.toNat - 48)) l := by
 unfold foldN
 rw [List.foldl_cons]
theorem foldN_snoc (a : Nat) (l : List UInt8) (c : UInt8) : foldN a (l ++ [c]) = foldN a l * 10 + (c.toNat - 48) := by
 unfold foldN
 rw [List.foldl_append]
 rfl
theorem foldN_ge : ∀ (l : List UInt8) (a : Nat), a ≤ foldN a l := by
 intro l
 induction l with
 | nil => intro a; exact Nat.le_refl _
 | cons c l ih => intro a; rw [foldN_cons]; exact Nat.le_trans (by omega) (ih _)
theorem foldN_lt : ∀ (l : List UInt8), l.all isDig = true → ∀ a : Nat, foldN a l < (a + 1) * 10 ^ l.length := by
 intro l
 induction l with
 | nil => intro _ a; simp [foldN]
 | cons c l ih =>
  intro h a
  rw [List.all_cons, Bool.and_eq_true] at h
  have hc : 48 ≤ c.toNat ∧ c.toNat ≤ 57 := by simpa [isDig] using h.1
  have h1 := ih h.2 (a * 10 + (c.toNat - 48))
  rw [foldN_cons, List.length_cons, Nat.pow_succ]
  have h2 : (a * 10 + (c.toNat - 48) + 1) * 10 ^ l.length ≤ ((a + 1) * 10) * 10 ^ l.length := Nat.mul_le_mul_right _ (by omega)
  rw [Nat.mul_comm (10 ^ l.length) 10, ← Nat.mul_assoc]
  omega
def canon (l : List UInt8) : Bool := decide (1 ≤ l.length ∧ l.length ≤ 6) && (decide (l.head? ≠ some 48 ∨ l.length = 1) && l.all isDig)
theorem digit_char (d : Nat) (h : d < 10) : isDig (UInt8.ofNat (48 + d)) = true ∧ (UInt8.ofNat (48 + d)).toNat - 48 = d := by
 have e : (UInt8.ofNat (48 + d)).toNat = 48 + d := by simp [UInt8.toNat_ofNat]; omega
 unfold isDig
 rw [e]
 exact ⟨decide_eq_true (by omega), by omega⟩
theorem dec_dig : ∀ n : Nat, (Lib.decDigits n).all isDig = true ∧ foldN 0 (Lib.decDigits n) = n := by
 intro n
 induction n using Nat.strongRecOn with
 | ind n ih =>
  rw [Lib.decDigits]
  split
  ·next h =>
   obtain ⟨h1, h2⟩ := digit_char n h
   refine ⟨by rw [List.all_cons, h1]; rfl, ?_⟩
   simp only [foldN, List.foldl_cons, List.foldl_nil, h2]
   omega
  ·next h =>
   obtain ⟨h1, h2⟩ := digit_char (n % 10) (by omega)
   obtain ⟨h3, h4⟩ := ih (n / 10) (by omega)
   refine ⟨by rw [List.all_append, h3, List.all_cons, h1]; rfl, ?_⟩
   rw [foldN_snoc, h4, h2]
   omega
theorem dec_ne (n : Nat) : Lib.decDigits n ≠ [] := by
 rw [Lib.decDigits]
 split <;> simp
theorem dec_head : ∀ n : Nat, 1 ≤ n → (Lib.decDigits n).head? ≠ some 48 := by
 intro n
 induction n using Nat.strongRecOn with
 | ind n ih =>
  intro hn
  rw [Lib.decDigits]
  split
  ·next h =>
   intro e
   simp only [List.head?_cons, Option.some.injEq] at e
   have := (digit_char n h).2
   rw [e] at this
   simp at this
   omega
  ·next h =>
   have := ih (n / 10) (by omega) (by omega)
   cases e : Lib.decDigits (n / 10) with
   | nil => exact absurd e (dec_ne _)
   | cons y ys =>
    rw [e] at this
    simpa using this
theorem dec_len : ∀ (k n : Nat), n < 10 ^ (k + 1) → (Lib.decDigits n).length ≤ k + 1 := by
 intro k
 induction k with
 | zero =>
  intro n h
  rw [Lib.decDigits, dif_pos (by simpa using h)]
  simp
 | succ k ih =>
  intro n h
  rw [Lib.decDigits]
  split
  ·simp
  ·have h2 : n / 10 < 10 ^ (k + 1) := by
    rw [Nat.pow_succ] at h
    omega
   have := ih (n / 10) h2
   simp
   omega
theorem canon_dec (n : Nat) (h : n ≤ 999999) : canon (Lib.decDigits n) = true := by
 unfold canon
 have hl := dec_len 5 n (by omega)
 have hn := dec_ne n
 have h1 : 1 ≤ (Lib.decDigits n).length := by
  cases e : Lib.decDigits n with
  | nil => exact absurd e hn
  | cons _ _ => simp
 rw [(dec_dig n).1, Bool.and_true, Bool.and_eq_true, decide_eq_true_iff, decide_eq_true_iff]
 refine ⟨⟨h1, by omega⟩, ?_⟩
 by_cases z : 1 ≤ n
 ·exact .inl (dec_head n z)
 ·right
  rw [Lib.decDigits, dif_pos (by omega)]
  rfl
theorem decD_of : ∀ (m : Nat) (l : List UInt8), l.length = m → 1 ≤ m → (l.head? ≠ some 48 ∨ l.length = 1) → l.all isDig = true → Lib.decDigits (foldN 0 l) = l := by
 intro m
 induction m with
 | zero => intro l _ h; omega
 | succ m ih =>
  intro l hl _ hh hd
  have hne : l ≠ [] := by intro e; rw [e] at hl; simp at hl
  obtain ⟨p, d, rfl⟩ : ∃ p d, l = p ++ [d] := ⟨l.dropLast, l.getLast hne, (List.dropLast_concat_getLast hne).symm⟩
  rw [List.all_append, Bool.and_eq_true] at hd
  have hdd : 48 ≤ d.toNat ∧ d.toNat ≤ 57 := by simpa [isDig] using hd.2
  have hchar : UInt8.ofNat (48 + (d.toNat - 48)) = d := by
   rw [show 48 + (d.toNat - 48) = d.toNat by omega]
   simp
  rw [foldN_snoc]
  rw [List.length_append, List.length_singleton] at hl
  cases p with
  | nil =>
   have e : foldN 0 [] = 0 := rfl
   rw [e, Lib.decDigits, dif_pos (by omega), Nat.zero_mul, Nat.zero_add, hchar]
   rfl
  | cons c p =>
   have hc0 : c ≠ 48 := by
    rcases hh with hh | hh
    ·intro e; exact hh (by simp [e])
    ·simp at hh
   have hcd : 48 ≤ c.toNat ∧ c.toNat ≤ 57 := by
    have := hd.1
    rw [List.all_cons, Bool.and_eq_true] at this
    simpa [isDig] using this.1
   have hpos : 1 ≤ foldN 0 (c :: p) := by
    rw [foldN_cons]
    refine Nat.le_trans ?_ (foldN_ge _ _)
    have : c.toNat ≠ 48 := fun e => hc0 (UInt8.toNat_inj.1 (by simpa using e))
    omega
   have h2 := ih (c :: p) (by simpa using hl) (by simp at hl; omega) (.inl (by simpa using hc0)) hd.1
   rw [Lib.decDigits, dif_neg (by omega), show (foldN 0 (c :: p) * 10 + (d.toNat - 48)) / 10 = foldN 0 (c :: p) by omega, show (foldN 0 (c :: p) * 10 + (d.toNat - 48)) % 10 = d.toNat - 48 by omega, h2, hchar]
def rdS (s : ByteArray) : Int := if canon s.data.toList = true then ((foldN 0 s.data.toList : Nat) : Int) else -1
theorem rdS_cases (s : ByteArray) : rdS s = -1 ∨ (0 ≤ rdS s ∧ rdS s ≤ 999999 ∧ s.data.toList = Lib.itoa (rdS s)) := by
 unfold rdS
 split
 ·next h =>
  right
  unfold canon at h
  rw [Bool.and_eq_true, Bool.and_eq_true, decide_eq_true_iff, decide_eq_true_iff] at h
  obtain ⟨⟨h1, h2⟩, h3, h4⟩ := h
  have hlt := foldN_lt _ h4 0
  have hp : 10 ^ s.data.toList.length ≤ 10 ^ 6 := Nat.pow_le_pow_right (by omega) h2
  refine ⟨by omega, by omega, ?_⟩
  rw [itoa_nat]
  exact (decD_of _ _ rfl h1 h3 h4).symm
 ·exact .inl rfl
theorem rdS_itoa (s : ByteArray) (v : Int) (h0 : 0 ≤ v) (h1 : v ≤ 999999) (h : s.data.toList = Lib.itoa v) : rdS s = v := by
 obtain ⟨n, rfl⟩ := Int.eq_ofNat_of_zero_le h0
 unfold rdS
 rw [h, itoa_nat, if_pos (canon_dec n (by omega)), (dec_dig n).2]
theorem l1Read_l0_ev (s : ByteArray) (hs : s.size ≤ 6) : ∀ i : Int, 0 ≤ i → i ≤ s.size → ∀ a : Nat, a < 10 ^ i.toNat → Ev (fun k => spec_l1Read.l0 k s a i) (if (s.data.toList.drop i.toNat).all isDig = true then ((foldN a (s.data.toList.drop i.toNat) : Nat) : Int) else -1) := by
 refine downI (fun a ha => ?_) (fun i h0 h1 ih a ha => ?_)
 ·refine Ev.step (fun k => by simp only [spec_l1Read.l0]; rw [if_neg (by omega)]) ?_
  rw [List.drop_of_length_le (by rw [← size_list]; omega)]
  exact Ev.now _
 ·obtain ⟨hlt, hb⟩ := bt_list s i h0 h1
  rw [List.drop_eq_getElem_cons hlt]
  have hpw : 10 ^ i.toNat ≤ 10 ^ 5 := Nat.pow_le_pow_right (by omega) (by omega)
  by_cases c : 48 ≤ (s.data.toList[i.toNat]).toNat ∧ (s.data.toList[i.toNat]).toNat ≤ 57
  ·have e : wrap64 (wrap64 (10 * (a : Int)) + (bt s i - 48) % 256) = ((a * 10 + ((s.data.toList[i.toNat]).toNat - 48) : Nat) : Int) := by
    rw [w64 (x := 10 * (a : Int)) (by omega) (by omega), hb, show (((s.data.toList[i.toNat]).toNat : Int) - 48) % 256 = (((s.data.toList[i.toNat]).toNat - 48 : Nat) : Int) by omega, w64 (by omega) (by omega)]
    omega
   refine Ev.step (fun k => by simp only [spec_l1Read.l0]; rw [if_pos h1, if_pos h0, if_neg (by rw [hb]; omega), if_neg (by rw [hb]; omega), e, w64 (x := i + 1) (by omega) (by omega)]) ?_
   have h := ih (a * 10 + ((s.data.toList[i.toNat]).toNat - 48)) (by rw [show (i + 1).toNat = i.toNat + 1 by omega, Nat.pow_succ]; omega)
   rw [show (i + 1).toNat = i.toNat + 1 by omega] at h
   rw [List.all_cons, show isDig (s.data.toList[i.toNat]) = true from decide_eq_true c, Bool.true_and]
   exact h
  ·rw [List.all_cons, show isDig (s.data.toList[i.toNat]) = false from decide_eq_false c, Bool.false_and, if_neg (by simp)]
   by_cases c1 : bt s i < 48
   ·exact Ev.step (fun k => by simp only [spec_l1Read.l0]; rw [if_pos h1, if_pos h0, if_pos c1]) (Ev.now _)
   ·exact Ev.step (fun k => by simp only [spec_l1Read.l0]; rw [if_pos h1, if_pos h0, if_neg c1, if_pos (by rw [hb] at c1 ⊢; omega)]) (Ev.now _)
theorem l1Read_ev (s : ByteArray) : Ev (fun k => spec_l1Read.f k s) (rdS s) := by
 unfold spec_l1Read.f
 simp only [in_eq, Option.bind_some]
 by_cases h : 1 ≤ (s.size : Int) ∧ (s.size : Int) ≤ 6
 ·simp only [h, and_self, decide_true, if_true]
  have hsl := size_list s
  obtain ⟨hlt, hb⟩ := bt_list s 0 (by omega) (by omega)
  have hhd : s.data.toList.head? = some (s.data.toList[(0 : Int).toNat]) := by
   rw [List.head?_eq_getElem?]
   exact List.getElem?_eq_getElem hlt
  have h0 := l1Read_l0_ev s (by omega) 0 (by omega) (by omega) 0 (by simp)
  simp only [Int.toNat_zero, List.drop_zero] at h0
  refine Ev.congr (fun k => by rw [if_pos (by omega)]) ?_
  by_cases z : bt s 0 = 48 ∧ (s.size : Int) > 1
  ·refine Ev.congr (fun k => by rw [if_pos z.1]) ?_
   refine Ev.step (fun k => by simp only [spec_l1Read.j0]; rw [if_pos (decide_eq_true z.2)]) ?_
   have e : rdS s = -1 := by
    unfold rdS
    refine if_neg (fun hc => ?_)
    unfold canon at hc
    rw [Bool.and_eq_true, Bool.and_eq_true, decide_eq_true_iff, decide_eq_true_iff] at hc
    rcases hc.2.1 with h2 | h2
    ·refine h2 ?_
     rw [hhd]
     congr 1
     have := z.1
     rw [hb] at this
     exact UInt8.toNat_inj.1 (by simpa using (by omega : (s.data.toList[(0 : Int).toNat]).toNat = 48))
    ·omega
   rw [e]
   exact Ev.now _
  ·have key : Ev (fun k => spec_l1Read.j0 k s false) (rdS s) := by
    refine Ev.step (fun k => by simp only [spec_l1Read.j0]; rw [if_neg (by simp)]) ?_
    have e : rdS s = (if s.data.toList.all isDig = true then ((foldN 0 s.data.toList : Nat) : Int) else -1) := by
     unfold rdS canon
     rw [decide_eq_true (by omega : 1 ≤ s.data.toList.length ∧ s.data.toList.length ≤ 6), Bool.true_and, decide_eq_true (show s.data.toList.head? ≠ some 48 ∨ s.data.toList.length = 1 from ?_), Bool.true_and]
     by_cases h1 : s.data.toList.length = 1
     ·exact .inr h1
     ·left
      rw [hhd]
      intro e
      injection e with e
      exact z ⟨by rw [hb, e]; rfl, by omega⟩
    rw [e]
    exact h0
   by_cases z1 : bt s 0 = 48
   ·refine Ev.congr (fun k => by rw [if_pos z1, decide_eq_false (fun h2 => z ⟨z1, h2⟩)]) key
   ·exact Ev.congr (fun k => by rw [if_neg z1]) key
 ·simp only [h, decide_false, Bool.false_eq_true, if_false]
  have e : rdS s = -1 := by
   unfold rdS
   refine if_neg (fun hc => ?_)
   unfold canon at hc
   rw [Bool.and_eq_true, decide_eq_true_iff] at hc
   have := size_list s
   omega
  rw [e]
  exact Ev.step (fun k => by simp only [spec_l1Read.j0, if_true]) (Ev.now _)
theorem parse10 : ∀ (l : List UInt8), l.all isDig = true → ∀ a : Nat, (a + 1) * 10 ^ l.length ≤ 1000000000000000000 → Lib.parseUint10 a l = .ok (foldN a l) := by
 intro l
 induction l with
 | nil => intro _ a _; rfl
 | cons c l ih =>
  intro h a ha
  rw [List.all_cons, Bool.and_eq_true] at h
  have hc : 48 ≤ c.toNat ∧ c.toNat ≤ 57 := by simpa [isDig] using h.1
  rw [List.length_cons, Nat.pow_succ] at ha
  have hp : 1 ≤ 10 ^ l.length := Nat.one_le_iff_ne_zero.2 (by simp)
  have h2 : (a * 10 + (c.toNat - 48) + 1) * 10 ^ l.length ≤ ((a + 1) * 10) * 10 ^ l.length := Nat.mul_le_mul_right _ (by omega)
  have h3 : ((a + 1) * 10) * 10 ^ l.length = (a + 1) * (10 ^ l.length * 10) := by rw [Nat.mul_assoc, Nat.mul_comm 10]
  have h4 : (a * 10 + (c.toNat - 48) + 1) * 1 ≤ (a * 10 + (c.toNat - 48) + 1) * 10 ^ l.length := Nat.mul_le_mul_left _ hp
  unfold Lib.parseUint10
  rw [if_pos hc, if_neg (by omega), if_neg (by omega), ih h.2 _ (by omega), foldN_cons]
theorem atoi_dec (n : Nat) (h : n ≤ 999999) : Lib.atoiAll (Lib.decDigits n) = .ok (n : Int) := by
 have hd := dec_dig n
 have hl := dec_len 5 n (by omega)
 have hp : 10 ^ (Lib.decDigits n).length ≤ 10 ^ 6 := Nat.pow_le_pow_right (by omega) hl
 have h10 := parse10 _ hd.1 0 (by omega)
 rw [hd.2] at h10
 cases e : Lib.decDigits n with
 | nil => exact absurd e (dec_ne n)
 | cons c r =>
  have hc : 48 ≤ c.toNat ∧ c.toNat ≤ 57 := by
   have := hd.1
   rw [e, List.all_cons, Bool.and_eq_true] at this
   simpa [isDig] using this.1
  rw [e] at h10
  unfold Lib.atoiAll
  simp only
  rw [if_neg (by omega)]
  unfold Lib.parseMag
  rw [if_neg (by simp), h10]
  simp only
  rw [if_neg (by omega), if_neg (by omega), if_neg (by omega)]
theorem rdNum_ok {s : ByteArray} {v : Int} (h : XText.rdNum s = (v, true)) : s.data.toList = Lib.itoa v := by
 unfold XText.rdNum at h
 split at h
 ·next u _ =>
  split at h
  ·next he =>
   injection h with h1 _
   subst h1
   have := toList_inj _ _ he
   rw [← this]
  ·simp at h
 ·simp at h
theorem rdNum_itoa (s : ByteArray) (v : Int) (h0 : 0 ≤ v) (h1 : v ≤ 999999) (h : s.data.toList = Lib.itoa v) : XText.rdNum s = (v, true) := by
 obtain ⟨n, rfl⟩ := Int.eq_ofNat_of_zero_le h0
 have ha : Lib.atoiAll s.data.toList = .ok (n : Int) := by rw [h, itoa_nat]; exact atoi_dec n (by omega)
 unfold XText.rdNum
 rw [ha]
 simp only
 rw [if_pos]
 rw [toList_eq, toList_eq, h]
theorem itoa_free (v : Int) (h0 : 0 ≤ v) (c : UInt8) (hc : isDig c = false) : c ∉ Lib.itoa v := by
 obtain ⟨n, rfl⟩ := Int.eq_ofNat_of_zero_le h0
 rw [itoa_nat]
 intro hm
 have := List.all_eq_true.1 (dec_dig n).1 c hm
 rw [hc] at this
 cases this
theorem cutL_len (c : UInt8) : ∀ l, (cutL c l).length ≤ l.length + 1 := by
 intro l
 induction l with
 | nil => simp [cutL]
 | cons x xs ih =>
  unfold cutL
  split
  ·simp; omega
  ·cases e : cutL c xs with
   | nil => simp
   | cons y ys => rw [e] at ih; simp at ih ⊢; omega
theorem cutB_len (c : UInt8) (s : ByteArray) : (cutB c s).length ≤ s.size + 1 := by
 unfold cutB
 rw [List.length_map, size_list]
 exact cutL_len c _
theorem cutB_lists (c : UInt8) (s : ByteArray) : (cutB c s).map (fun (x : ByteArray) => x.data.toList) = cutL c s.data.toList := by
 unfold cutB
 rw [List.map_map]
 have : (fun (x : ByteArray) => x.data.toList) ∘ mkB = id := by funext l; exact mkB_list l
 rw [this, List.map_id]
theorem cutB_join (c : UInt8) (s : ByteArray) : s.data.toList = Lib.join ((cutB c s).map (fun (x : ByteArray) => x.data.toList)) [c] := by
 rw [cutB_lists, cutL_join]
theorem cutB_of (c : UInt8) (s : ByteArray) (ps : List (List UInt8)) (hne : ps ≠ []) (hf : ∀ p, p ∈ ps → c ∉ p) (h : s.data.toList = Lib.join ps [c]) : cutB c s = ps.map mkB := by
 unfold cutB
 rw [h, cutL_of_join c ps hne hf]
def rdAll : List ByteArray → Option (List Int)
 | [] => some []
 | q :: qs => if (XText.rdNum q).2 = true then (rdAll qs).map (fun l => (XText.rdNum q).1 :: l) else none
theorem rdAll_some : ∀ (qs : List ByteArray) (l : List Int), rdAll qs = some l → qs.map (fun (x : ByteArray) => x.data.toList) = l.map Lib.itoa := by
 intro qs
 induction qs with
 | nil => intro l h; simp only [rdAll, Option.some.injEq] at h; subst h; rfl
 | cons q qs ih =>
  intro l h
  unfold rdAll at h
  split at h
  ·next hq =>
   obtain ⟨m, hm, rfl⟩ := Option.map_eq_some_iff.1 h
   rw [List.map_cons, List.map_cons, ih m hm]
   congr 1
   exact rdNum_ok (v := (XText.rdNum q).1) (Prod.ext rfl hq)
  ·cases h
theorem rdAll_of : ∀ (qs : List ByteArray) (l : List Int), qs.map (fun (x : ByteArray) => x.data.toList) = l.map Lib.itoa → (∀ v, v ∈ l → 0 ≤ v ∧ v ≤ 999999) → rdAll qs = some l := by
 intro qs
 induction qs with
 | nil =>
  intro l h _
  cases l with
  | nil => rfl
  | cons v l => simp at h
 | cons q qs ih =>
  intro l h hb
  cases l with
  | nil => simp at h
  | cons v l =>
   rw [List.map_cons, List.map_cons, List.cons.injEq] at h
   have hv := hb v List.mem_cons_self
   have hr := rdNum_itoa q v hv.1 hv.2 h.1
   unfold rdAll
   rw [hr, if_pos rfl, ih l h.2 (fun x hx => hb x (List.mem_cons_of_mem _ hx))]
   rfl
theorem rdOf_mem (qs : List ByteArray) (i : Int) (h0 : 0 ≤ i) (h1 : i < qs.length) : rdOf ByteArray.empty qs i ∈ qs := get_mem qs ByteArray.empty i h0 h1
def numsR (acc : List Int) : Option (List Int) → List Int × Bool
 | some l => (acc ++ l, true)
 | none => ([], false)
theorem readNums_l0_ev (qs : List ByteArray) (hl : qs.length ≤ 16777217) (hs : ∀ q, q ∈ qs → q.size ≤ 16777216) : ∀ i : Int, 0 ≤ i → i ≤ qs.length → ∀ acc : List Int, (acc.length : Int) ≤ i → Ev (fun k => impl_readNumbers.l0 k acc qs qs.length i) (numsR acc (rdAll (qs.drop i.toNat))) := by
 refine downI (fun acc ha => ?_) (fun i h0 h1 ih acc ha => ?_)
 ·refine Ev.step (fun k => by simp only [impl_readNumbers.l0]; rw [if_neg (by omega)]) ?_
  rw [List.drop_of_length_le (by omega)]
  simp only [rdAll, numsR, List.append_nil]
  exact Ev.now _
 ·have hq := hs _ (rdOf_mem qs i h0 h1)
  rw [drop_get qs ByteArray.empty i h0 h1]
  change Ev _ (numsR acc (rdAll (rdOf ByteArray.empty qs i :: qs.drop (i + 1).toNat)))
  unfold rdAll
  have st : ∀ k, impl_readNumbers.l0 (k + 1) acc qs qs.length i = if (XText.rdNum (rdOf ByteArray.empty qs i)).2 = true then impl_readNumbers.l0 k (acc ++ [(XText.rdNum (rdOf ByteArray.empty qs i)).1]) qs qs.length (i + 1) else some ([], false) := by
   intro k
   simp only [impl_readNumbers.l0, impl_readNumber.f]
   rw [if_pos h1, if_pos h0, if_pos h1, if_pos (show (rdOf ByteArray.empty qs i).size ≤ 281474976710656 by omega), Option.bind_some]
   simp only
   rw [if_pos (show acc.length < 17592186044416 by omega), w64 (x := i + 1) (by omega) (by omega)]
  by_cases c : (XText.rdNum (rdOf ByteArray.empty qs i)).2 = true
  ·refine Ev.step (fun k => by rw [st, if_pos c]) ?_
   rw [if_pos c]
   have h := ih (acc ++ [(XText.rdNum (rdOf ByteArray.empty qs i)).1]) (by simp; omega)
   cases e : rdAll (qs.drop (i + 1).toNat) with
   | none => rw [e] at h; exact h
   | some l =>
    rw [e] at h
    simp only [numsR, List.append_assoc, List.singleton_append] at h
    exact h
  ·rw [if_neg c]
   exact Ev.step (fun k => by rw [st, if_neg c]; rfl) (Ev.now _)
theorem readNums_ev (c : UInt8) (s : ByteArray) (hs : s.size ≤ 16777216) : Ev (fun k => impl_readNumbers.f k s (⟨#[c]⟩ : ByteArray)) (numsR [] (rdAll (cutB c s))) := by
 unfold impl_readNumbers.f
 rw [split_eq c s (by omega)]
 simp only [Option.bind_some]
 have hl := cutB_len c s
 exact readNums_l0_ev (cutB c s) (by omega) (fun q hq => by have := cutB_mem hq; omega) 0 (by omega) (by omega) [] (by simp)
theorem joinNums_l0_ev (s : ByteArray) (l : List Int) (hl : l.length ≤ 1048576) (hr : ∀ x, x ∈ l → 0 ≤ x ∧ x ≤ 1000000000) (hj : (Lib.join (l.map Lib.itoa) s.data.toList).length ≤ 140737488355328) : ∀ i : Int, 0 ≤ i → i ≤ l.length → ∀ acc : List ByteArray, acc.length = l.length → acc.take i.toNat = (l.map txt).take i.toNat → Ev (fun k => impl_joinNumbers.l0 k s acc l l.length i) (⟨(Lib.join (l.map Lib.itoa) s.data.toList).toArray⟩ : ByteArray) := by
 refine downI (fun acc ha ht => ?_) (fun i h0 h1 ih acc ha ht => ?_)
 ·have e : acc = l.map txt := by
   rw [List.take_of_length_le (by omega), List.take_of_length_le (by simp)] at ht
   exact ht
  have e2 : (l.map txt).map (fun (x : ByteArray) => x.data.toList) = l.map Lib.itoa := by
   rw [List.map_map]
   rfl
  refine Ev.step (fun k => by simp only [impl_joinNumbers.l0]; rw [if_neg (by omega), strings_Join.f, e, e2, if_pos ⟨by simp; omega, hj⟩]; rfl) (Ev.now _)
 ·have hx := hr _ (get_mem l 0 i h0 h1)
  change 0 ≤ rd l i ∧ rd l i ≤ 1000000000 at hx
  refine Ev.step (fun k => by simp only [impl_joinNumbers.l0]; rw [if_pos h1, if_pos h0, if_pos h1, itoa_ev _ (by omega) (by omega), Option.bind_some, if_pos (by omega), w64 (x := i + 1) (by omega) (by omega)]) (ih (acc.set i.toNat (txt (rd l i))) (by simpa using ha) ?_)
  have hg : (l.map txt)[i.toNat]? = some (txt (rd l i)) := by
   rw [List.getElem?_map, List.getElem?_eq_getElem (show i.toNat < l.length by omega)]
   unfold rd
   rw [List.getD_eq_getElem?_getD, List.getElem?_eq_getElem (show i.toNat < l.length by omega)]
   rfl
  rw [show (i + 1).toNat = i.toNat + 1 by omega, List.take_succ_eq_append_getElem (by rw [List.length_set]; omega), List.getElem_set_self, List.take_set_of_le (Nat.le_refl _), ht, List.take_add_one, hg]
  rfl
theorem joinNums_ev (s : ByteArray) (l : List Int) (hl : l.length ≤ 1048576) (hr : ∀ x, x ∈ l → 0 ≤ x ∧ x ≤ 1000000000) (hj : (Lib.join (l.map Lib.itoa) s.data.toList).length ≤ 140737488355328) : Ev (fun k => impl_joinNumbers.f k l s) (⟨(Lib.join (l.map Lib.itoa) s.data.toList).toArray⟩ : ByteArray) := by
 unfold impl_joinNumbers.f
 refine Ev.congr (fun k => by rw [if_pos (by omega), if_pos (by omega)]) ?_
 exact joinNums_l0_ev s l hl hr hj 0 (by omega) (by omega) _ (by simp) (by simp)
def txt2 (s : List UInt8) (a b : Int) : List UInt8 := Lib.itoa a ++ (s ++ Lib.itoa b)
theorem joinNums2_ev (s : ByteArray) (hs : s.size ≤ 1000) (a b : Int) (ha : 0 ≤ a ∧ a ≤ 1000000000) (hb : 0 ≤ b ∧ b ≤ 1000000000) : Ev (fun k => impl_joinNumbers.f k [a, b] s) (⟨(txt2 s.data.toList a b).toArray⟩ : ByteArray) := by
 have e : Lib.join ([a, b].map Lib.itoa) s.data.toList = txt2 s.data.toList a b := by
  unfold txt2
  rw [List.map_cons, List.map_cons, List.map_nil, Lib.join_cons]
  simp [Lib.joinTail]
 have la := itoa_len a ha.1
 have lb := itoa_len b hb.1
 have ls : s.data.toList.length = s.size := Array.length_toList
 have h := joinNums_ev s [a, b] (by simp) (fun x hx => by
  rcases List.mem_cons.1 hx with rfl | hx
  ·exact ha
  ·rw [List.mem_singleton.1 hx]; exact hb) (by rw [e]; unfold txt2; simp only [List.length_append]; omega)
 rw [e] at h
 exact h
theorem join_snoc (xs : List (List UInt8)) (x sep : List UInt8) (h : xs ≠ []) : Lib.join (xs ++ [x]) sep = Lib.join xs sep ++ sep ++ x := by
 cases xs with
 | nil => exact absurd rfl h
 | cons y ys =>
  rw [List.cons_append, Lib.join_cons, Lib.join_cons]
  simp [Lib.joinTail, List.append_assoc]
theorem joinTail_len (M : Nat) (sep : List UInt8) : ∀ xs : List (List UInt8), (∀ x, x ∈ xs → x.length ≤ M) → (Lib.joinTail sep xs).length ≤ xs.length * (M + sep.length) := by
 intro xs
 induction xs with
 | nil => intro _; simp [Lib.joinTail]
 | cons y ys ih =>
  intro h
  have h1 := ih (fun x hx => h x (List.mem_cons_of_mem _ hx))
  have h2 := h y List.mem_cons_self
  have e : Lib.joinTail sep (y :: ys) = sep ++ y ++ Lib.joinTail sep ys := by simp [Lib.joinTail]
  rw [e, List.length_append, List.length_append, List.length_cons, Nat.succ_mul]
  omega
theorem join_len (M : Nat) (sep : List UInt8) (xs : List (List UInt8)) (h : ∀ x, x ∈ xs → x.length ≤ M) : (Lib.join xs sep).length ≤ xs.length * (M + sep.length) := by
 cases xs with
 | nil => simp [Lib.join_nil]
 | cons y ys =>
  have h1 := joinTail_len M sep ys (fun x hx => h x (List.mem_cons_of_mem _ hx))
  have h2 := h y List.mem_cons_self
  rw [Lib.join_cons, List.length_append, List.length_cons, Nat.succ_mul]
  omega
def legT (x : S37) : List UInt8 := txt2 [47] x.f0 x.f1
theorem legT_len {x : S37} (h : okLeg x = true) : (legT x).length ≤ 1103 := by
 have h := okLeg_iff.1 h
 have la := itoa_len x.f0 (by omega)
 have lb := itoa_len x.f1 (by omega)
 unfold legT txt2
 simp only [List.length_append, List.length_cons, List.length_nil]
 omega
theorem legTs_take (l : List S37) (i : Int) (h0 : 0 ≤ i) (h1 : i < l.length) : (l.map legT).take (i + 1).toNat = (l.map legT).take i.toNat ++ [legT (rd_T37 l i)] := by
 rw [show (i + 1).toNat = i.toNat + 1 by omega, List.take_add_one]
 have hg : (l.map legT)[i.toNat]? = some (legT (rd_T37 l i)) := by
  rw [List.getElem?_map, List.getElem?_eq_getElem (show i.toNat < l.length by omega)]
  unfold rd_T37
  rw [List.getD_eq_getElem?_getD, List.getElem?_eq_getElem (show i.toNat < l.length by omega)]
  rfl
 rw [hg]
 rfl
theorem legsJ_len (l : List S37) (hl : l.length ≤ 5) (hg : l.all okLeg = true) (n : Nat) : (Lib.join ((l.map legT).take n) [43]).length ≤ 5520 := by
 have h := join_len 1103 [43] ((l.map legT).take n) (fun x hx => by
  obtain ⟨y, hy, rfl⟩ := List.mem_map.1 (List.mem_of_mem_take hx)
  exact legT_len (List.all_eq_true.1 hg y hy))
 have h2 : ((l.map legT).take n).length ≤ 5 := by
  rw [List.length_take, List.length_map]; omega
 have h3 : ((l.map legT).take n).length * (1103 + ([43] : List UInt8).length) ≤ 5 * (1103 + ([43] : List UInt8).length) := Nat.mul_le_mul_right _ h2
 simp only [List.length_cons, List.length_nil] at h h3
 omega
theorem legTxt (x : S37) : (txt x.f0 ++ (⟨#[47]⟩ : ByteArray)) ++ txt x.f1 = ⟨(legT x).toArray⟩ := by
 unfold txt legT txt2
 rw [show (⟨#[47]⟩ : ByteArray) = ⟨([47] : List UInt8).toArray⟩ from rfl, ba_append, ba_append, List.append_assoc]
theorem reText_l0_ev (l : List S37) (hl : l.length ≤ 5) (hg : l.all okLeg = true) : ∀ i : Int, 0 ≤ i → i ≤ l.length → Ev (fun k => spec_reText.l0 k (⟨(Lib.join ((l.map legT).take i.toNat) [43]).toArray⟩ : ByteArray) l l.length i) (⟨(Lib.join (l.map legT) [43]).toArray⟩ : ByteArray) := by
 refine downI ?_ (fun i h0 h1 ih => ?_)
 ·refine Ev.step (fun k => by simp only [spec_reText.l0]; rw [if_neg (by omega)]) ?_
  rw [List.take_of_length_le (by simp)]
  exact Ev.now _
 ·have hk := List.all_eq_true.1 hg _ (get_mem l z37 i h0 h1)
  change okLeg (rd_T37 l i) = true at hk
  have hok := okLeg_iff.1 hk
  have la := txt_size (rd_T37 l i).f0 (by omega)
  have lb := txt_size (rd_T37 l i).f1 (by omega)
  have lj := legsJ_len l hl hg i.toNat
  have lj2 := legT_len hk
  have n1 := l1Num_txt (rd_T37 l i).f0 (by omega) (by omega)
  have n2 := l1Num_txt (rd_T37 l i).f1 (by omega) (by omega)
  have e47 : (⟨#[47]⟩ : ByteArray).size = 1 := rfl
  by_cases z : i > 0
  ·have hne : (l.map legT).take i.toNat ≠ [] := by
    intro h
    have := congrArg List.length h
    rw [List.length_take, List.length_map, List.length_nil] at this
    omega
   have e : (⟨(Lib.join ((l.map legT).take i.toNat) [43]).toArray⟩ : ByteArray) ++ (⟨#[43]⟩ : ByteArray) ++ (⟨(legT (rd_T37 l i)).toArray⟩ : ByteArray) = ⟨(Lib.join ((l.map legT).take (i + 1).toNat) [43]).toArray⟩ := by
    rw [legTs_take l i h0 h1, join_snoc _ _ _ hne, show (⟨#[43]⟩ : ByteArray) = ⟨([43] : List UInt8).toArray⟩ from rfl, ba_append, ba_append]
   have e43 : (⟨#[43]⟩ : ByteArray).size = 1 := rfl
   refine Ev.step (fun k => by simp only [spec_reText.l0]; rw [if_pos h1, if_pos h0, if_pos h1, if_pos z, if_pos (by rw [ba_size]; omega), w64 (x := i + 1) (by omega) (by omega)]) ?_
   refine Ev.bind n1 (Ev.congr (fun k => by rw [if_pos (by omega)]) (Ev.bind n2 ?_))
   refine Ev.congr (fun k => by rw [if_pos (by rw [ByteArray.size_append]; omega), legTxt, if_pos (by simp only [ByteArray.size_append, ba_size, List.length_cons, List.length_nil]; omega), e]) ih
  ·obtain rfl : i = 0 := by omega
   have e : (⟨(Lib.join ((l.map legT).take (0 : Int).toNat) [43]).toArray⟩ : ByteArray) ++ (⟨(legT (rd_T37 l 0)).toArray⟩ : ByteArray) = ⟨(Lib.join ((l.map legT).take (0 + 1 : Int).toNat) [43]).toArray⟩ := by
    rw [legTs_take l 0 h0 h1, ba_append]
    simp [Lib.join_nil, Lib.join_one]
   refine Ev.step (fun k => by simp only [spec_reText.l0]; rw [if_pos h1, if_pos h0, if_pos h1, if_neg z, w64 (x := 0 + 1) (by omega) (by omega)]) ?_
   refine Ev.bind n1 (Ev.congr (fun k => by rw [if_pos (by omega)]) (Ev.bind n2 ?_))
   refine Ev.congr (fun k => by rw [if_pos (by rw [ByteArray.size_append]; omega), legTxt, if_pos (by rw [ba_size, ba_size]; omega), e]) ih
theorem reText_ev (l : List S37) (hl : l.length ≤ 5) (hg : l.all okLeg = true) : Ev (fun k => spec_reText.f k l) (⟨(Lib.join (l.map legT) [43]).toArray⟩ : ByteArray) := by
 have h := reText_l0_ev l hl hg 0 (by omega) (by omega)
 exact h
theorem legsText_l0_ev (l : List S37) (hl : l.length ≤ 5) (hg : l.all okLeg = true) : ∀ i : Int, 0 ≤ i → i ≤ l.length → ∀ acc : List ByteArray, acc.length = l.length → acc.take i.toNat = (l.map (fun x => (⟨(legT x).toArray⟩ : ByteArray))).take i.toNat → Ev (fun k => impl_LegsText.l0 k acc l l.length i) ((⟨(Lib.join (l.map legT) [43]).toArray⟩ : ByteArray), true) := by
 have lj := legsJ_len l hl hg l.length
 rw [List.take_of_length_le (by simp)] at lj
 refine downI (fun acc ha ht => ?_) (fun i h0 h1 ih acc ha ht => ?_)
 ·have e : acc = l.map (fun x => (⟨(legT x).toArray⟩ : ByteArray)) := by
   rw [List.take_of_length_le (by omega), List.take_of_length_le (by simp)] at ht
   exact ht
  have e2 : (l.map (fun x => (⟨(legT x).toArray⟩ : ByteArray))).map (fun (x : ByteArray) => x.data.toList) = l.map legT := by
   rw [List.map_map]
   rfl
  have e3 : ((⟨#[43]⟩ : ByteArray)).data.toList = [43] := rfl
  refine Ev.step (fun k => by simp only [impl_LegsText.l0]; rw [if_neg (by omega), strings_Join.f, e, e2, e3, if_pos ⟨by simp; omega, by omega⟩]; rfl) (Ev.now _)
 ·have hk := List.all_eq_true.1 hg _ (get_mem l z37 i h0 h1)
  change okLeg (rd_T37 l i) = true at hk
  have hok := okLeg_iff.1 hk
  have hj := joinNums2_ev (⟨#[47]⟩ : ByteArray) (by decide) (rd_T37 l i).f0 (rd_T37 l i).f1 (by omega) (by omega)
  refine Ev.step (fun k => by simp only [impl_LegsText.l0]; rw [if_pos h1, if_pos h0, if_pos h1, w64 (x := i + 1) (by omega) (by omega)]) ?_
  refine Ev.bind hj (Ev.congr (fun k => by rw [if_pos (by omega)]) (ih (acc.set i.toNat _) (by simpa using ha) ?_))
  have hg2 : (l.map (fun x => (⟨(legT x).toArray⟩ : ByteArray)))[i.toNat]? = some (⟨(txt2 (⟨#[47]⟩ : ByteArray).data.toList (rd_T37 l i).f0 (rd_T37 l i).f1).toArray⟩ : ByteArray) := by
   rw [List.getElem?_map, List.getElem?_eq_getElem (show i.toNat < l.length by omega)]
   unfold rd_T37
   rw [List.getD_eq_getElem?_getD, List.getElem?_eq_getElem (show i.toNat < l.length by omega)]
   rfl
  rw [show (i + 1).toNat = i.toNat + 1 by omega, List.take_succ_eq_append_getElem (by rw [List.length_set]; omega), List.getElem_set_self, List.take_set_of_le (Nat.le_refl _), ht, List.take_add_one, hg2]
  rfl
theorem goodLegs_iff {l : List S37} (h : goodLegs l = true) : (1 ≤ l.length ∧ l.length ≤ 5) ∧ l.all okLeg = true := by
 unfold goodLegs at h
 rw [Bool.and_eq_true, decide_eq_true_iff] at h
 exact ⟨by omega, h.2⟩
theorem legsText_spec_ev (l : List S37) : Ev (fun k => spec_LegsText.f k l) (if goodLegs l = true then ((⟨(Lib.join (l.map legT) [43]).toArray⟩ : ByteArray), true) else ((⟨#[]⟩ : ByteArray), false)) := by
 unfold spec_LegsText.f
 refine Ev.bind (reGood_ev l) ?_
 cases h : goodLegs l
 ·exact Ev.now _
 ·obtain ⟨h1, h2⟩ := goodLegs_iff h
  simp only [if_true]
  exact Ev.bind (reText_ev l h1.2 h2) (Ev.now _)
theorem legsText_impl_ev (l : List S37) : Ev (fun k => impl_LegsText.f k l) (if goodLegs l = true then ((⟨(Lib.join (l.map legT) [43]).toArray⟩ : ByteArray), true) else ((⟨#[]⟩ : ByteArray), false)) := by
 unfold impl_LegsText.f
 refine Ev.bind (areLegs_ev l) ?_
 cases h : goodLegs l
 ·exact Ev.now _
 ·obtain ⟨h1, h2⟩ := goodLegs_iff h
  simp only [if_true]
  refine Ev.congr (fun k => by rw [if_pos (by omega), if_pos (by omega)]) ?_
  exact legsText_l0_ev l h1.2 h2 0 (by omega) (by omega) _ (by simp) (by simp)
theorem dec_len' (k : Nat) (v : Int) (h0 : 0 ≤ v) (h : v < 10 ^ (k + 1)) : (Lib.itoa v).length ≤ k + 1 := by
 obtain ⟨n, rfl⟩ := Int.eq_ofNat_of_zero_le h0
 rw [itoa_nat]
 exact dec_len k n (by exact_mod_cast h)
def legP (x : S37) : List UInt8 := Lib.join [Lib.itoa x.f0, Lib.itoa x.f1] [47]
theorem legP_eq (x : S37) : legP x = Lib.itoa x.f0 ++ ([47] ++ Lib.itoa x.f1) := by
 unfold legP
 rw [Lib.join_cons]
 simp [Lib.joinTail]
theorem legP_len {x : S37} (h : okLeg x = true) : (legP x).length ≤ 8 := by
 have h := okLeg_iff.1 h
 have := dec_len' 3 x.f0 (by omega) (by omega)
 have := dec_len' 2 x.f1 (by omega) (by omega)
 rw [legP_eq]
 simp only [List.length_append, List.length_cons, List.length_nil]
 omega
theorem legP_free {x : S37} (h : okLeg x = true) : (43 : UInt8) ∉ legP x := by
 have h := okLeg_iff.1 h
 rw [legP_eq, List.mem_append, List.mem_append, not_or, not_or]
 exact ⟨itoa_free _ (by omega) 43 (by decide), by decide, itoa_free _ (by omega) 43 (by decide)⟩
theorem legP_cut {x : S37} (h : okLeg x = true) (q : ByteArray) (hq : q.data.toList = legP x) : cutB 47 q = [mkB (Lib.itoa x.f0), mkB (Lib.itoa x.f1)] := by
 have h := okLeg_iff.1 h
 have := cutB_of 47 q [Lib.itoa x.f0, Lib.itoa x.f1] (by simp) (fun p hp => by
  rcases List.mem_cons.1 hp with rfl | hp
  ·exact itoa_free _ (by omega) 47 (by decide)
  ·rw [List.mem_singleton.1 hp]; exact itoa_free _ (by omega) 47 (by decide)) hq
 simpa using this
def legS (q : ByteArray) : Option S37 := if (cutB 47 q).length = 2 then some ⟨rdS (rdOf ByteArray.empty (cutB 47 q) 0), rdS (rdOf ByteArray.empty (cutB 47 q) 1)⟩ else none
def legI (q : ByteArray) : Option S37 := match rdAll (cutB 47 q) with
 | some l => if l.length = 2 then some ⟨rd l 0, rd l 1⟩ else none
 | none => none
def allL (f : ByteArray → Option S37) : List ByteArray → Option (List S37)
 | [] => some []
 | q :: qs => (f q).bind fun x => (allL f qs).map (fun l => x :: l)
theorem two_get (l : List ByteArray) (h : l.length = 2) : l = [rdOf ByteArray.empty l 0, rdOf ByteArray.empty l 1] := by
 match l, h with
 | [a, b], _ => rfl
theorem two_getI (l : List Int) (h : l.length = 2) : l = [rd l 0, rd l 1] := by
 match l, h with
 | [a, b], _ => rfl
theorem legS_some {q : ByteArray} {x : S37} (h : legS q = some x) (hx : okLeg x = true) : q.data.toList = legP x := by
 unfold legS at h
 split at h
 ·next hl =>
  injection h with h
  have hk := okLeg_iff.1 hx
  rw [← h] at hk
  simp only at hk
  have h0 := rdS_cases (rdOf ByteArray.empty (cutB 47 q) 0)
  have h1 := rdS_cases (rdOf ByteArray.empty (cutB 47 q) 1)
  rcases h0 with h0 | ⟨_, _, h0⟩
  ·omega
  rcases h1 with h1 | ⟨_, _, h1⟩
  ·omega
  have e := cutB_join 47 q
  rw [two_get _ hl] at e
  rw [e]
  unfold legP
  rw [← h]
  simp only [List.map_cons, List.map_nil]
  rw [h0, h1]
 ·cases h
theorem legI_some {q : ByteArray} {x : S37} (h : legI q = some x) : q.data.toList = legP x := by
 unfold legI at h
 split at h
 ·next l hl =>
  split at h
  ·next h2 =>
   injection h with h
   have h3 := rdAll_some _ _ hl
   rw [two_getI l h2] at h3
   rw [cutB_join 47 q, h3, ← h]
   rfl
  ·cases h
 ·cases h
theorem legS_of {q : ByteArray} {x : S37} (hx : okLeg x = true) (hq : q.data.toList = legP x) : legS q = some x := by
 have hk := okLeg_iff.1 hx
 have hc := legP_cut hx q hq
 unfold legS
 rw [hc, if_pos (show ([mkB (Lib.itoa x.f0), mkB (Lib.itoa x.f1)] : List ByteArray).length = 2 from rfl)]
 have g0 := rdS_itoa (rdOf ByteArray.empty [mkB (Lib.itoa x.f0), mkB (Lib.itoa x.f1)] 0) x.f0 (by omega) (by omega) (mkB_list _)
 have g1 := rdS_itoa (rdOf ByteArray.empty [mkB (Lib.itoa x.f0), mkB (Lib.itoa x.f1)] 1) x.f1 (by omega) (by omega) (mkB_list _)
 rw [g0, g1]
theorem legI_of {q : ByteArray} {x : S37} (hx : okLeg x = true) (hq : q.data.toList = legP x) : legI q = some x := by
 have hk := okLeg_iff.1 hx
 have hc := legP_cut hx q hq
 have hr : rdAll (cutB 47 q) = some [x.f0, x.f1] := rdAll_of _ _ (by rw [hc]; simp [mkB_list]) (fun v hv => by
  rcases List.mem_cons.1 hv with rfl | hv
  ·omega
  ·rw [List.mem_singleton.1 hv]; omega)
 unfold legI
 rw [hr]
 rfl
theorem allL_of {f : ByteArray → Option S37} (hf : ∀ (q : ByteArray) (x : S37), okLeg x = true → q.data.toList = legP x → f q = some x) : ∀ (qs : List ByteArray) (l : List S37), l.all okLeg = true → qs.map (fun (x : ByteArray) => x.data.toList) = l.map legP → allL f qs = some l := by
 intro qs
 induction qs with
 | nil =>
  intro l _ h
  cases l with
  | nil => rfl
  | cons v l => simp at h
 | cons q qs ih =>
  intro l hk h
  cases l with
  | nil => simp at h
  | cons v l =>
   rw [List.map_cons, List.map_cons, List.cons.injEq] at h
   rw [List.all_cons, Bool.and_eq_true] at hk
   unfold allL
   rw [hf q v hk.1 h.1, Option.bind_some, ih l hk.2 h.2]
   rfl
theorem allL_some {f : ByteArray → Option S37} (hf : ∀ (q : ByteArray) (x : S37), f q = some x → okLeg x = true → q.data.toList = legP x) : ∀ (qs : List ByteArray) (l : List S37), allL f qs = some l → l.all okLeg = true → qs.map (fun (x : ByteArray) => x.data.toList) = l.map legP := by
 intro qs
 induction qs with
 | nil => intro l h _; simp only [allL, Option.some.injEq] at h; subst h; rfl
 | cons q qs ih =>
  intro l h hk
  unfold allL at h
  obtain ⟨x, hx, h⟩ := Option.bind_eq_some_iff.1 h
  obtain ⟨m, hm, rfl⟩ := Option.map_eq_some_iff.1 h
  rw [List.all_cons, Bool.and_eq_true] at hk
  rw [List.map_cons, List.map_cons, ih m hm hk.2, hf q x hx hk.1]
def endL (acc : List S37) : Option (List S37) → List S37 × Bool
 | some l => if goodLegs (acc ++ l) = true then (acc ++ l, true) else ([], false)
 | none => ([], false)
theorem endL_step (acc : List S37) (x : S37) (o : Option (List S37)) : endL (acc ++ [x]) o = endL acc (o.map (fun l => x :: l)) := by
 cases o with
 | none => rfl
 | some l =>
  simp only [endL, Option.map_some, List.append_assoc, List.singleton_append]
theorem reParse_l0_ev (qs : List ByteArray) (hl : qs.length ≤ 1048577) (hs : ∀ q, q ∈ qs → q.size ≤ 1048576) : ∀ i : Int, 0 ≤ i → i ≤ qs.length → ∀ acc : List S37, (acc.length : Int) ≤ i → Ev (fun k => spec_reParse.l0 k acc qs qs.length i) (endL acc (allL legS (qs.drop i.toNat))) := by
 refine downI (fun acc ha => ?_) (fun i h0 h1 ih acc ha => ?_)
 ·refine Ev.step (fun k => by simp only [spec_reParse.l0]; rw [if_neg (by omega)]) ?_
  rw [List.drop_of_length_le (by omega)]
  refine Ev.bind (reGood_ev acc) ?_
  simp only [allL, endL, List.append_nil]
  cases goodLegs acc
  ·exact Ev.now _
  ·exact Ev.now _
 ·have hq := hs _ (rdOf_mem qs i h0 h1)
  rw [drop_get qs ByteArray.empty i h0 h1]
  change Ev _ (endL acc (allL legS (rdOf ByteArray.empty qs i :: qs.drop (i + 1).toNat)))
  unfold allL
  refine Ev.step (fun k => by simp only [spec_reParse.l0]; rw [if_pos h1, if_pos h0, if_pos h1, w64 (x := i + 1) (by omega) (by omega)]) ?_
  refine Ev.bind (l1Split_ev 47 (rdOf ByteArray.empty qs i) hq 47 rfl) ?_
  by_cases c : (cutB 47 (rdOf ByteArray.empty qs i)).length = 2
  ·have e : legS (rdOf ByteArray.empty qs i) = some ⟨rdS (rdOf ByteArray.empty (cutB 47 (rdOf ByteArray.empty qs i)) 0), rdS (rdOf ByteArray.empty (cutB 47 (rdOf ByteArray.empty qs i)) 1)⟩ := by unfold legS; rw [if_pos c]
   rw [e, Option.bind_some]
   refine Ev.congr (fun k => by rw [if_pos (by omega), if_pos (by omega)]) ?_
   refine Ev.bind (l1Read_ev _) ?_
   refine Ev.congr (fun k => by rw [if_pos (by omega)]) ?_
   refine Ev.bind (l1Read_ev _) ?_
   refine Ev.congr (fun k => by rw [if_pos (by omega)]) ?_
   rw [← endL_step]
   exact ih (acc ++ [_]) (by simp; omega)
  ·have e : legS (rdOf ByteArray.empty qs i) = none := by unfold legS; rw [if_neg c]
   rw [e, Option.bind_none]
   exact Ev.congr (fun k => by rw [if_neg (by omega)]; rfl) (Ev.now _)
theorem parseLegs_l0_ev (qs : List ByteArray) (hl : qs.length ≤ 1048577) (hs : ∀ q, q ∈ qs → q.size ≤ 1048576) : ∀ i : Int, 0 ≤ i → i ≤ qs.length → ∀ acc : List S37, (acc.length : Int) ≤ i → Ev (fun k => impl_ParseLegs.l0 k acc qs qs.length i) (endL acc (allL legI (qs.drop i.toNat))) := by
 refine downI (fun acc ha => ?_) (fun i h0 h1 ih acc ha => ?_)
 ·refine Ev.step (fun k => by simp only [impl_ParseLegs.l0]; rw [if_neg (by omega)]) ?_
  rw [List.drop_of_length_le (by omega)]
  refine Ev.bind (areLegs_ev acc) ?_
  simp only [allL, endL, List.append_nil]
  cases goodLegs acc
  ·exact Ev.now _
  ·exact Ev.now _
 ·have hq := hs _ (rdOf_mem qs i h0 h1)
  rw [drop_get qs ByteArray.empty i h0 h1]
  change Ev _ (endL acc (allL legI (rdOf ByteArray.empty qs i :: qs.drop (i + 1).toNat)))
  unfold allL
  have hrn := readNums_ev 47 (rdOf ByteArray.empty qs i) (by omega)
  refine Ev.step (fun k => by simp only [impl_ParseLegs.l0]; rw [if_pos h1, if_pos h0, if_pos h1, w64 (x := i + 1) (by omega) (by omega)]) ?_
  cases hr : rdAll (cutB 47 (rdOf ByteArray.empty qs i)) with
  | none =>
   rw [hr] at hrn
   have e : legI (rdOf ByteArray.empty qs i) = none := by unfold legI; rw [hr]
   rw [e, Option.bind_none]
   refine Ev.bind (show Ev _ (([] : List Int), false) from hrn) ?_
   dsimp only
   exact Ev.congr (fun k => by rw [if_neg (by simp)]; rfl) (Ev.now _)
  | some l =>
   rw [hr] at hrn
   refine Ev.bind (show Ev _ (l, true) from hrn) ?_
   dsimp only
   refine Ev.congr (fun k => by rw [if_pos rfl]) ?_
   by_cases c : l.length = 2
   ·have e : legI (rdOf ByteArray.empty qs i) = some ⟨rd l 0, rd l 1⟩ := by unfold legI; rw [hr]; simp only [c, if_true]
    rw [e, Option.bind_some]
    refine Ev.congr (fun k => by rw [if_pos (by omega), if_pos (by omega), if_pos (by omega), if_pos (by omega)]) ?_
    rw [← endL_step]
    exact ih (acc ++ [_]) (by simp; omega)
   ·have e : legI (rdOf ByteArray.empty qs i) = none := by unfold legI; rw [hr]; simp only [c, if_false]
    rw [e, Option.bind_none]
    exact Ev.congr (fun k => by rw [if_neg (by omega)]; rfl) (Ev.now _)
theorem legs_endL {f : ByteArray → Option S37} (hf : ∀ (q : ByteArray) (x : S37), f q = some x → okLeg x = true → q.data.toList = legP x) (s : ByteArray) (H : ¬ ∃ l : List S37, goodLegs l = true ∧ s.data.toList = Lib.join (l.map legP) [43]) : endL [] (allL f (cutB 43 s)) = ([], false) := by
 cases e : allL f (cutB 43 s) with
 | none => rfl
 | some l =>
  simp only [endL, List.nil_append]
  refine if_neg (fun hg => H ⟨l, hg, ?_⟩)
  have hg2 := hg
  unfold goodLegs at hg2
  rw [Bool.and_eq_true] at hg2
  rw [cutB_join 43 s, allL_some hf _ _ e hg2.2]
def LgText (s : ByteArray) (l : List S37) : Prop := goodLegs l = true ∧ s.data.toList = Lib.join (l.map legP) [43]
theorem parseLegs_text {s : ByteArray} {l : List S37} (hs : s.size ≤ 1048576) (H : LgText s l) : Ev (fun k => spec_ParseLegs.f k s) (l, true) ∧ Ev (fun k => impl_ParseLegs.f k s) (l, true) := by
 obtain ⟨hg, he⟩ := H
 have hcl := cutB_len 43 s
 have hm : ∀ q, q ∈ cutB 43 s → q.size ≤ 1048576 := fun q hq => by have := cutB_mem hq; omega
 have hsp := reParse_l0_ev (cutB 43 s) (by omega) hm 0 (by omega) (by omega) [] (by simp)
 have him := parseLegs_l0_ev (cutB 43 s) (by omega) hm 0 (by omega) (by omega) [] (by simp)
 simp only [Int.toNat_zero, List.drop_zero] at hsp him
 have wrap : ∀ r : List S37 × Bool, Ev (fun k => spec_reParse.f k s) r → Ev (fun k => spec_ParseLegs.f k s) (r.1, r.2) := fun r h => by
  unfold spec_ParseLegs.f
  exact Ev.bind h (Ev.now _)
 have im : ∀ r : List S37 × Bool, Ev (fun k => impl_ParseLegs.l0 k [] (cutB 43 s) (cutB 43 s).length 0) r → Ev (fun k => impl_ParseLegs.f k s) r := fun r h => by
  unfold impl_ParseLegs.f
  rw [split_eq 43 s (by omega)]
  exact h
 have sp : s.size ≤ 80 → ∀ r : List S37 × Bool, Ev (fun k => spec_reParse.l0 k [] (cutB 43 s) (cutB 43 s).length 0) r → Ev (fun k => spec_reParse.f k s) r := fun h80 r h => by
  unfold spec_reParse.f
  refine Ev.congr (fun k => by rw [if_neg (by omega)]) ?_
  exact Ev.bind (l1Split_ev 43 s hs 43 rfl) h
 have hg2 := hg
 unfold goodLegs at hg2
 rw [Bool.and_eq_true, decide_eq_true_iff] at hg2
 have hlen := join_len 8 [43] (l.map legP) (fun x hx => by
  obtain ⟨y, hy, rfl⟩ := List.mem_map.1 hx
  exact legP_len (List.all_eq_true.1 hg2.2 y hy))
 have h80 : s.size ≤ 80 := by
  rw [size_list, he]
  rw [List.length_map] at hlen
  have : l.length * (8 + ([43] : List UInt8).length) ≤ 5 * (8 + ([43] : List UInt8).length) := Nat.mul_le_mul_right _ (by omega)
  simp only [List.length_cons, List.length_nil] at this hlen
  omega
 have hps := cutB_of 43 s (l.map legP) (by
  intro e
  have := congrArg List.length e
  rw [List.length_map, List.length_nil] at this
  omega) (fun p hp => by
  obtain ⟨y, hy, rfl⟩ := List.mem_map.1 hp
  exact legP_free (List.all_eq_true.1 hg2.2 y hy)) he
 have hmap : (cutB 43 s).map (fun (x : ByteArray) => x.data.toList) = l.map legP := by
  rw [hps, List.map_map]
  have : (fun (x : ByteArray) => x.data.toList) ∘ mkB = id := by funext l; exact mkB_list l
  rw [this, List.map_id]
 rw [allL_of (fun q x hx hq => legS_of hx hq) _ l hg2.2 hmap] at hsp
 rw [allL_of (fun q x hx hq => legI_of hx hq) _ l hg2.2 hmap] at him
 simp only [endL, List.nil_append, hg, if_true] at hsp him
 exact ⟨wrap (l, true) (sp h80 _ hsp), im _ him⟩
theorem parseLegs_none {s : ByteArray} (hs : s.size ≤ 1048576) (H : ¬ ∃ l, LgText s l) : Ev (fun k => spec_ParseLegs.f k s) ([], false) ∧ Ev (fun k => impl_ParseLegs.f k s) ([], false) := by
 have hcl := cutB_len 43 s
 have hm : ∀ q, q ∈ cutB 43 s → q.size ≤ 1048576 := fun q hq => by have := cutB_mem hq; omega
 have hsp := reParse_l0_ev (cutB 43 s) (by omega) hm 0 (by omega) (by omega) [] (by simp)
 have him := parseLegs_l0_ev (cutB 43 s) (by omega) hm 0 (by omega) (by omega) [] (by simp)
 simp only [Int.toNat_zero, List.drop_zero] at hsp him
 have wrap : ∀ r : List S37 × Bool, Ev (fun k => spec_reParse.f k s) r → Ev (fun k => spec_ParseLegs.f k s) (r.1, r.2) := fun r h => by
  unfold spec_ParseLegs.f
  exact Ev.bind h (Ev.now _)
 have im : ∀ r : List S37 × Bool, Ev (fun k => impl_ParseLegs.l0 k [] (cutB 43 s) (cutB 43 s).length 0) r → Ev (fun k => impl_ParseLegs.f k s) r := fun r h => by
  unfold impl_ParseLegs.f
  rw [split_eq 43 s (by omega)]
  exact h
 have sp : s.size ≤ 80 → ∀ r : List S37 × Bool, Ev (fun k => spec_reParse.l0 k [] (cutB 43 s) (cutB 43 s).length 0) r → Ev (fun k => spec_reParse.f k s) r := fun h80 r h => by
  unfold spec_reParse.f
  refine Ev.congr (fun k => by rw [if_neg (by omega)]) ?_
  exact Ev.bind (l1Split_ev 43 s hs 43 rfl) h
 rw [legs_endL (fun q x h hx => legS_some h hx) s H] at hsp
 rw [legs_endL (fun q x h _ => legI_some h) s H] at him
 refine ⟨?_, im _ him⟩
 by_cases h80 : s.size ≤ 80
 ·exact wrap ([], false) (sp h80 _ hsp)
 ·refine wrap ([], false) ?_
  unfold spec_reParse.f
  exact Ev.congr (fun k => by rw [if_pos (by omega)]) (Ev.now _)
theorem parseLegs_both (s : ByteArray) (hs : s.size ≤ 1048576) : ∃ P : List S37 × Bool, Ev (fun k => spec_ParseLegs.f k s) P ∧ Ev (fun k => impl_ParseLegs.f k s) P ∧ ((∃ l, LgText s l ∧ P = (l, true)) ∨ P = ([], false)) := by
 by_cases H : ∃ l, LgText s l
 ·obtain ⟨l, H⟩ := H
  exact ⟨_, (parseLegs_text hs H).1, (parseLegs_text hs H).2, .inl ⟨l, H, rfl⟩⟩
 ·exact ⟨_, (parseLegs_none hs H).1, (parseLegs_none hs H).2, .inr rfl⟩
theorem legP_legT (x : S37) : legP x = legT x := by
 rw [legP_eq]
 rfl
theorem legsP (l : List S37) : l.map legP = l.map legT := List.map_congr_left fun x _ => legP_legT x
theorem legsP_len {l : List S37} (h : goodLegs l = true) : (Lib.join (l.map legP) [43]).length ≤ 80 := by
 obtain ⟨h1, h2⟩ := goodLegs_iff h
 have hlen := join_len 8 [43] (l.map legP) (fun x hx => by
  obtain ⟨y, hy, rfl⟩ := List.mem_map.1 hx
  exact legP_len (List.all_eq_true.1 h2 y hy))
 rw [List.length_map] at hlen
 have : l.length * (8 + ([43] : List UInt8).length) ≤ 5 * (8 + ([43] : List UInt8).length) := Nat.mul_le_mul_right _ (by omega)
 simp only [List.length_cons, List.length_nil] at this hlen
 omega
def inB (lo hi : Int) (x : Int) : Bool := decide (lo ≤ x ∧ x ≤ hi)
theorem l1All_l0_ev (l : List Int) (lo hi : Int) (hl : l.length ≤ 1048576) : ∀ i : Int, 0 ≤ i → i ≤ l.length → Ev (fun k => spec_l1All.l0 k lo hi l l.length i) ((l.drop i.toNat).all (inB lo hi)) := by
 refine downI ?_ (fun i h0 h1 ih => ?_)
 ·refine Ev.step (fun k => by simp only [spec_l1All.l0]; rw [if_neg (by omega)]) ?_
  rw [List.drop_of_length_le (by omega)]
  exact Ev.now _
 ·rw [drop_get l 0 i h0 h1, List.all_cons]
  refine Ev.step (f := fun k => if inB lo hi (rd l i) = true then spec_l1All.l0 k lo hi l l.length (i + 1) else some false) (fun k => by simp only [spec_l1All.l0, in_eq, Option.bind_some]; rw [if_pos h1, if_pos h0, if_pos h1, w64 (x := i + 1) (by omega) (by omega)]; rfl) ?_
  show Ev _ (inB lo hi (rd l i) && _)
  cases inB lo hi (rd l i)
  ·simp only [Bool.false_and, Bool.false_eq_true, if_false]; exact Ev.now _
  ·simp only [Bool.true_and, if_true]; exact ih
theorem l1All_ev (l : List Int) (lo hi : Int) (hl : l.length ≤ 1048576) : Ev (fun k => spec_l1All.f k l lo hi) (l.all (inB lo hi)) := by
 unfold spec_l1All.f
 exact l1All_l0_ev l lo hi hl 0 (by omega) (by omega)
theorem allWithin_l0_ev (l : List Int) (lo hi : Int) (hl : l.length ≤ 1048576) : ∀ i : Int, 0 ≤ i → i ≤ l.length → Ev (fun k => impl_allWithin.l0 k lo hi l l.length i) ((l.drop i.toNat).all (inB lo hi)) := by
 refine downI ?_ (fun i h0 h1 ih => ?_)
 ·refine Ev.step (fun k => by simp only [impl_allWithin.l0]; rw [if_neg (by omega)]) ?_
  rw [List.drop_of_length_le (by omega)]
  exact Ev.now _
 ·rw [drop_get l 0 i h0 h1, List.all_cons]
  refine Ev.step (f := fun k => if inB lo hi (rd l i) = true then impl_allWithin.l0 k lo hi l l.length (i + 1) else some false) (fun k => by simp only [impl_allWithin.l0, within_eq, Option.bind_some]; rw [if_pos h1, if_pos h0, if_pos h1, w64 (x := i + 1) (by omega) (by omega)]; rfl) ?_
  show Ev _ (inB lo hi (rd l i) && _)
  cases inB lo hi (rd l i)
  ·simp only [Bool.false_and, Bool.false_eq_true, if_false]; exact Ev.now _
  ·simp only [Bool.true_and, if_true]; exact ih
theorem allWithin_ev (l : List Int) (lo hi : Int) (hl : l.length ≤ 1048576) : Ev (fun k => impl_allWithin.f k l lo hi) (l.all (inB lo hi)) := by
 unfold impl_allWithin.f
 exact allWithin_l0_ev l lo hi hl 0 (by omega) (by omega)
def goodSpeeds (l : List Int) : Bool := decide (1 ≤ (l.length : Int) ∧ (l.length : Int) ≤ 5) && l.all (inB 1 100)
theorem speeds_len {l : List Int} (h : goodSpeeds l = true) : 1 ≤ l.length ∧ l.length ≤ 5 := by
 unfold goodSpeeds at h
 rw [Bool.and_eq_true, decide_eq_true_iff] at h
 omega
theorem speeds_ok {l : List Int} (h : goodSpeeds l = true) : ∀ x, x ∈ l → 1 ≤ x ∧ x ≤ 100 := by
 unfold goodSpeeds at h
 rw [Bool.and_eq_true] at h
 intro x hx
 have := List.all_eq_true.1 h.2 x hx
 unfold inB at this
 exact of_decide_eq_true this
theorem reSpeeds_ev (l : List Int) : Ev (fun k => spec_reSpeeds.f k l) (goodSpeeds l) := by
 unfold spec_reSpeeds.f goodSpeeds
 simp only [in_eq, Option.bind_some]
 by_cases h : 1 ≤ (l.length : Int) ∧ (l.length : Int) ≤ 5
 ·simp only [h, and_self, decide_true, if_true, Bool.true_and]
  exact Ev.bind (l1All_ev l 1 100 (by omega)) (Ev.now _)
 ·simp only [h, decide_false, Bool.false_and, Bool.false_eq_true, if_false]
  exact Ev.now _
theorem areSpeeds_ev (l : List Int) : Ev (fun k => impl_areSpeeds.f k l) (goodSpeeds l) := by
 unfold impl_areSpeeds.f goodSpeeds
 simp only [within_eq, Option.bind_some]
 by_cases h : 1 ≤ (l.length : Int) ∧ (l.length : Int) ≤ 5
 ·simp only [h, and_self, decide_true, if_true, Bool.true_and]
  exact Ev.bind (allWithin_ev l 1 100 (by omega)) (Ev.now _)
 ·simp only [h, decide_false, Bool.false_and, Bool.false_eq_true, if_false]
  exact Ev.now _
def cvHalf (x : Int) : S37 := ⟨1, x⟩
theorem halves_good {l : List Int} (g : goodSpeeds l = true) : goodLegs (l.map cvHalf) = true := by
 have hl := speeds_len g
 have ok := speeds_ok g
 unfold goodLegs
 rw [Bool.and_eq_true, decide_eq_true_iff]
 refine ⟨by simp; omega, List.all_eq_true.2 fun x hx => ?_⟩
 obtain ⟨y, hy, rfl⟩ := List.mem_map.1 hx
 have := ok y hy
 exact okLeg_iff.2 ⟨by simp [cvHalf], by simp only [cvHalf]; omega⟩
theorem longI_halves (l : List Int) : longI (l.map cvHalf) = l.length := by
 induction l with
 | nil => rfl
 | cons x l ih => rw [List.map_cons, longI_cons, ih]; simp [cvHalf]; omega
theorem specHalves_ev (l : List Int) (g : goodSpeeds l = true) : ∀ i : Int, 0 ≤ i → i ≤ l.length → Ev (fun k => spec_MeanByHalves.l0 k ((l.take i.toNat).map cvHalf) l l.length i) ((lo (longI (l.map cvHalf) * (timeL (l.map cvHalf)).2) (timeL (l.map cvHalf)).1).1, (lo (longI (l.map cvHalf) * (timeL (l.map cvHalf)).2) (timeL (l.map cvHalf)).1).2, true) := by
 have hl := speeds_len g
 refine downI ?_ (fun i h0 h1 ih => ?_)
 ·refine Ev.step (fun k => by simp only [spec_MeanByHalves.l0]; rw [if_neg (by omega)]) ?_
  rw [List.take_of_length_le (by omega)]
  exact Ev.bind (specMean_ev _ (halves_good g)) (Ev.now _)
 ·have e : ((l.take i.toNat).map cvHalf) ++ [(⟨1, rd l i⟩ : S37)] = (l.take (i + 1).toNat).map cvHalf := by
   rw [take_get l 0 i h0 h1, List.map_append]; rfl
  have hlen : ((l.take i.toNat).map cvHalf).length < 8796093022208 := by simp; omega
  refine Ev.step (fun k => by simp only [spec_MeanByHalves.l0]; rw [if_pos h1, if_pos h0, if_pos h1, if_pos hlen, w64 (x := i + 1) (by omega) (by omega), e]) ih
theorem implHalves_ev (l : List Int) (g : goodSpeeds l = true) : ∀ i : Int, 0 ≤ i → i ≤ l.length → Ev (fun k => impl_MeanByHalves.l0 k ((l.take i.toNat).map cvHalf) l l.length i) ((lo (longI (l.map cvHalf) * (timeL (l.map cvHalf)).2) (timeL (l.map cvHalf)).1).1, (lo (longI (l.map cvHalf) * (timeL (l.map cvHalf)).2) (timeL (l.map cvHalf)).1).2, true) := by
 have hl := speeds_len g
 refine downI ?_ (fun i h0 h1 ih => ?_)
 ·refine Ev.step (fun k => by simp only [impl_MeanByHalves.l0]; rw [if_neg (by omega)]) ?_
  rw [List.take_of_length_le (by omega)]
  have gg := halves_good g
  obtain ⟨w, m1, m2, p1, p2⟩ := meanSpeed_bd _ gg
  refine Ev.bind (timeOf_ev _ (good_len gg).2 (good_ok gg)) ?_
  rw [longI_halves] at w m1 m2 ⊢
  simp only [List.length_map]
  rw [w]
  exact Ev.bind (fraction_ev p1 (by omega) m2 p2) (Ev.now _)
 ·have e : ((l.take i.toNat).map cvHalf) ++ [(⟨1, rd l i⟩ : S37)] = (l.take (i + 1).toNat).map cvHalf := by
   rw [take_get l 0 i h0 h1, List.map_append]; rfl
  have hlen : ((l.take i.toNat).map cvHalf).length < 8796093022208 := by simp; omega
  refine Ev.step (fun k => by simp only [impl_MeanByHalves.l0]; rw [if_pos h1, if_pos h0, if_pos h1, if_pos hlen, w64 (x := i + 1) (by omega) (by omega), e]) ih
noncomputable def meanHalvesR (l : List Int) : Int × Int × Bool := if goodSpeeds l = true then ((lo (longI (l.map cvHalf) * (timeL (l.map cvHalf)).2) (timeL (l.map cvHalf)).1).1, (lo (longI (l.map cvHalf) * (timeL (l.map cvHalf)).2) (timeL (l.map cvHalf)).1).2, true) else (0, 0, false)
theorem specMeanHalves_ev (l : List Int) : Ev (fun k => spec_MeanByHalves.f k l) (meanHalvesR l) := by
 unfold meanHalvesR
 refine Ev.bind (reSpeeds_ev l) ?_
 cases g : goodSpeeds l with
 | true => simp only [if_true]; have h := specHalves_ev l g 0 (by omega) (by omega); simpa using h
 | false => simp only [Bool.false_eq_true, if_false]; exact Ev.now _
theorem implMeanHalves_ev (l : List Int) : Ev (fun k => impl_MeanByHalves.f k l) (meanHalvesR l) := by
 unfold meanHalvesR
 refine Ev.bind (areSpeeds_ev l) ?_
 cases g : goodSpeeds l with
 | true => simp only [if_true]; have h := implHalves_ev l g 0 (by omega) (by omega); simpa using h
 | false => simp only [Bool.false_eq_true, if_false]; exact Ev.now _
theorem specTimes_ev (l : List Int) (hl : 1 ≤ l.length ∧ l.length ≤ 5) (ok : ∀ x, x ∈ l → 1 ≤ x ∧ x ≤ 100) : ∀ i : Int, 0 ≤ i → i ≤ l.length → ∀ s : Int, 0 ≤ s → s ≤ 100 * i → Ev (fun k => spec_MeanByTimes.l0 k l s l l.length i) ((lo (s + (l.drop i.toNat).sum) l.length).1, (lo (s + (l.drop i.toNat).sum) l.length).2, true) := by
 refine downI (fun s h0 h1 => ?_) (fun i h0 h1 ih s hs hs2 => ?_)
 ·refine Ev.step (fun k => by simp only [spec_MeanByTimes.l0]; rw [if_neg (by omega)]) ?_
  rw [List.drop_of_length_le (by omega)]
  simp only [List.sum_nil, Int.add_zero]
  exact Ev.bind (meLow_ev (by omega) (by omega) (by omega) (by omega)) (Ev.now _)
 ·have hx := ok _ (get_mem l 0 i h0 h1)
  rw [drop_get l 0 i h0 h1, List.sum_cons, ← Int.add_assoc]
  have e : wrap64 (s + rd l i) = s + l.getD i.toNat 0 := w64 (x := s + l.getD i.toNat 0) (by omega) (by omega)
  refine Ev.step (fun k => by simp only [spec_MeanByTimes.l0]; rw [if_pos h1, if_pos h0, if_pos h1, w64 (x := i + 1) (by omega) (by omega), e]) ?_
  exact ih _ (by omega) (by omega)
theorem implTimes_ev (l : List Int) (hl : 1 ≤ l.length ∧ l.length ≤ 5) (ok : ∀ x, x ∈ l → 1 ≤ x ∧ x ≤ 100) : ∀ i : Int, 0 ≤ i → i ≤ l.length → ∀ s : Int, 0 ≤ s → s ≤ 100 * i → Ev (fun k => impl_MeanByTimes.l0 k l s l l.length i) ((lo (s + (l.drop i.toNat).sum) l.length).1, (lo (s + (l.drop i.toNat).sum) l.length).2, true) := by
 refine downI (fun s h0 h1 => ?_) (fun i h0 h1 ih s hs hs2 => ?_)
 ·refine Ev.step (fun k => by simp only [impl_MeanByTimes.l0]; rw [if_neg (by omega)]) ?_
  rw [List.drop_of_length_le (by omega)]
  simp only [List.sum_nil, Int.add_zero]
  exact Ev.bind (fraction_ev (by omega) (by omega) (by omega) (by omega)) (Ev.now _)
 ·have hx := ok _ (get_mem l 0 i h0 h1)
  rw [drop_get l 0 i h0 h1, List.sum_cons, ← Int.add_assoc]
  have e : wrap64 (s + rd l i) = s + l.getD i.toNat 0 := w64 (x := s + l.getD i.toNat 0) (by omega) (by omega)
  refine Ev.step (fun k => by simp only [impl_MeanByTimes.l0]; rw [if_pos h1, if_pos h0, if_pos h1, w64 (x := i + 1) (by omega) (by omega), e]) ?_
  exact ih _ (by omega) (by omega)
def meanTimesR (l : List Int) : Int × Int × Bool := if goodSpeeds l = true then ((lo l.sum l.length).1, (lo l.sum l.length).2, true) else (0, 0, false)
theorem specMeanTimes_ev (l : List Int) : Ev (fun k => spec_MeanByTimes.f k l) (meanTimesR l) := by
 unfold meanTimesR
 refine Ev.bind (reSpeeds_ev l) ?_
 cases g : goodSpeeds l with
 | true =>
  simp only [if_true]
  have h := specTimes_ev l (speeds_len g) (speeds_ok g) 0 (by omega) (by omega) 0 (by omega) (by omega)
  simpa using h
 | false => simp only [Bool.false_eq_true, if_false]; exact Ev.now _
theorem implMeanTimes_ev (l : List Int) : Ev (fun k => impl_MeanByTimes.f k l) (meanTimesR l) := by
 unfold meanTimesR
 refine Ev.bind (areSpeeds_ev l) ?_
 cases g : goodSpeeds l with
 | true =>
  simp only [if_true]
  have h := implTimes_ev l (speeds_len g) (speeds_ok g) 0 (by omega) (by omega) 0 (by omega) (by omega)
  simpa using h
 | false => simp only [Bool.false_eq_true, if_false]; exact Ev.now _
structure Harm (l : List Int) (a b : Int) : Prop where
 a0 : 0 ≤ a
 b0 : 0 < b
 d : ∀ w : Int, 1 ≤ w → 0 ≤ l.sum * b + w * w * a - 2 * (l.length : Int) * w * b ∧ (l.sum * b + w * w * a - 2 * (l.length : Int) * w * b = 0 ↔ ∀ x, x ∈ l → x = w)
 e : 0 ≤ a * l.sum - (l.length : Int) * (l.length : Int) * b ∧ (a * l.sum - (l.length : Int) * (l.length : Int) * b = 0 ↔ ∀ x y, x ∈ l → y ∈ l → x = y)
theorem harm_id1 {S b w a n v a' b' : Int} (h : a' * (b * v) = (a * v + b) * b') : ((S + v) * b' + w * w * a' - 2 * (n + 1) * w * b') * (b * v) = b' * (v * (S * b + w * w * a - 2 * n * w * b) + b * ((v - w) * (v - w))) := by
 have : ((S + v) * b' + w * w * a' - 2 * (n + 1) * w * b') * (b * v) = (S + v) * b' * (b * v) + w * w * (a' * (b * v)) - 2 * (n + 1) * w * b' * (b * v) := by grind
 rw [this, h]; grind
theorem harm_id2 {S b a n v a' b' : Int} (h : a' * (b * v) = (a * v + b) * b') : (a' * (S + v) - (n + 1) * (n + 1) * b') * (b * v) = b' * (v * (a * S - n * n * b) + (S * b + v * v * a - 2 * n * v * b)) := by
 have : (a' * (S + v) - (n + 1) * (n + 1) * b') * (b * v) = (a' * (b * v)) * (S + v) - (n + 1) * (n + 1) * b' * (b * v) := by grind
 rw [this, h]; grind
theorem sign_of {x y p q : Int} (hq : 0 < q) (hp : 0 < p) (h : x * q = p * y) (hy : 0 ≤ y) : 0 ≤ x ∧ (x = 0 ↔ y = 0) := by
 constructor
 ·by_cases hx : 0 ≤ x
  ·exact hx
  ·have h1 := Int.mul_neg_of_neg_of_pos (Int.not_le.1 hx) hq
   have h2 := Int.mul_nonneg (Int.le_of_lt hp) hy
   omega
 ·constructor
  ·intro hx
   rw [hx, Int.zero_mul] at h
   rcases Int.mul_eq_zero.1 h.symm with h1 | h1
   ·omega
   ·exact h1
  ·intro h0
   rw [h0, Int.mul_zero] at h
   rcases Int.mul_eq_zero.1 h with h1 | h1
   ·exact h1
   ·omega
theorem sq_nonneg (x : Int) : 0 ≤ x * x ∧ (x * x = 0 ↔ x = 0) := by
 constructor
 ·rcases Int.le_total 0 x with h | h
  ·exact Int.mul_nonneg h h
  ·have := Int.mul_nonneg (show 0 ≤ -x by omega) (show 0 ≤ -x by omega)
   rwa [Int.neg_mul_neg] at this
 ·constructor
  ·intro h
   rcases Int.mul_eq_zero.1 h with h | h <;> exact h
  ·intro h; rw [h]; rfl
theorem two_zero {x y p q : Int} (hp : 0 < p) (hq : 0 < q) (hx : 0 ≤ x) (hy : 0 ≤ y) : 0 ≤ p * x + q * y ∧ (p * x + q * y = 0 ↔ x = 0 ∧ y = 0) := by
 have h1 := Int.mul_nonneg (Int.le_of_lt hp) hx
 have h2 := Int.mul_nonneg (Int.le_of_lt hq) hy
 refine ⟨by omega, fun h => ?_, fun h => by rw [h.1, h.2]; omega⟩
 have e1 : p * x = 0 := by omega
 have e2 : q * y = 0 := by omega
 refine ⟨?_, ?_⟩
 ·rcases Int.mul_eq_zero.1 e1 with h | h
  ·omega
  ·exact h
 ·rcases Int.mul_eq_zero.1 e2 with h | h
  ·omega
  ·exact h
theorem harm_zero : Harm [] 0 1 := by
 refine ⟨by omega, by omega, fun w _ => ?_, ?_⟩ <;> simp
theorem harm_step {l : List Int} {a b v : Int} (h : Harm l a b) (hv : 1 ≤ v) : Harm (l ++ [v]) (lo (a * v + 1 * b) (b * v)).1 (lo (a * v + 1 * b) (b * v)).2 := by
 obtain ⟨a0, b0, d, e⟩ := h
 have hbv : 0 < b * v := Int.mul_pos b0 (by omega)
 have hn : 0 ≤ a * v + 1 * b := by have := Int.mul_nonneg a0 (show 0 ≤ v by omega); omega
 have c := lo_cross (a * v + 1 * b) (b * v)
 have p := lo_pos (a * v + 1 * b) hbv
 have q := lo_nonneg hbv hn
 rw [Int.one_mul] at c p q ⊢
 generalize (lo (a * v + b) (b * v)).1 = a' at *
 generalize (lo (a * v + b) (b * v)).2 = b' at *
 have hs : (l ++ [v]).sum = l.sum + v := by simp
 have hl : ((l ++ [v]).length : Int) = (l.length : Int) + 1 := by simp
 refine ⟨q, p, fun w hw => ?_, ?_⟩
 ·obtain ⟨d1, d2⟩ := d w hw
  obtain ⟨s1, s2⟩ := sq_nonneg (v - w)
  obtain ⟨t1, t2⟩ := two_zero (p := v) (q := b) (by omega) b0 d1 s1
  obtain ⟨u1, u2⟩ := sign_of hbv p (harm_id1 (S := l.sum) (w := w) (n := (l.length : Int)) c) t1
  rw [hs, hl]
  refine ⟨u1, u2.trans (t2.trans ?_)⟩
  rw [d2, s2]
  constructor
  ·rintro ⟨h1, h2⟩ x hx
   rcases List.mem_append.1 hx with hx | hx
   ·exact h1 x hx
   ·rw [List.mem_singleton.1 hx]; omega
  ·intro h
   exact ⟨fun x hx => h x (List.mem_append_left _ hx), by have := h v (List.mem_append_right _ List.mem_cons_self); omega⟩
 ·obtain ⟨d1, d2⟩ := d v hv
  obtain ⟨e1, e2⟩ := e
  obtain ⟨t1, t2⟩ := two_zero (p := v) (q := 1) (by omega) (by omega) e1 d1
  rw [Int.one_mul] at t1 t2
  obtain ⟨u1, u2⟩ := sign_of hbv p (harm_id2 (S := l.sum) (n := (l.length : Int)) c) t1
  rw [hs, hl]
  refine ⟨u1, u2.trans (t2.trans ?_)⟩
  rw [d2, e2]
  constructor
  ·rintro ⟨h1, h2⟩ x y hx hy
   have g : ∀ z, z ∈ l ++ [v] → z = v := fun z hz => by
    rcases List.mem_append.1 hz with hz | hz
    ·exact h2 z hz
    ·exact List.mem_singleton.1 hz
   rw [g x hx, g y hy]
  ·intro h
   exact ⟨fun x y hx hy => h x y (List.mem_append_left _ hx) (List.mem_append_left _ hy), fun x hx => h x v (List.mem_append_left _ hx) (List.mem_append_right _ List.mem_cons_self)⟩
theorem harm_fold : ∀ (m l : List Int) (t : Int × Int), Harm l t.1 t.2 → (∀ x, x ∈ m → 1 ≤ x) → Harm (l ++ m) ((m.map cvHalf).foldl tstep t).1 ((m.map cvHalf).foldl tstep t).2 := by
 intro m
 induction m with
 | nil => intro l t h _; rw [List.append_nil]; exact h
 | cons v m ih =>
  intro l t h hm
  have h1 := harm_step h (hm v List.mem_cons_self)
  have := ih (l ++ [v]) (tstep t (cvHalf v)) h1 (fun x hx => hm x (List.mem_cons_of_mem _ hx))
  rw [List.append_assoc] at this
  exact this
theorem harm_of {l : List Int} (g : goodSpeeds l = true) : Harm l (timeL (l.map cvHalf)).1 (timeL (l.map cvHalf)).2 := by
 have := harm_fold l [] (0, 1) harm_zero (fun x hx => (speeds_ok g x hx).1)
 rwa [List.nil_append] at this
theorem sum_bd : ∀ {l : List Int}, (∀ x, x ∈ l → 1 ≤ x ∧ x ≤ 100) → (l.length : Int) ≤ l.sum ∧ l.sum ≤ 100 * (l.length : Int) := by
 intro l
 induction l with
 | nil => intro _; simp
 | cons x l ih =>
  intro h
  have h1 := h x List.mem_cons_self
  have h2 := ih (fun y hy => h y (List.mem_cons_of_mem _ hy))
  rw [List.sum_cons, List.length_cons]
  omega
theorem halves_law {l : List Int} (g : goodSpeeds l = true) : ∃ h hd t td : Int, meanHalvesR l = (h, hd, true) ∧ meanTimesR l = (t, td, true) ∧ Ev (fun k => laws_yLow.f k h hd) true ∧ Ev (fun k => laws_yLow.f k t td) true ∧ ¬ wrap64 (h * td) > wrap64 (t * hd) ∧ ((h = t ∧ hd = td) ↔ ∀ x y, x ∈ l → y ∈ l → x = y) := by
 have hl := speeds_len g
 have ok := speeds_ok g
 obtain ⟨m0, m1, m2, p1, p2⟩ := meanSpeed_bd (l.map cvHalf) (halves_good g)
 have tb := (timeL_tm (l.map cvHalf) (by simp; omega) (good_ok (halves_good g))).bd (by simp; omega)
 have H := harm_of g
 have e1 := longI_halves l
 have sb := sum_bd ok
 unfold meanHalvesR meanTimesR
 rw [if_pos g, if_pos g]
 refine ⟨_, _, _, _, rfl, rfl, yLow_lo p1 m1, yLow_lo (by omega) (by omega), ?_⟩
 rw [e1] at m1 m2 ⊢
 have cH := lo_cross ((l.length : Int) * (timeL (l.map cvHalf)).2) (timeL (l.map cvHalf)).1
 have cT := lo_cross l.sum (l.length : Int)
 have h0 := lo_nonneg p1 m1
 have h1 := lo_le1 p1 m1
 have hy := lo_pos ((l.length : Int) * (timeL (l.map cvHalf)).2) p1
 have hy1 := lo_le2 ((l.length : Int) * (timeL (l.map cvHalf)).2) p1
 have t0 := lo_nonneg (n := l.sum) (show (0 : Int) < l.length by omega) (by omega)
 have t1 := lo_le1 (n := l.sum) (show (0 : Int) < l.length by omega) (by omega)
 have ty := lo_pos l.sum (show (0 : Int) < l.length by omega)
 have ty1 := lo_le2 l.sum (show (0 : Int) < l.length by omega)
 have eqv : ((lo ((l.length : Int) * (timeL (l.map cvHalf)).2) (timeL (l.map cvHalf)).1).1 = (lo l.sum (l.length : Int)).1 ∧ (lo ((l.length : Int) * (timeL (l.map cvHalf)).2) (timeL (l.map cvHalf)).1).2 = (lo l.sum (l.length : Int)).2) ↔ (timeL (l.map cvHalf)).1 * l.sum - (l.length : Int) * (l.length : Int) * (timeL (l.map cvHalf)).2 = 0 := by
  constructor
  ·rintro ⟨a1, a2⟩
   rw [a1, a2] at cH
   generalize (lo l.sum (l.length : Int)).1 = x at *
   generalize (lo l.sum (l.length : Int)).2 = y at *
   have : ((timeL (l.map cvHalf)).1 * l.sum) * y = ((l.length : Int) * (l.length : Int) * (timeL (l.map cvHalf)).2) * y := by
    have k1 : ((timeL (l.map cvHalf)).1 * l.sum) * y = (timeL (l.map cvHalf)).1 * (l.sum * y) := Int.mul_assoc ..
    have k2 : ((l.length : Int) * (l.length : Int) * (timeL (l.map cvHalf)).2) * y = (l.length : Int) * ((l.length : Int) * (timeL (l.map cvHalf)).2 * y) := by grind
    rw [k1, k2, ← cT, ← cH]
    grind
   have := mul_cancel_r ty this
   omega
  ·intro h
   have := lo_eq (n := (l.length : Int) * (timeL (l.map cvHalf)).2) (d := (timeL (l.map cvHalf)).1) (n' := l.sum) (d' := (l.length : Int)) p1 (by omega) (by
    have k : (l.length : Int) * (timeL (l.map cvHalf)).2 * (l.length : Int) = (l.length : Int) * (l.length : Int) * (timeL (l.map cvHalf)).2 := by grind
    rw [k, Int.mul_comm l.sum]
    omega)
   rw [this]
   exact ⟨rfl, rfl⟩
 refine ⟨?_, eqv.trans H.e.2⟩
 have ge := H.e.1
 generalize (lo ((l.length : Int) * (timeL (l.map cvHalf)).2) (timeL (l.map cvHalf)).1).1 = X at *
 generalize (lo ((l.length : Int) * (timeL (l.map cvHalf)).2) (timeL (l.map cvHalf)).1).2 = Y at *
 generalize (lo l.sum (l.length : Int)).1 = U at *
 generalize (lo l.sum (l.length : Int)).2 = V at *
 generalize (timeL (l.map cvHalf)).1 = A at *
 generalize (timeL (l.map cvHalf)).2 = B at *
 have nb := mul_bd (a := (l.length : Int)) (b := B) (A := 5) (B := 10000000000) (by omega) (by omega) (Int.le_of_lt H.b0) tb.2
 have b1 := mul_bd (a := X) (b := V) (A := 5 * 10000000000) (B := 5) h0 (by omega) (Int.le_of_lt ty) (by omega)
 have b2 := mul_bd (a := U) (b := Y) (A := 500) (B := 50000000000000) t0 (by omega) (Int.le_of_lt hy) (by omega)
 rw [w64 (x := X * V) (by omega) (by omega), w64 (x := U * Y) (by omega) (by omega)]
 refine Int.not_lt.2 (le_cancel (mul_pos p1 (show (0 : Int) < l.length by omega)) ?_)
 have k1 : X * V * (A * (l.length : Int)) = (X * A) * (V * (l.length : Int)) := by grind
 have k2 : U * Y * (A * (l.length : Int)) = (U * (l.length : Int)) * (Y * A) := by grind
 rw [k1, k2, cH, cT]
 have k3 : (l.length : Int) * B * Y * (V * (l.length : Int)) = ((l.length : Int) * (l.length : Int) * B) * (Y * V) := by grind
 have k4 : l.sum * V * (Y * A) = (A * l.sum) * (Y * V) := by grind
 rw [k3, k4]
 exact Int.mul_le_mul_of_nonneg_right (by omega) (Int.le_of_lt (mul_pos hy ty))
theorem ySame_l0_ev (l : List Int) (hl : l.length ≤ 1000) : ∀ i : Int, 0 ≤ i → i ≤ l.length → Ev (fun k => laws_ySame.l0 k l l l.length i) true := by
 refine downI ?_ (fun i h0 h1 ih => ?_)
 ·exact Ev.step (fun k => by simp only [laws_ySame.l0]; rw [if_neg (by omega)]) (Ev.now _)
 ·exact Ev.step (fun k => by simp only [laws_ySame.l0, if_true]; rw [if_pos h1, if_pos h0, if_pos h1, if_pos h1, w64 (x := i + 1) (by omega) (by omega)]) ih
theorem ySame_ev (l : List Int) (hl : l.length ≤ 1000) : Ev (fun k => laws_ySame.f k l l) true := by
 refine Ev.congr (fun k => by unfold laws_ySame.f; rw [if_pos rfl]) ?_
 exact ySame_l0_ev l hl 0 (by omega) (by omega)
theorem yRows_l0_ev (l : List (List Int)) (hl : l.length ≤ 1000) (hy : ∀ y, y ∈ l → y.length ≤ 1000) : ∀ i : Int, 0 ≤ i → i ≤ l.length → Ev (fun k => laws_yRows.l0 k l l l.length i) true := by
 refine downI ?_ (fun i h0 h1 ih => ?_)
 ·exact Ev.step (fun k => by simp only [laws_yRows.l0]; rw [if_neg (by omega)]) (Ev.now _)
 ·refine Ev.step (fun k => by simp only [laws_yRows.l0]; rw [if_pos h1, if_pos h0, if_pos h1, if_pos h1]) ?_
  refine Ev.bind (ySame_ev _ (hy _ (get_mem l [] i h0 h1))) ?_
  refine Ev.congr (fun k => by rw [if_pos rfl, w64 (x := i + 1) (by omega) (by omega)]) ih
theorem yRows_ev (l : List (List Int)) (hl : l.length ≤ 1000) (hy : ∀ y, y ∈ l → y.length ≤ 1000) : Ev (fun k => laws_yRows.f k l l) true := by
 refine Ev.congr (fun k => by unfold laws_yRows.f; rw [if_pos rfl]) ?_
 exact yRows_l0_ev l hl hy 0 (by omega) (by omega)
theorem yLegs_l0_ev (l : List S37) (hl : l.length ≤ 1000) : ∀ i : Int, 0 ≤ i → i ≤ l.length → Ev (fun k => laws_yLegs.l0 k l l l.length i) true := by
 refine downI ?_ (fun i h0 h1 ih => ?_)
 ·exact Ev.step (fun k => by simp only [laws_yLegs.l0]; rw [if_neg (by omega)]) (Ev.now _)
 ·exact Ev.step (fun k => by simp only [laws_yLegs.l0, beq_self_eq_true, Bool.not_true, Bool.or_self, Bool.false_eq_true, if_false, if_true]; rw [if_pos h1, if_pos h0, if_pos h1, if_pos h1, w64 (x := i + 1) (by omega) (by omega)]) ih
theorem yLegs_ev (l : List S37) (hl : l.length ≤ 1000) : Ev (fun k => laws_yLegs.f k l l) true := by
 refine Ev.congr (fun k => by unfold laws_yLegs.f; rw [if_pos rfl]) ?_
 exact yLegs_l0_ev l hl 0 (by omega) (by omega)
theorem u64_wrap (n : Int) : IntKind.u64.wrap n = n % 18446744073709551616 := by simp [IntKind.wrap, IntKind.bits, IntKind.signed]
theorem mask255 (y : Int) : 0 ≤ Go.bits .and .u64 (IntKind.u64.wrap y / 1099511627776) 255 ∧ Go.bits .and .u64 (IntKind.u64.wrap y / 1099511627776) 255 ≤ 255 := by
 have h0 : 0 ≤ IntKind.u64.wrap y / 1099511627776 := by rw [u64_wrap]; omega
 have h1 : IntKind.u64.wrap y / 1099511627776 < 2 ^ 24 := by rw [u64_wrap]; omega
 have e := Go.bits_mask .u64 24 (by decide) (fun n a b => by rw [u64_wrap]; omega) 8 (by decide) (IntKind.u64.wrap y / 1099511627776) h0 h1
 rw [show (255 : Int) = 2 ^ 8 - 1 by decide, e]
 omega
def Bytes (code : List Int) : Prop := code.length ≤ 1048576 ∧ ∀ x, x ∈ code → 0 ≤ x ∧ x ≤ 255
theorem bytes_of {code : List Int} (hl : code.length ≤ 1048576) (h : ∀ x, x ∈ code → (Lit.int .u8 x).wf = true) : Bytes code := by
 refine ⟨hl, fun x hx => ?_⟩
 have := h x hx
 simp only [Lit.wf, IntKind.min, IntKind.max, IntKind.signed, IntKind.bits, Bool.and_eq_true, decide_eq_true_eq] at this
 simp at this
 omega
theorem next_ok {code : List Int} (hc : Bytes code) (p s : Int) (h0 : 0 ≤ p) (h1 : p ≤ 1000000000) : ∃ x s', spec_l1Cur_next.f code p s = some (x, p + 1, s') ∧ 0 ≤ x ∧ x ≤ 255 := by
 unfold spec_l1Cur_next.f
 have hw : wrap64 (p + 1) = p + 1 := w64 (by omega) (by omega)
 rw [hw]
 by_cases c : p < (code.length : Int)
 ·rw [if_pos c, if_pos h0]
  obtain ⟨b0, b1⟩ := hc.2 (rd code p) (get_mem code 0 p h0 c)
  rw [if_pos (by omega), w64 (x := rd code p) (by omega) (by omega)]
  exact ⟨_, _, rfl, b0, b1⟩
 ·rw [if_neg c]
  by_cases c2 : p + 1 ≤ (code.length : Int)
  ·omega
  ·rw [if_neg c2]
   have m := mask255 (IntKind.u64.wrap (IntKind.u64.wrap (s * 6364136223846793005)) + 1442695040888963407)
   rw [w64 (by omega) (by omega)]
   exact ⟨_, _, rfl, m.1, m.2⟩
theorem pick_ok {code : List Int} (hc : Bytes code) (p s n : Int) (h0 : 0 ≤ p) (h1 : p ≤ 999999990) (hn : n ≤ 1000000000) : ∃ x p' s', spec_l1Cur_pick.f code p s n = some (x, p', s') ∧ 0 ≤ x ∧ (1 ≤ n → x < n) ∧ x ≤ 1000000000 ∧ p ≤ p' ∧ p' ≤ p + 2 := by
 unfold spec_l1Cur_pick.f
 by_cases c : n ≤ 1
 ·rw [if_pos c]
  exact ⟨0, p, s, rfl, by omega, by omega, by omega, by omega, by omega⟩
 ·rw [if_neg c]
  obtain ⟨x, s1, e1, x0, x1⟩ := next_ok hc p s h0 (by omega)
  rw [e1]
  simp only [Option.bind_some]
  have tm : ∀ y : Int, 0 ≤ y → 0 ≤ Int.tmod y n ∧ Int.tmod y n < n := by
   intro y hy
   rw [Int.tmod_eq_emod_of_nonneg hy]
   exact ⟨Int.emod_nonneg _ (by omega), Int.emod_lt_of_pos _ (by omega)⟩
  by_cases c2 : n > 200
  ·rw [if_pos c2]
   obtain ⟨y, s2, e2, y0, y1⟩ := next_ok hc (p + 1) s1 (by omega) (by omega)
   rw [e2]
   simp only [Option.bind_some]
   rw [if_neg (by omega), w64 (x := x * 256) (by omega) (by omega), w64 (x := x * 256 + y) (by omega) (by omega)]
   have := tm (x * 256 + y) (by omega)
   exact ⟨_, _, _, rfl, this.1, fun _ => this.2, by omega, by omega, by omega⟩
  ·rw [if_neg c2, if_neg (by omega)]
   have := tm x (by omega)
   exact ⟨_, _, _, rfl, this.1, fun _ => this.2, by omega, by omega, by omega⟩
theorem among_ok {code : List Int} (hc : Bytes code) (p s : Int) (l : List Int) (h0 : 0 ≤ p) (h1 : p ≤ 999999990) (hl : 0 < l.length) (hl2 : l.length ≤ 1000) : ∃ x p' s', spec_l1Cur_among.f code p s l = some (x, p', s') ∧ x ∈ l ∧ p ≤ p' ∧ p' ≤ p + 2 := by
 obtain ⟨x, p', s', e, x0, x1, _, p0, p1⟩ := pick_ok hc p s l.length h0 h1 (by omega)
 have x1 := x1 (by omega)
 unfold spec_l1Cur_among.f
 rw [e]
 simp only [Option.bind_some]
 rw [if_pos x0, if_pos x1]
 exact ⟨_, _, _, rfl, get_mem l 0 x x0 x1, p0, p1⟩
theorem one_ok {code : List Int} (hc : Bytes code) (p s n : Int) (h0 : 0 ≤ p) (h1 : p ≤ 999999990) (hn : n ≤ 1000000000) : ∃ x p' s', spec_l1Cur_one.f code p s n = some (x, p', s') ∧ p ≤ p' ∧ p' ≤ p + 2 := by
 obtain ⟨x, p', s', e, x0, x1, _, p0, p1⟩ := pick_ok hc p s n h0 h1 hn
 unfold spec_l1Cur_one.f
 rw [e]
 exact ⟨_, _, _, rfl, p0, p1⟩
theorem sureLegs_l0_ev {code : List Int} (hc : Bytes code) : ∀ (d : Nat) (acc : List S37) (p s : Int), d ≤ 10 → acc.length + d ≤ 100 → 0 ≤ p → p + 4 * d ≤ 999999000 → ∃ r p' s', Ev (fun k => spec_l1Cur_sureLegs.l0 k acc (d : Int) code p s) (r, p', s') ∧ r.length = acc.length + d ∧ p ≤ p' ∧ p' ≤ p + 4 * d := by
 intro d
 induction d with
 | zero =>
  intro acc p s _ _ h0 _
  exact ⟨acc, p, s, Ev.step (fun k => by simp only [spec_l1Cur_sureLegs.l0]; rw [if_neg (by omega)]) (Ev.now _), by simp, by omega, by omega⟩
 | succ d ih =>
  intro acc p s hd ha h0 h1
  obtain ⟨x, p1, s1, e1, x0, x1, x2, q0, q1⟩ := pick_ok hc p s 60 h0 (by omega) (by omega)
  obtain ⟨y, p2, s2, e2, y0, y1, y2, q2, q3⟩ := pick_ok hc p1 s1 12 (by omega) (by omega) (by omega)
  obtain ⟨r, p', s', e, a, b, c⟩ := ih (acc ++ [⟨wrap64 (1 + x), wrap64 (1 + y)⟩]) p2 s2 (by omega) (by simp; omega) (by omega) (by omega)
  refine ⟨r, p', s', ?_, by simp at a; omega, by omega, by omega⟩
  refine Ev.step (fun k => by simp only [spec_l1Cur_sureLegs.l0]; rw [if_pos (by omega), e1, Option.bind_some, e2, Option.bind_some, if_pos (show acc.length < 8796093022208 by omega), w64 (x := ((d + 1 : Nat) : Int) - 1) (by omega) (by omega), show ((d + 1 : Nat) : Int) - 1 = d by omega]) ?_
  exact e
theorem sureLegs_ev {code : List Int} (hc : Bytes code) (p s : Int) (h0 : 0 ≤ p) (h1 : p ≤ 999998000) : ∃ r p' s', Ev (fun k => spec_l1Cur_sureLegs.f k code p s) (r, p', s') ∧ 1 ≤ r.length ∧ r.length ≤ 4 ∧ p ≤ p' ∧ p' ≤ p + 100 := by
 obtain ⟨x, p1, s1, e1, x0, x1, x2, q0, q1⟩ := pick_ok hc p s 4 h0 (by omega) (by omega)
 obtain ⟨d, hd⟩ : ∃ d : Nat, 1 + x = d := ⟨(1 + x).toNat, by omega⟩
 obtain ⟨r, p', s', e, a, b, c⟩ := sureLegs_l0_ev hc d [] p1 s1 (by omega) (by simp; omega) (by omega) (by omega)
 refine ⟨r, p', s', ?_, by simp at a; omega, by simp at a; omega, by omega, by omega⟩
 unfold spec_l1Cur_sureLegs.f
 refine Ev.congr (fun k => by rw [e1, Option.bind_some, w64 (x := 1 + x) (by omega) (by omega), hd]) ?_
 exact e
theorem legs_l0_ev {code : List Int} (hc : Bytes code) : ∀ (d : Nat) (acc : List S37) (p s : Int), (acc.length : Int) + d = 6 → 0 ≤ p → p + 4 * d ≤ 999999000 → ∃ r p' s', Ev (fun k => spec_l1Cur_legs.l0 k acc code p s) (r, p', s') ∧ r.length ≤ 6 ∧ p ≤ p' ∧ p' ≤ p + 4 * d + 2 := by
 intro d
 induction d with
 | zero =>
  intro acc p s ha h0 h1
  obtain ⟨x, p1, s1, e1, x0, x1, x2, q0, q1⟩ := pick_ok hc p s 2 h0 (by omega) (by omega)
  refine ⟨acc, p1, s1, Ev.step (fun k => by simp only [spec_l1Cur_legs.l0]; rw [e1, Option.bind_some, w64 (x := 5 + x) (by omega) (by omega), if_neg (by omega)]) (Ev.now _), by omega, by omega, by omega⟩
 | succ d ih =>
  intro acc p s ha h0 h1
  obtain ⟨x, p1, s1, e1, x0, x1, x2, q0, q1⟩ := pick_ok hc p s 2 h0 (by omega) (by omega)
  by_cases c : (acc.length : Int) < 5 + x
  ·obtain ⟨y, p2, s2, e2, ym, q2, q3⟩ := among_ok hc p1 s1 [97, 89, 83, 79, 73, 71, 67, 61] (by omega) (by omega) (by simp) (by simp)
   obtain ⟨r, p', s', e, a, b, g⟩ := ih (acc ++ [⟨7, y⟩]) p2 s2 (by simp; omega) (by omega) (by omega)
   refine ⟨r, p', s', ?_, a, by omega, by omega⟩
   refine Ev.step (fun k => by simp only [spec_l1Cur_legs.l0]; rw [e1, Option.bind_some, w64 (x := 5 + x) (by omega) (by omega), if_pos c, e2, Option.bind_some, if_pos (show acc.length < 8796093022208 by omega)]) ?_
   exact e
  ·refine ⟨acc, p1, s1, Ev.step (fun k => by simp only [spec_l1Cur_legs.l0]; rw [e1, Option.bind_some, w64 (x := 5 + x) (by omega) (by omega), if_neg c]) (Ev.now _), by omega, by omega, by omega⟩
theorem legs_ev {code : List Int} (hc : Bytes code) (p s : Int) (h0 : 0 ≤ p) (h1 : p ≤ 999990000) : ∃ r p' s', Ev (fun k => spec_l1Cur_legs.f k code p s) (r, p', s') ∧ r.length ≤ 6 ∧ p ≤ p' ∧ p' ≤ p + 200 := by
 obtain ⟨l, p1, s1, e1, l0, l1, q0, q1⟩ := sureLegs_ev hc p s h0 (by omega)
 obtain ⟨x, p2, s2, e2, x0, x1, x2, q2, q3⟩ := pick_ok hc p1 s1 14 (by omega) (by omega) (by omega)
 by_cases c0 : x = 0
 ·refine ⟨[], p2, s2, ?_, by simp, by omega, by omega⟩
  unfold spec_l1Cur_legs.f
  refine Ev.bind e1 (Ev.congr (fun k => by rw [e2, Option.bind_some, if_pos c0]) (Ev.now _))
 by_cases c1 : x = 1
 ·obtain ⟨y, p3, s3, e3, ym, q4, q5⟩ := among_ok hc p2 s2 [0, (-1), 1000, 1001, 4611686018427387904] (by omega) (by omega) (by simp) (by simp)
  refine ⟨l.set (0 : Int).toNat ⟨y, (rd_T37 l 0).f1⟩, p3, s3, ?_, by simp; omega, by omega, by omega⟩
  unfold spec_l1Cur_legs.f
  refine Ev.bind e1 (Ev.congr (fun k => by rw [e2, Option.bind_some, if_neg c0, if_pos c1, e3, Option.bind_some, if_pos (show 0 < (l.length : Int) by omega)]) (Ev.now _))
 by_cases c2 : x = 2
 ·obtain ⟨y, p3, s3, e3, ym, q4, q5⟩ := among_ok hc p2 s2 [0, (-1), 100, 101, 4611686018427387904] (by omega) (by omega) (by simp) (by simp)
  refine ⟨l.set (0 : Int).toNat ⟨(rd_T37 l 0).f0, y⟩, p3, s3, ?_, by simp; omega, by omega, by omega⟩
  unfold spec_l1Cur_legs.f
  refine Ev.bind e1 (Ev.congr (fun k => by rw [e2, Option.bind_some, if_neg c0, if_neg c1, if_pos c2, e3, Option.bind_some, if_pos (show 0 < (l.length : Int) by omega)]) (Ev.now _))
 by_cases c3 : x = 3
 ·obtain ⟨r, p', s', e, a, b, g⟩ := legs_l0_ev hc (6 - l.length) l p2 s2 (by omega) (by omega) (by omega)
  refine ⟨r, p', s', ?_, a, by omega, by omega⟩
  unfold spec_l1Cur_legs.f
  refine Ev.bind e1 (Ev.congr (fun k => by rw [e2, Option.bind_some, if_neg c0, if_neg c1, if_neg c2, if_pos c3]) e)
 ·refine ⟨l, p2, s2, ?_, by omega, by omega, by omega⟩
  unfold spec_l1Cur_legs.f
  refine Ev.bind e1 (Ev.congr (fun k => by rw [e2, Option.bind_some, if_neg c0, if_neg c1, if_neg c2, if_neg c3]) (Ev.now _))
theorem team_l0_ev {code : List Int} (hc : Bytes code) : ∀ (d : Nat) (a b : List Int) (p s : Int), d ≤ 10 → a.length + d ≤ 100 → b.length + d ≤ 100 → 0 ≤ p → p + 4 * d ≤ 999990000 → ∃ r q p' s', Ev (fun k => spec_l1Cur_team.l0 k a b (d : Int) code p s) (r, q, p', s') ∧ r.length ≤ a.length + d ∧ q.length ≤ b.length + d + 1 ∧ p ≤ p' ∧ p' ≤ p + 4 * d + 4 := by
 intro d
 induction d with
 | zero =>
  intro a b p s _ ha hb h0 h1
  obtain ⟨x, p1, s1, e1, q0, q1⟩ := one_ok hc p s 10 h0 (by omega) (by omega)
  cases x with
  | false => exact ⟨a, b, p1, s1, Ev.step (fun k => by simp only [spec_l1Cur_team.l0]; rw [if_neg (by omega), e1, Option.bind_some, if_neg (by simp)]) (Ev.now _), by omega, by omega, by omega, by omega⟩
  | true =>
   obtain ⟨y, p3, s3, e3, ym, q4, q5⟩ := among_ok hc p1 s1 [0, 1, 101] (by omega) (by omega) (by simp) (by simp)
   exact ⟨a, b ++ [y], p3, s3, Ev.step (fun k => by simp only [spec_l1Cur_team.l0]; rw [if_neg (by omega), e1, Option.bind_some, if_pos rfl, e3, Option.bind_some, if_pos (show b.length < 17592186044416 by omega)]) (Ev.now _), by omega, by simp, by omega, by omega⟩
 | succ d ih =>
  intro a b p s hd ha hb h0 h1
  obtain ⟨x, p1, s1, e1, x0, x1, x2, q0, q1⟩ := pick_ok hc p s 20 h0 (by omega) (by omega)
  obtain ⟨y, p2, s2, e2, y0, y1, y2, q2, q3⟩ := pick_ok hc p1 s1 9 (by omega) (by omega) (by omega)
  obtain ⟨r, q, p', s', e, c1, c2, c3, c4⟩ := ih (a ++ [wrap64 (1 + x)]) (b ++ [wrap64 (1 + y)]) p2 s2 (by omega) (by simp; omega) (by simp; omega) (by omega) (by omega)
  refine ⟨r, q, p', s', ?_, by simp at c1; omega, by simp at c2; omega, by omega, by omega⟩
  refine Ev.step (fun k => by simp only [spec_l1Cur_team.l0]; rw [if_pos (by omega), e1, Option.bind_some, if_pos (show a.length < 17592186044416 by omega), e2, Option.bind_some, if_pos (show b.length < 17592186044416 by omega), w64 (x := ((d + 1 : Nat) : Int) - 1) (by omega) (by omega), show ((d + 1 : Nat) : Int) - 1 = d by omega]) ?_
  exact e
theorem team_ev {code : List Int} (hc : Bytes code) (p s : Int) (h0 : 0 ≤ p) (h1 : p ≤ 999980000) : ∃ r q p' s', Ev (fun k => spec_l1Cur_team.f k code p s) (r, q, p', s') ∧ r.length ≤ 10 ∧ q.length ≤ 10 ∧ p ≤ p' ∧ p' ≤ p + 100 := by
 obtain ⟨x, p1, s1, e1, x0, x1, x2, q0, q1⟩ := pick_ok hc p s 4 h0 (by omega) (by omega)
 obtain ⟨d, hd⟩ : ∃ d : Nat, 1 + x = d := ⟨(1 + x).toNat, by omega⟩
 obtain ⟨r, q, p', s', e, a, b, c, g⟩ := team_l0_ev hc d [] [] p1 s1 (by omega) (by simp; omega) (by simp; omega) (by omega) (by omega)
 refine ⟨r, q, p', s', ?_, by simp at a; omega, by simp at b; omega, by omega, by omega⟩
 unfold spec_l1Cur_team.f
 refine Ev.congr (fun k => by rw [e1, Option.bind_some, w64 (x := 1 + x) (by omega) (by omega), hd]) ?_
 exact e
theorem strOne_size (n : Int) : (strOfNums [n]).size = 1 := by
 unfold strOfNums
 simp [ByteArray.size]
theorem spoilt_l0_ev {code : List Int} (hc : Bytes code) (x2 : ByteArray) (g1 : 1 ≤ x2.size) (g2 : x2.size ≤ 1000) : ∀ (d : Nat) (x1 : ByteArray) (p s : Int), d ≤ 2 → x1.size + d ≤ 1000000 → 0 ≤ p → p + 6 * d ≤ 999999000 → ∃ r p' s', Ev (fun k => spec_l1Cur_spoilt.l0 k x1 x2 (d : Int) code p s) (r, p', s') ∧ r.size ≤ x1.size + d ∧ p ≤ p' ∧ p' ≤ p + 6 * d := by
 intro d
 induction d with
 | zero =>
  intro x1 p s _ hx h0 h1
  refine ⟨x1, p, s, ?_, by omega, by omega, by omega⟩
  refine Ev.step (fun k => by simp only [spec_l1Cur_spoilt.l0]; rw [if_neg (by omega)]) ?_
  exact Ev.step (fun k => by simp only [spec_l1Cur_spoilt.j1, Bool.false_eq_true, if_false]) (Ev.now _)
 | succ d ih =>
  intro x1 p s hd hx h0 h1
  by_cases c : (x1.size : Int) > 0
  ·obtain ⟨i, p1, s1, e1, i0, i1, _, q0, q1⟩ := pick_ok hc p s x1.size h0 (by omega) (by omega)
   obtain ⟨q, p2, s2, e2, j0, j1, _, q2, q3⟩ := pick_ok hc p1 s1 x2.size (by omega) (by omega) (by omega)
   obtain ⟨z, p3, s3, e3, z0, z1, _, q4, q5⟩ := pick_ok hc p2 s2 3 (by omega) (by omega) (by omega)
   have i1 := i1 (by omega)
   have j1 := j1 (by omega)
   have wi : wrap64 (i + 1) = i + 1 := w64 (by omega) (by omega)
   have wd : wrap64 (((d + 1 : Nat) : Int) - 1) = (d : Int) := by rw [w64 (by omega) (by omega)]; omega
   have sa : (x1.extract 0 i.toNat).size ≤ i.toNat := by rw [ByteArray.size_extract]; omega
   have sb : (x1.extract i.toNat x1.size).size ≤ x1.size - i.toNat := by rw [ByteArray.size_extract]; omega
   have sc : (x1.extract (i + 1).toNat x1.size).size ≤ x1.size - (i + 1).toNat := by rw [ByteArray.size_extract]; omega
   have so := strOne_size (bt x2 q)
   have hi : i ≤ (x1.size : Int) := by omega
   have hj : i + 1 ≤ (x1.size : Int) := by omega
   have hk : (0 : Int) ≤ i + 1 := by omega
   have u1 : (x1.extract 0 i.toNat).size + (strOfNums [bt x2 q]).size ≤ 9223372036854775807 := by omega
   have u2 : ((x1.extract 0 i.toNat) ++ (strOfNums [bt x2 q])).size + (x1.extract i.toNat x1.size).size ≤ 9223372036854775807 := by rw [ByteArray.size_append]; omega
   have u3 : ((x1.extract 0 i.toNat) ++ (strOfNums [bt x2 q])).size + (x1.extract (i + 1).toNat x1.size).size ≤ 9223372036854775807 := by rw [ByteArray.size_append]; omega
   have u4 : (x1.extract 0 i.toNat).size + (x1.extract (i + 1).toNat x1.size).size ≤ 9223372036854775807 := by omega
   by_cases y0 : z = 0
   ·obtain ⟨r, p', s', e, a, b, g⟩ := ih (((x1.extract 0 i.toNat) ++ (strOfNums [bt x2 q])) ++ (x1.extract i.toNat x1.size)) p3 s3 (by omega) (by rw [ByteArray.size_append, ByteArray.size_append]; omega) (by omega) (by omega)
    rw [ByteArray.size_append, ByteArray.size_append] at a
    refine ⟨r, p', s', ?_, by omega, by omega, by omega⟩
    refine Ev.step (fun k => by simp only [spec_l1Cur_spoilt.l0]; rw [if_pos (by omega), decide_eq_true c]) ?_
    refine Ev.step (fun k => by simp only [spec_l1Cur_spoilt.j1, if_true]; rw [e1, Option.bind_some, e2, Option.bind_some, if_pos j0, if_pos j1, Option.bind_some, e3, Option.bind_some, if_pos y0, if_pos i0, if_pos hi, if_pos u1, if_pos u2, wd]) e
   ·by_cases y1 : z = 1
    ·obtain ⟨r, p', s', e, a, b, g⟩ := ih (((x1.extract 0 i.toNat) ++ (strOfNums [bt x2 q])) ++ (x1.extract (i + 1).toNat x1.size)) p3 s3 (by omega) (by rw [ByteArray.size_append, ByteArray.size_append]; omega) (by omega) (by omega)
     rw [ByteArray.size_append, ByteArray.size_append] at a
     refine ⟨r, p', s', ?_, by omega, by omega, by omega⟩
     refine Ev.step (fun k => by simp only [spec_l1Cur_spoilt.l0]; rw [if_pos (by omega), decide_eq_true c]) ?_
     refine Ev.step (fun k => by simp only [spec_l1Cur_spoilt.j1, if_true]; rw [e1, Option.bind_some, e2, Option.bind_some, if_pos j0, if_pos j1, Option.bind_some, e3, Option.bind_some, if_neg y0, if_pos y1, if_pos i0, if_pos hi, if_pos u1, wi, if_pos hk, if_pos hj, if_pos u3, wd]) e
    ·obtain ⟨r, p', s', e, a, b, g⟩ := ih ((x1.extract 0 i.toNat) ++ (x1.extract (i + 1).toNat x1.size)) p3 s3 (by omega) (by rw [ByteArray.size_append]; omega) (by omega) (by omega)
     rw [ByteArray.size_append] at a
     refine ⟨r, p', s', ?_, by omega, by omega, by omega⟩
     refine Ev.step (fun k => by simp only [spec_l1Cur_spoilt.l0]; rw [if_pos (by omega), decide_eq_true c]) ?_
     refine Ev.step (fun k => by simp only [spec_l1Cur_spoilt.j1, if_true]; rw [e1, Option.bind_some, e2, Option.bind_some, if_pos j0, if_pos j1, Option.bind_some, e3, Option.bind_some, if_neg y0, if_neg y1, if_pos i0, if_pos hi, wi, if_pos hk, if_pos hj, if_pos u4, wd]) e
  ·refine ⟨x1, p, s, ?_, by omega, by omega, by omega⟩
   refine Ev.step (fun k => by simp only [spec_l1Cur_spoilt.l0]; rw [if_pos (by omega), decide_eq_false c]) ?_
   exact Ev.step (fun k => by simp only [spec_l1Cur_spoilt.j1, Bool.false_eq_true, if_false]) (Ev.now _)
theorem spoilt_ev {code : List Int} (hc : Bytes code) (x1 x2 : ByteArray) (p s : Int) (g0 : x1.size ≤ 900000) (g1 : 1 ≤ x2.size) (g2 : x2.size ≤ 1000) (h0 : 0 ≤ p) (h1 : p ≤ 999990000) : ∃ r p' s', Ev (fun k => spec_l1Cur_spoilt.f k code p s x1 x2) (r, p', s') ∧ r.size ≤ x1.size + 2 := by
 obtain ⟨z, p1, s1, e1, z0, z1, _, q0, q1⟩ := pick_ok hc p s 2 h0 (by omega) (by omega)
 have z1 := z1 (by omega)
 obtain ⟨d, hd⟩ : ∃ d : Nat, 1 + z = d := ⟨(1 + z).toNat, by omega⟩
 obtain ⟨r, p', s', e, a, b, g⟩ := spoilt_l0_ev hc x2 g1 g2 d x1 p1 s1 (by omega) (by omega) (by omega) (by omega)
 refine ⟨r, p', s', ?_, by omega⟩
 unfold spec_l1Cur_spoilt.f
 exact Ev.congr (fun k => by rw [e1, Option.bind_some, w64 (x := 1 + z) (by omega) (by omega), hd]) e
theorem sureLegs_l0_ok {code : List Int} (hc : Bytes code) : ∀ (d : Nat) (acc : List S37) (p s : Int), d ≤ 10 → acc.length + d ≤ 100 → acc.all okLeg = true → 0 ≤ p → p + 4 * d ≤ 999999000 → ∃ r p' s', Ev (fun k => spec_l1Cur_sureLegs.l0 k acc (d : Int) code p s) (r, p', s') ∧ r.all okLeg = true ∧ r.length = acc.length + d ∧ p ≤ p' ∧ p' ≤ p + 4 * d := by
 intro d
 induction d with
 | zero =>
  intro acc p s _ ha hk h0 h1
  exact ⟨acc, p, s, Ev.step (fun k => by simp only [spec_l1Cur_sureLegs.l0]; rw [if_neg (by omega)]) (Ev.now _), hk, by omega, by omega, by omega⟩
 | succ d ih =>
  intro acc p s hd ha hk h0 h1
  obtain ⟨x, p1, s1, e1, x0, x1, x2, q0, q1⟩ := pick_ok hc p s 60 h0 (by omega) (by omega)
  obtain ⟨y, p2, s2, e2, y0, y1, y2, q2, q3⟩ := pick_ok hc p1 s1 12 (by omega) (by omega) (by omega)
  have x1 := x1 (by omega)
  have y1 := y1 (by omega)
  have hx : okLeg (⟨1 + x, 1 + y⟩ : S37) = true := okLeg_iff.2 ⟨⟨by simp only; omega, by simp only; omega⟩, by simp only; omega, by simp only; omega⟩
  obtain ⟨r, p', s', e, a, b, c, f⟩ := ih (acc ++ [⟨1 + x, 1 + y⟩]) p2 s2 (by omega) (by simp; omega) (by rw [List.all_append, hk]; simp [hx]) (by omega) (by omega)
  refine ⟨r, p', s', ?_, a, by rw [b]; simp; omega, by omega, by omega⟩
  refine Ev.step (fun k => by simp only [spec_l1Cur_sureLegs.l0]; rw [if_pos (by omega), e1, Option.bind_some, e2, Option.bind_some, if_pos (show acc.length < 8796093022208 by omega), w64 (x := 1 + x) (by omega) (by omega), w64 (x := 1 + y) (by omega) (by omega), w64 (x := ((d + 1 : Nat) : Int) - 1) (by omega) (by omega), show ((d + 1 : Nat) : Int) - 1 = d by omega]) e
theorem sureLegs_ok {code : List Int} (hc : Bytes code) (p s : Int) (h0 : 0 ≤ p) (h1 : p ≤ 999998000) : ∃ r p' s', Ev (fun k => spec_l1Cur_sureLegs.f k code p s) (r, p', s') ∧ r.all okLeg = true ∧ 1 ≤ r.length ∧ r.length ≤ 4 ∧ p ≤ p' ∧ p' ≤ p + 100 := by
 obtain ⟨x, p1, s1, e1, x0, x1, x2, q0, q1⟩ := pick_ok hc p s 4 h0 (by omega) (by omega)
 have x1 := x1 (by omega)
 obtain ⟨d, hd⟩ : ∃ d : Nat, 1 + x = d := ⟨(1 + x).toNat, by omega⟩
 obtain ⟨r, p', s', e, a, b, c, f⟩ := sureLegs_l0_ok hc d [] p1 s1 (by omega) (by simp; omega) (by simp) (by omega) (by omega)
 simp only [List.length_nil, Nat.zero_add] at b
 refine ⟨r, p', s', ?_, a, by omega, by omega, by omega, by omega⟩
 unfold spec_l1Cur_sureLegs.f
 exact Ev.congr (fun k => by rw [e1, Option.bind_some, w64 (x := 1 + x) (by omega) (by omega), hd]) e
theorem drawTimes_ev {code : List Int} (hc : Bytes code) : ∃ l : List S37, Ev (fun k => spec_DrawTimesOfLegs.f k code) l := by
 obtain ⟨l, p, s, e, _⟩ := legs_ev hc 0 0 (by omega) (by omega)
 refine ⟨l, ?_⟩
 unfold spec_DrawTimesOfLegs.f spec_DrawAreLegs.f spec_DrawAreLegs.i.f
 exact Ev.bind (Ev.bind (Ev.bind e (Ev.now _)) (Ev.now _)) (Ev.now _)
theorem drawPlace_ev {code : List Int} (hc : Bytes code) : ∃ (l : List S37) (a b : Int), Ev (fun k => spec_DrawPlaceOnLegs.f k code) (l, a, b) := by
 obtain ⟨l, p, s, e, _, p0, p1⟩ := legs_ev hc 0 0 (by omega) (by omega)
 obtain ⟨o, p2, s2, e2, q0, q1⟩ := one_ok hc p s 10 (by omega) (by omega) (by omega)
 unfold spec_DrawPlaceOnLegs.f spec_DrawPlaceOnLegs.i.f
 cases o with
 | true =>
  obtain ⟨x, p3, s3, e3, _, q2, q3⟩ := among_ok hc p2 s2 [(-1), 0, 100000, 100001] (by omega) (by omega) (by simp) (by simp)
  obtain ⟨y, p4, s4, e4, _, q4, q5⟩ := among_ok hc p3 s3 [0, 1, 1000, 1001] (by omega) (by omega) (by simp) (by simp)
  refine ⟨l, x, y, ?_⟩
  refine Ev.bind (Ev.bind e (Ev.congr (fun k => by rw [e2, Option.bind_some, if_pos rfl, e3, Option.bind_some, e4, Option.bind_some]) (Ev.now _))) (Ev.now _)
 | false =>
  obtain ⟨x, p3, s3, e3, x0, x1, x2, q2, q3⟩ := pick_ok hc p2 s2 60 (by omega) (by omega) (by omega)
  obtain ⟨y, p4, s4, e4, y0, y1, y2, q4, q5⟩ := pick_ok hc p3 s3 6 (by omega) (by omega) (by omega)
  refine ⟨l, x, wrap64 (1 + y), ?_⟩
  refine Ev.bind (Ev.bind e (Ev.congr (fun k => by rw [e2, Option.bind_some, if_neg (by simp), e3, Option.bind_some, e4, Option.bind_some]) (Ev.now _))) (Ev.now _)
theorem drawHalves_ev {code : List Int} (hc : Bytes code) : ∃ v : List Int, Ev (fun k => spec_DrawMeanByHalves.f k code) v := by
 obtain ⟨o, p, s, e, q0, q1⟩ := one_ok hc 0 0 8 (by omega) (by omega) (by omega)
 unfold spec_DrawMeanByHalves.f spec_DrawMeanByTimes.f spec_DrawMeanByTimes.i.f
 cases o with
 | true =>
  obtain ⟨x, p3, s3, e3, x0, x1, x2, q2, q3⟩ := pick_ok hc p s 5 (by omega) (by omega) (by omega)
  have x1 := x1 (by omega)
  refine ⟨_, Ev.bind (Ev.bind (Ev.congr (fun k => by rw [e, Option.bind_some, if_pos rfl, Option.bind_some, e3, Option.bind_some, if_pos x0, if_pos (show x < _ from by simp; omega)]) (Ev.now _)) (Ev.now _)) (Ev.now _)⟩
 | false =>
  obtain ⟨a, v, p3, s3, e3, _⟩ := team_ev hc p s (by omega) (by omega)
  refine ⟨v, Ev.bind (Ev.bind (Ev.congr (fun k => by rw [e, Option.bind_some, if_neg (by simp)]) (Ev.bind e3 (Ev.now _))) (Ev.now _)) (Ev.now _)⟩
theorem drawParseLegs_ev {code : List Int} (hc : Bytes code) : ∃ t : ByteArray, Ev (fun k => spec_DrawParseLegs.f k code) t ∧ t.size ≤ 1048576 := by
 obtain ⟨l, p1, s1, e1, ok, l1, l4, q0, q1⟩ := sureLegs_ok hc 0 0 (by omega) (by omega)
 obtain ⟨c, p2, s2, e2, q2, q3⟩ := one_ok hc p1 s1 3 (by omega) (by omega) (by omega)
 have hr := reText_ev l (by omega) ok
 have hg : goodLegs l = true := by unfold goodLegs; rw [Bool.and_eq_true, decide_eq_true_iff]; exact ⟨by omega, ok⟩
 have hz : ((⟨(Lib.join (l.map legT) [43]).toArray⟩ : ByteArray)).size ≤ 80 := by rw [ba_size, ← legsP]; exact legsP_len hg
 unfold spec_DrawParseLegs.f spec_DrawParseLegs.i.f
 cases c with
 | true =>
  obtain ⟨r, p', s', e3, hr2⟩ := spoilt_ev hc (⟨(Lib.join (l.map legT) [43]).toArray⟩ : ByteArray) (⟨#[48, 49, 50, 51, 47, 43, 120]⟩ : ByteArray) p2 s2 (by omega) (by decide) (by decide) (by omega) (by omega)
  refine ⟨r, ?_, by omega⟩
  refine Ev.bind (Ev.bind e1 (Ev.bind hr (Ev.congr (fun k => by rw [e2, Option.bind_some, if_pos rfl]) (Ev.bind e3 (Ev.now _))))) (Ev.now _)
 | false =>
  refine ⟨(⟨(Lib.join (l.map legT) [43]).toArray⟩ : ByteArray), ?_, by omega⟩
  refine Ev.bind (Ev.bind e1 (Ev.bind hr (Ev.congr (fun k => by rw [e2, Option.bind_some, if_neg (by simp)]) (Ev.now _)))) (Ev.now _)
section
variable {s : ByteArray} {P : List S37 × Bool} (hP : (∃ l, LgText s l ∧ P = (l, true)) ∨ P = ([], false))
include hP
theorem tail_ev : Ev (fun k => if P.2 = true then ((impl_LegsText.f k P.1).bind fun b => (if b.2 = true then (some (b.1.toList == s.toList)) else (some false))) else (some true)) true := by
 rcases hP with ⟨l, ⟨h1, h2⟩, rfl⟩ | rfl
 ·simp only [if_true]
  have h := legsText_impl_ev l
  rw [if_pos h1] at h
  refine Ev.bind h ?_
  simp only [if_true]
  have e : ((⟨(Lib.join (l.map legT) [43]).toArray⟩ : ByteArray)).toList = s.toList := by
   rw [toList_eq s, h2, legsP]
   exact mkB_toList _
  rw [e, beq_self_eq_true]
  exact Ev.now _
 ·simp only [Bool.false_eq_true, if_false]
  exact Ev.now _
theorem j12_ev : Ev (fun k => lw_.j11 k s P.1 P.2 false) true :=
 Ev.step (fun k => by simp only [lw_.j11, Bool.false_eq_true, if_false]) (tail_ev hP)
theorem l2_ev (v : List Int) (g : goodSpeeds v = true) (h hd t td : Int) (y1 : Ev (fun k => laws_yLow.f k h hd) true) (y2 : Ev (fun k => laws_yLow.f k t td) true) (le : ¬ wrap64 (h * td) > wrap64 (t * hd)) (eq : (h = t ∧ hd = td) ↔ ∀ x y, x ∈ v → y ∈ v → x = y) :
  ∀ i : Int, 0 ≤ i → i ≤ v.length → Ev (fun k => lw_.l2 k v h hd t td s P.1 P.2 ((v.take i.toNat).all fun x => x == rd v 0) v v.length i) true := by
 have hl := speeds_len g
 refine downI ?_ (fun i h0 h1 ih => ?_)
 ·rw [List.take_of_length_le (by omega)]
  refine Ev.step (fun k => by simp only [lw_.l2]; rw [if_neg (by omega)]) ?_
  refine Ev.bind y1 ?_
  simp only [if_true]
  refine Ev.bind y2 ?_
  simp only [if_true, if_neg le]
  have hm : rd v 0 ∈ v := get_mem v 0 0 (by omega) (by omega)
  have key : (v.all fun x => x == rd v 0) = true ↔ (h = t ∧ hd = td) := by
   rw [eq, List.all_eq_true]
   constructor
   ·intro a x y hx hy
    have := beq_iff_eq.1 (a x hx)
    have := beq_iff_eq.1 (a y hy)
    omega
   ·intro a x hx
    exact beq_iff_eq.2 (a x _ hx hm)
  by_cases c : h = t
  ·refine Ev.congr (fun k => by rw [if_pos c]) ?_
   have e : ((v.all fun x => x == rd v 0) != (hd == td)) = false := by
    rw [bne_eq_false_iff_eq, Bool.eq_iff_iff, key, beq_iff_eq]
    exact ⟨fun z => z.2, fun z => ⟨c, z⟩⟩
   rw [e]
   exact j12_ev hP
  ·refine Ev.congr (fun k => by rw [if_neg c]) ?_
   have e : ((v.all fun x => x == rd v 0) != false) = false := by
    rw [bne_eq_false_iff_eq, Bool.eq_false_iff, ne_eq, key]
    exact fun z => c z.1
   rw [e]
   exact j12_ev hP
 ·have e1 : wrap64 (i + 1) = i + 1 := w64 (by omega) (by omega)
  have et : (v.take (i + 1).toNat).all (fun x => x == rd v 0) = ((v.take i.toNat).all (fun x => x == rd v 0) && (rd v i == rd v 0)) := by
   rw [take_get v 0 i h0 h1, List.all_append]
   simp only [List.all_cons, List.all_nil, Bool.and_true]
   rfl
  rw [et] at ih
  refine Ev.step (fun k => by simp only [lw_.l2, e1]; rw [if_pos h1, if_pos h0, if_pos h1]) ?_
  cases hb : (v.take i.toNat).all (fun x => x == rd v 0) with
  | true =>
   rw [hb, Bool.true_and] at ih
   simp only [if_true, if_pos (show (0 : Int) < v.length by omega)]
   exact ih
  | false =>
   rw [hb, Bool.false_and] at ih
   simp only [Bool.false_eq_true, if_false]
   exact ih
theorem j10_ev (v : List Int) : Ev (fun k => lw_.j9 k v (meanHalvesR v).1 (meanHalvesR v).2.1 (meanHalvesR v).2.2 (meanTimesR v).1 (meanTimesR v).2.1 s P.1 P.2) true := by
 by_cases g : goodSpeeds v = true
 ·obtain ⟨h, hd, t, td, e1, e2, y1, y2, le, eq⟩ := halves_law g
  rw [e1, e2]
  refine Ev.step (fun k => by simp only [lw_.j9, if_true]; rfl) ?_
  exact l2_ev hP v g h hd t td y1 y2 le eq 0 (by omega) (by omega)
 ·have e1 : meanHalvesR v = (0, 0, false) := by unfold meanHalvesR; rw [if_neg g]
  rw [e1]
  exact Ev.step (fun k => by simp only [lw_.j9, Bool.false_eq_true, if_false]) (tail_ev hP)
theorem j8_ev (c : List S37) (v : List Int) (x y q : Int) (L : PlaceLaw c x y q) : Ev (fun k => lw_.j7 k c x y q v (meanHalvesR v).1 (meanHalvesR v).2.1 (meanHalvesR v).2.2 (meanTimesR v).1 (meanTimesR v).2.1 s P.1 P.2 false) true := by
 have e10 := j10_ev hP v
 have hl := good_len L.good
 have ok := good_ok L.good
 have q0 := L.q0
 have q1 := L.q1
 have loop : ∀ i : Int, 0 ≤ i → i ≤ q → Ev (fun k => lw_.l1 k c x y q v (meanHalvesR v).1 (meanHalvesR v).2.1 (meanHalvesR v).2.2 (meanTimesR v).1 (meanTimesR v).2.1 s P.1 P.2 (longI (c.take i.toNat)) i) true := by
  refine downI ?_ (fun i h0 h1 ih => ?_)
  ·have lb := longI_split c ok q.toNat
   have bd := longI_bd c ok
   have xb := leg_bd ok q0 q1
   have y0 := L.y0
   have m1 := mul_bd (a := longI (c.take q.toNat)) (b := y) (A := 5000) (B := 10000000000000) lb.2 (by omega) (by omega) y0.2
   have m2 := mul_bd (a := longI (c.take q.toNat) + (rd_T37 c q).f0) (b := y) (A := 6000) (B := 10000000000000) (by omega) (by omega) (by omega) y0.2
   have ge := L.ge
   have le := L.le
   refine Ev.step (fun k => by simp only [lw_.l1]; rw [if_neg (by omega), w64 (x := longI (c.take q.toNat) * y) (by omega) (by omega), if_neg (by omega), if_pos q0, if_pos q1, w64 (x := longI (c.take q.toNat) + (rd_T37 c q).f0) (by omega) (by omega), w64 (x := (longI (c.take q.toNat) + (rd_T37 c q).f0) * y) (by omega) (by omega), if_neg (by omega)]) e10
  ·have lb := longI_split c ok i.toNat
   have bd := longI_bd c ok
   have xb := leg_bd ok h0 (show i < c.length by omega)
   rw [longI_take c i h0 (by omega)] at ih
   refine Ev.step (fun k => by simp only [lw_.l1]; rw [if_pos h1, if_pos h0, if_pos (by omega), w64 (x := longI (c.take i.toNat) + (rd_T37 c i).f0) (by omega) (by omega), w64 (x := i + 1) (by omega) (by omega)]) ih
 have h := loop 0 (by omega) q0
 rw [show longI (c.take (0 : Int).toNat) = 0 by simp [longI]] at h
 exact Ev.step (fun k => by simp only [lw_.j7, Bool.false_eq_true, if_false]) h
end
theorem j6_ev {more : List Int} (hb : Bytes more) : Ev (fun k => lw_.j5 k more) true := by
 obtain ⟨c, a, b, d1⟩ := drawPlace_ev hb
 obtain ⟨v, d2⟩ := drawHalves_ev hb
 obtain ⟨s, d3, hs⟩ := drawParseLegs_ev hb
 obtain ⟨x, y, q, B, _, p1, p2, a1, a2, law, _⟩ := place_told c a b
 obtain ⟨P, r1, r2, hP⟩ := parseLegs_both s hs
 have hPl : P.1.length ≤ 1000 := by
  rcases hP with ⟨l, ⟨h1, _⟩, rfl⟩ | rfl
  ·have := good_len h1; simp only; omega
  ·simp
 have hmt : (meanTimesR v).2.2 = (meanHalvesR v).2.2 := by
  unfold meanTimesR meanHalvesR
  by_cases g : goodSpeeds v = true
  ·rw [if_pos g, if_pos g]
  ·rw [if_neg g, if_neg g]
 refine Ev.step (fun k => by simp only [lw_.j5]; rfl) ?_
 refine Ev.bind d1 (Ev.bind p2 (Ev.bind p1 (Ev.bind a2 (Ev.bind a1 (Ev.bind d2 (Ev.bind (implMeanHalves_ev v) (Ev.bind (specMeanHalves_ev v) (Ev.bind (implMeanTimes_ev v) (Ev.bind (specMeanTimes_ev v) (Ev.bind d3 (Ev.bind r2 (Ev.bind r1 ?_))))))))))))
 simp only [bne_self_eq_false, Bool.false_eq_true, if_false, if_true, hmt]
 refine Ev.bind (yLegs_ev P.1 hPl) ?_
 simp only [Bool.not_true]
 cases B with
 | false =>
  refine Ev.step (fun k => by simp only [lw_.j6, Bool.false_eq_true, if_false]) (j10_ev hP v)
 | true =>
  have L := law rfl
  have hl := good_len L.good
  have bd := longI_bd c (good_ok L.good)
  have y0 := L.y0
  have x0 := L.x0
  have q0 := L.q0
  have q1 := L.q1
  have al := L.all
  have m1 := mul_bd (a := longI c) (b := y) (A := 5000) (B := 10000000000000) (by omega) (by omega) (by omega) y0.2
  have hL := (long_told c).2
  rw [if_pos L.good] at hL
  refine Ev.step (fun k => by simp only [lw_.j6, Bool.false_eq_true, if_false, if_true]; rfl) ?_
  refine Ev.bind hL ?_
  simp only [if_true]
  refine Ev.bind (yLow_ev x y x0 y0.1 L.low) ?_
  simp only [if_true]
  refine Ev.congr (fun k => by rw [if_neg (by omega), w64 (x := longI c * y) (by omega) (by omega), if_neg (by omega), if_neg (by omega), decide_eq_false (by omega)]) ?_
  exact j8_ev hP c v x y q L
section
variable {l : List S37} (g : goodLegs l = true) {more : List Int} (e6 : Ev (fun k => lw_.j5 k more) true)
include g e6
theorem l0_ev (q : Int) (q0 : 0 ≤ q) (q1 : q < l.length) (hq : Slow l q l.length) : ∀ i : Int, 0 ≤ i → i ≤ l.length → Ev (fun k => lw_.l0 k more l (tmRows l) (longI l) q (mkB (Lib.join (l.map legT) [43])) l.length (longI (l.take i.toNat)) l l.length i) true := by
 have hl := good_len g
 have ok := good_ok g
 have rl := tmRows_length l
 refine downI ?_ (fun i h0 h1 ih => ?_)
 ·have hz := legsP_len g
  have hT := (parseLegs_text (s := mkB (Lib.join (l.map legT) [43])) (l := l) (by rw [mkB_size, ← legsP]; omega) ⟨g, by rw [mkB_list, legsP]⟩).2
  rw [Int.toNat_natCast, List.take_of_length_le (Nat.le_refl _)]
  refine Ev.step (fun k => by simp only [lw_.l0]; rw [if_neg (by omega)]) ?_
  refine Ev.bind hT ?_
  simp only [if_true]
  refine Ev.bind (yLegs_ev l (by omega)) ?_
  simp only [if_true]
  exact e6
 ·have e1 : wrap64 (i + 1) = i + 1 := w64 (by omega) (by omega)
  have T := tmt l hl.2 ok (i + 1).toNat
  have hrow : rd_L2 (tmRows l) i = [(timeL (l.take (i + 1).toNat)).1, (timeL (l.take (i + 1).toNat)).2] := by
   unfold rd_L2
   rw [tmRows_get l i h0 h1]
   unfold tmRow
   rw [show (i + 1).toNat = i.toNat + 1 by omega]
  have ho : 1 ≤ (timeL (l.take (i + 1).toNat)).2 := T.one
  have hn : 0 ≤ (timeL (l.take (i + 1).toNat)).1 := T.nn
  have hlow := yLow_ev _ _ hn ho T.low
  have lb := longI_split l ok i.toNat
  have bd := longI_bd l ok
  have xb := leg_bd ok h0 h1
  have es : wrap64 (longI (l.take i.toNat) + (rd_T37 l i).f0) = longI (l.take (i + 1).toNat) := by rw [longI_take l i h0 h1]; exact w64 (by omega) (by omega)
  obtain ⟨x, y, p, B, hB, _, p2, _, _, _, ends⟩ := place_told l 0 1
  have hB1 : B = true := by rw [hB, g]; rfl
  subst hB1
  obtain ⟨s1, s2⟩ := end_stop l hl.2 ok 0 (by omega) (by omega)
  obtain ⟨x0, y0, _⟩ := ends rfl 0 (by omega) (by omega) (fun j j0 j1 => by omega) s2 rfl
  have x0' : x = 0 := x0
  subst x0' y0
  have sl := hq i h0 h1
  have w1 := leg_mul ok h0 h1 q0 q1
  have w2 := leg_mul ok q0 q1 h0 h1
  have e4 : Ev (fun k => lw_.j3 k more l (tmRows l) (longI l) q (mkB (Lib.join (l.map legT) [43])) l.length (longI (l.take (i + 1).toNat)) i l l.length i false) true := by
   have next : Ev (fun k => lw_.l0 k more l (tmRows l) (longI l) q (mkB (Lib.join (l.map legT) [43])) l.length (longI (l.take (i + 1).toNat)) l l.length (wrap64 (i + 1))) true := by rw [e1]; exact ih
   have no : Ev (fun k => lw_.j4 k more l (tmRows l) (longI l) q (mkB (Lib.join (l.map legT) [43])) l.length (longI (l.take (i + 1).toNat)) i l l.length i false) true :=
    Ev.step (fun k => by simp only [lw_.j4, Bool.false_eq_true, if_false]) next
   refine Ev.step (fun k => by simp only [lw_.j3, Bool.false_eq_true, if_false, hrow]; rw [if_pos h0, if_pos (by omega), if_pos (by simp)]) ?_
   by_cases c1 : (timeL (l.take (i + 1).toNat)).1 ≤ 100000
   ·refine Ev.congr (fun k => by rw [if_pos (show rd [(timeL (l.take (i + 1).toNat)).1, (timeL (l.take (i + 1).toNat)).2] 0 ≤ 100000 from c1), if_pos (by simp)]) ?_
    by_cases c2 : (timeL (l.take (i + 1).toNat)).2 ≤ 1000
    ·rw [decide_eq_true (show rd [(timeL (l.take (i + 1).toNat)).1, (timeL (l.take (i + 1).toNat)).2] 1 ≤ 1000 from c2)]
     obtain ⟨x, y, p, B, hB, _, p2, _, p4, _, ends⟩ := place_told l (timeL (l.take (i + 1).toNat)).1 (timeL (l.take (i + 1).toNat)).2
     have hB1 : B = true := by rw [hB, g, momB_iff.2 ⟨⟨hn, c1⟩, ho, c2⟩]; rfl
     subst hB1
     obtain ⟨s1, s2⟩ := end_stop l hl.2 ok (i + 1) (by omega) (by omega)
     obtain ⟨x0, y0, z0⟩ := ends rfl (i + 1) (by omega) (by omega) s1 s2 rfl
     refine Ev.step (fun k => by simp only [lw_.j4, if_true, hrow]; rw [if_pos h0, if_pos (by omega), if_pos (by simp), if_pos (by simp)]) ?_
     refine Ev.bind (show Ev (fun k => impl_PlaceOnLegs.f k l (rd [(timeL (l.take (i + 1).toNat)).1, (timeL (l.take (i + 1).toNat)).2] 0) (rd [(timeL (l.take (i + 1).toNat)).1, (timeL (l.take (i + 1).toNat)).2] 1)) (x, y, true) from p2) ?_
     refine Ev.bind (show Ev (fun k => impl_LegAt.f k l (rd [(timeL (l.take (i + 1).toNat)).1, (timeL (l.take (i + 1).toNat)).2] 0) (rd [(timeL (l.take (i + 1).toNat)).1, (timeL (l.take (i + 1).toNat)).2] 1)) (p, true) from p4) ?_
     simp only [e1] at next ⊢
     by_cases z : i + 1 = l.length
     ·rw [if_pos z] at z0
      refine Ev.congr (fun k => by rw [if_pos z]; simp only [if_true]; rw [if_pos x0, if_pos y0, if_pos (show p = i by omega)]) next
     ·rw [if_neg z] at z0
      refine Ev.congr (fun k => by rw [if_neg z]; simp only [if_true]; rw [if_pos x0, if_pos y0, if_pos z0]) next
    ·rw [decide_eq_false (show ¬ rd [(timeL (l.take (i + 1).toNat)).1, (timeL (l.take (i + 1).toNat)).2] 1 ≤ 1000 from c2)]
     exact no
   ·exact Ev.congr (fun k => by rw [if_neg (show ¬ rd [(timeL (l.take (i + 1).toNat)).1, (timeL (l.take (i + 1).toNat)).2] 0 ≤ 100000 from c1)]) no
  refine Ev.step (fun k => by simp only [lw_.l0, hrow, es]; rw [if_pos h1, if_pos h0, if_pos h1]) ?_
  refine Ev.bind p2 ?_
  refine Ev.congr (fun k => by rw [if_pos (by omega), if_pos (by simp), if_pos (by simp)]) ?_
  refine Ev.bind (show Ev (fun k => laws_yLow.f k (rd [(timeL (l.take (i + 1).toNat)).1, (timeL (l.take (i + 1).toNat)).2] 0) (rd [(timeL (l.take (i + 1).toNat)).1, (timeL (l.take (i + 1).toNat)).2] 1)) true from hlow) ?_
  simp only [if_true, bne_self_eq_false]
  refine Ev.congr (fun k => by rw [if_pos q0, if_pos q1, w1, w2, if_neg (by omega)]) ?_
  by_cases z : i < q
  ·exact Ev.congr (fun k => by rw [if_pos z, if_neg (sl.2 z)]) e4
  ·exact Ev.congr (fun k => by rw [if_neg z]) e4
theorem j1_ev (q : Int) (q0 : 0 ≤ q) (q1 : q < l.length) (hq : Slow l q l.length) : Ev (fun k => lw_.j0 k more l (tmRows l) true (timeL l).1 (timeL l).2 (longI l) (lo (longI l * (timeL l).2) (timeL l).1).1 (lo (longI l * (timeL l).2) (timeL l).1).2 q (mkB (Lib.join (l.map legT) [43])) false) true := by
 have hl := good_len g
 have ok := good_ok g
 have rl := tmRows_length l
 have T := timeL_tm l hl.2 ok
 obtain ⟨_, m1, m2, p1, p2⟩ := meanSpeed_bd l g
 have e1 : wrap64 ((l.length : Int) - 1) = (l.length : Int) - 1 := w64 (by omega) (by omega)
 have hrow : rd_L2 (tmRows l) ((l.length : Int) - 1) = [(timeL l).1, (timeL l).2] := by
  unfold rd_L2
  rw [tmRows_get l _ (by omega) (by omega)]
  unfold tmRow
  rw [show ((l.length : Int) - 1).toNat + 1 = l.length by omega, List.take_of_length_le (Nat.le_refl _)]
 have cr := lo_cross (longI l * (timeL l).2) (timeL l).1
 have ew : (wrap64 ((lo (longI l * (timeL l).2) (timeL l).1).1 * (timeL l).1) != wrap64 (wrap64 (longI l * (lo (longI l * (timeL l).2) (timeL l).1).2) * (timeL l).2)) = false := by
  rw [bne_eq_false_iff_eq, wrap_mul_l, cr]
  congr 1
  rw [Int.mul_assoc, Int.mul_assoc, Int.mul_comm (timeL l).2]
 refine Ev.step (fun k => by simp only [lw_.j0, Bool.false_eq_true, if_false, if_true, e1, hrow]; rw [if_pos (by omega), if_pos (by omega), if_pos (by omega), if_pos (by simp), if_pos (show rd [(timeL l).1, (timeL l).2] 0 = (timeL l).1 from rfl), if_pos (by simp), if_pos (show rd [(timeL l).1, (timeL l).2] 1 = (timeL l).2 from rfl)]) ?_
 refine Ev.bind (yLow_ev _ _ T.nn T.one T.low) ?_
 simp only [if_true]
 refine Ev.bind (yLow_lo p1 m1) ?_
 simp only [if_true, ew]
 have h := l0_ev g e6 q q0 q1 hq 0 (by omega) (by omega)
 rw [show longI (l.take (0 : Int).toNat) = 0 by simp [longI]] at h
 exact Ev.step (fun k => by simp only [lw_.j1, Bool.false_eq_true, if_false]) h
end
theorem specAre_ev (l : List S37) : Ev (fun k => spec_AreLegs.f k l) (goodLegs l) := by
 unfold spec_AreLegs.f
 exact Ev.bind (reGood_ev l) (Ev.now _)
theorem FnLegsTimed : lw_.Pure := by
 intro l0 l1 _ h0 _ h1
 refine Ev.rounds ?_
 unfold lw_.f laws_big.f
 by_cases c0 : (l0.length : Int) > 1048576
 ·exact Ev.congr (fun k => by rw [if_pos c0]; rfl) (Ev.now _)
 refine Ev.congr (fun k => by rw [if_neg c0, Option.bind_some, w64 (x := 1048576 - (l0.length : Int)) (by omega) (by omega)]) ?_
 by_cases c1 : (l1.length : Int) > 1048576 - (l0.length : Int)
 ·exact Ev.congr (fun k => by rw [if_pos (decide_eq_true c1)]) (Ev.now _)
 refine Ev.congr (fun k => by rw [if_neg (by simpa using c1)]) ?_
 have b0 := bytes_of (show l0.length ≤ 1048576 by omega) h0
 have b1 := bytes_of (show l1.length ≤ 1048576 by omega) h1
 have e6 := j6_ev b1
 obtain ⟨l, d0⟩ := drawTimes_ev b0
 obtain ⟨t1, t2⟩ := times_told l
 obtain ⟨u1, u2⟩ := time_told l
 obtain ⟨n1, n2⟩ := long_told l
 obtain ⟨m1, m2⟩ := mean_told l
 obtain ⟨q, s1, s2, hq⟩ := slow_told l
 have x1 := legsText_spec_ev l
 have x2 := legsText_impl_ev l
 refine Ev.bind d0 ?_
 refine Ev.bind t2 (Ev.bind t1 (Ev.bind u2 (Ev.bind u1 (Ev.bind n2 (Ev.bind n1 (Ev.bind m2 (Ev.bind m1 (Ev.bind s2 (Ev.bind s1 (Ev.bind x2 (Ev.bind x1 ?_)))))))))))
 simp only [bne_self_eq_false, Bool.false_eq_true, if_false, if_true]
 cases g : goodLegs l with
 | true =>
  have hl := good_len g
  obtain ⟨q0, q1, hs⟩ := hq g
  simp only [if_true]
  refine Ev.bind (yRows_ev (tmRows l) (by rw [tmRows_length]; omega) (fun y hy => by have := tmRows_two l y hy; omega)) ?_
  simp only [if_true]
  refine Ev.bind (areLegs_ev l) ?_
  simp only [g, bne_self_eq_false, Bool.false_eq_true, if_false]
  refine Ev.bind (areLegs_ev l) (Ev.bind (specAre_ev l) ?_)
  simp only [bne_self_eq_false, Bool.false_eq_true, if_false]
  exact j1_ev g e6 q q0 q1 hs
 | false =>
  simp only [Bool.false_eq_true, if_false]
  refine Ev.bind (yRows_ev [] (by simp) (by simp)) ?_
  simp only [if_true]
  refine Ev.bind (areLegs_ev l) ?_
  simp only [g, bne_self_eq_false, Bool.false_eq_true, if_false]
  refine Ev.bind (areLegs_ev l) (Ev.bind (specAre_ev l) ?_)
  simp only [bne_self_eq_false, Bool.false_eq_true, if_false]
  exact Ev.step (fun k => by simp only [lw_.j0, Bool.false_eq_true, if_false]) e6
end Go.Proofs.YtbhnpccbjgbcbaaGreatDoor.Pure
