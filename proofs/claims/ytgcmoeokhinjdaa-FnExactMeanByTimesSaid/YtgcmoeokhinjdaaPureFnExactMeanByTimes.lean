/- The program's MeanByTimes returns what the reference's MeanByTimes returns, for all arguments. No conditions. -/
import Derived.Test.YtgcmoeokhinjdaaQLx4
import Derived.Test.YtgcmoeokhinjdaaPlain
set_option linter.unusedVariables false
set_option linter.unusedSimpArgs false
namespace Go.Proofs.Ytgcmoeokhinjdaa.Pure
open Go.RowKit Go.Proofs.Ytgcmoeokhinjdaa.QL Go.Proofs.YtgcmoeokhinjdaaW.PrintWords Go.Proofs.YtgcmoeokhinjdaaW.PrintLast Go.Proofs.YtgcmoeokhinjdaaW.PrintMore Go.Proofs.Ytgcmoeokhinjdaa.Plain
theorem w64 {x : Int} (h1 : -9223372036854775808 ≤ x) (h2 : x ≤ 9223372036854775807) : wrap64 x = x := by unfold wrap64; omega
theorem toIntS_l0_ev (l : List Int) (hl : l.length ≤ 1048576) : ∀ i : Int, 0 ≤ i → i ≤ l.length → ∀ acc : List Int, acc.length = l.length → Ev (fun k => laws_toIntS.l0 k l acc i) (acc.take i.toNat ++ l.drop i.toNat) := by
  refine downI (fun acc ha => ?_) (fun i h0 h1 ih acc ha => ?_)
  · refine Ev.step (fun k => by simp only [laws_toIntS.l0]; rw [if_neg (by omega)]) ?_
    rw [List.take_of_length_le (by omega), List.drop_of_length_le (by omega), List.append_nil]
    exact Ev.now _
  · refine Ev.step (fun k => by simp only [laws_toIntS.l0]; rw [if_pos h1, if_pos h0, if_pos (by omega), w64 (x := i + 1) (by omega) (by omega)]) ?_
    have hi := ih (acc.set i.toNat (rd l i)) (by simpa using ha)
    rw [drop_get l 0 i h0 h1]
    rw [show (i + 1).toNat = i.toNat + 1 by omega] at hi ⊢
    rw [set_fill acc _ i.toNat _ (by omega)] at hi
    exact hi
theorem toIntS_ev (l : List Int) (hl : l.length ≤ 1048576) : Ev (fun k => laws_toIntS.f k l) l := by
  refine Ev.congr (fun k => by unfold laws_toIntS.f; rw [if_pos (by omega), if_pos (by omega)]) ?_
  have h := toIntS_l0_ev l hl 0 (by omega) (by omega) (List.replicate ((l.length : Int)).toNat 0) (by simp)
  simpa using h
theorem eqIntS_l0_ev (l : List Int) (hl : l.length ≤ 1048576) : ∀ i : Int, 0 ≤ i → i ≤ l.length → Ev (fun k => laws_eqIntS.l0 k l l i) true := by
  refine downI ?_ (fun i h0 h1 ih => ?_)
  · exact Ev.step (fun k => by simp only [laws_eqIntS.l0]; rw [if_neg (by omega)]) (Ev.now _)
  · refine Ev.step (fun k => by simp only [laws_eqIntS.l0, if_true]; rw [if_pos h1, if_pos h0, if_pos h1, w64 (x := i + 1) (by omega) (by omega)]) ih
theorem eqIntS_ev (l : List Int) (hl : l.length ≤ 1048576) : Ev (fun k => laws_eqIntS.f k l l) true := by
  refine Ev.congr (fun k => by unfold laws_eqIntS.f; rw [if_pos rfl]) ?_
  exact eqIntS_l0_ev l hl 0 (by omega) (by omega)
theorem in_eq (a b c : Int) : spec_l1In.f a b c = some (decide (b ≤ a ∧ a ≤ c)) := by
  unfold spec_l1In.f
  by_cases h : a ≥ b
  · rw [if_pos h]; congr 1; simp; omega
  · rw [if_neg h]; congr 1; simp; omega
theorem within_eq (a b c : Int) : impl_within.f a b c = some (decide (b ≤ a ∧ a ≤ c)) := by
  unfold impl_within.f
  by_cases h : a ≥ b
  · rw [if_pos h]; congr 1; simp; omega
  · rw [if_neg h]; congr 1; simp; omega
def inB (lo hi : Int) (x : Int) : Bool := decide (lo ≤ x ∧ x ≤ hi)
theorem l1All_l0_ev (l : List Int) (lo hi : Int) (hl : l.length ≤ 1048576) : ∀ i : Int, 0 ≤ i → i ≤ l.length → Ev (fun k => spec_l1All.l0 k lo hi l l.length i) ((l.drop i.toNat).all (inB lo hi)) := by
  refine downI ?_ (fun i h0 h1 ih => ?_)
  · refine Ev.step (fun k => by simp only [spec_l1All.l0]; rw [if_neg (by omega)]) ?_
    rw [List.drop_of_length_le (by omega)]
    exact Ev.now _
  · rw [drop_get l 0 i h0 h1, List.all_cons]
    refine Ev.step (f := fun k => if inB lo hi (rd l i) = true then spec_l1All.l0 k lo hi l l.length (i + 1) else some false) (fun k => by simp only [spec_l1All.l0, in_eq, Option.bind_some]; rw [if_pos h1, if_pos h0, if_pos h1, w64 (x := i + 1) (by omega) (by omega)]; rfl) ?_
    show Ev _ (inB lo hi (rd l i) && _)
    cases inB lo hi (rd l i)
    · simp only [Bool.false_and, Bool.false_eq_true, if_false]; exact Ev.now _
    · simp only [Bool.true_and, if_true]; exact ih
theorem allWithin_l0_ev (l : List Int) (lo hi : Int) (hl : l.length ≤ 1048576) : ∀ i : Int, 0 ≤ i → i ≤ l.length → Ev (fun k => impl_allWithin.l0 k lo hi l l.length i) ((l.drop i.toNat).all (inB lo hi)) := by
  refine downI ?_ (fun i h0 h1 ih => ?_)
  · refine Ev.step (fun k => by simp only [impl_allWithin.l0]; rw [if_neg (by omega)]) ?_
    rw [List.drop_of_length_le (by omega)]
    exact Ev.now _
  · rw [drop_get l 0 i h0 h1, List.all_cons]
    refine Ev.step (f := fun k => if inB lo hi (rd l i) = true then impl_allWithin.l0 k lo hi l l.length (i + 1) else some false) (fun k => by simp only [impl_allWithin.l0, within_eq, Option.bind_some]; rw [if_pos h1, if_pos h0, if_pos h1, w64 (x := i + 1) (by omega) (by omega)]; rfl) ?_
    show Ev _ (inB lo hi (rd l i) && _)
    cases inB lo hi (rd l i)
    · simp only [Bool.false_and, Bool.false_eq_true, if_false]; exact Ev.now _
    · simp only [Bool.true_and, if_true]; exact ih
theorem l1All_ev (l : List Int) (lo hi : Int) (hl : l.length ≤ 1048576) : Ev (fun k => spec_l1All.f k l lo hi) (l.all (inB lo hi)) := by
  unfold spec_l1All.f
  exact l1All_l0_ev l lo hi hl 0 (by omega) (by omega)
theorem allWithin_ev (l : List Int) (lo hi : Int) (hl : l.length ≤ 1048576) : Ev (fun k => impl_allWithin.f k l lo hi) (l.all (inB lo hi)) := by
  unfold impl_allWithin.f
  exact allWithin_l0_ev l lo hi hl 0 (by omega) (by omega)
def goodSpeeds (l : List Int) : Bool := decide (1 ≤ (l.length : Int) ∧ (l.length : Int) ≤ 5) && l.all (inB 1 100)
theorem speeds_len {l : List Int} (h : goodSpeeds l = true) : 1 ≤ l.length ∧ l.length ≤ 5 := by
  unfold goodSpeeds at h
  rw [Bool.and_eq_true, decide_eq_true_iff] at h
  omega
theorem speeds_ok {l : List Int} (h : goodSpeeds l = true) : ∀ x, x ∈ l → 1 ≤ x ∧ x ≤ 100 := by
  unfold goodSpeeds at h
  rw [Bool.and_eq_true] at h
  intro x hx
  have := List.all_eq_true.1 h.2 x hx
  unfold inB at this
  exact of_decide_eq_true this
theorem reSpeeds_ev (l : List Int) : Ev (fun k => spec_reSpeeds.f k l) (goodSpeeds l) := by
  unfold spec_reSpeeds.f goodSpeeds
  simp only [in_eq, Option.bind_some]
  by_cases h : 1 ≤ (l.length : Int) ∧ (l.length : Int) ≤ 5
  · simp only [h, and_self, decide_true, if_true, Bool.true_and]
    exact Ev.bind (l1All_ev l 1 100 (by omega)) (Ev.now _)
  · simp only [h, decide_false, Bool.false_and, Bool.false_eq_true, if_false]
    exact Ev.now _
theorem areSpeeds_ev (l : List Int) : Ev (fun k => impl_areSpeeds.f k l) (goodSpeeds l) := by
  unfold impl_areSpeeds.f goodSpeeds
  simp only [within_eq, Option.bind_some]
  by_cases h : 1 ≤ (l.length : Int) ∧ (l.length : Int) ≤ 5
  · simp only [h, and_self, decide_true, if_true, Bool.true_and]
    exact Ev.bind (allWithin_ev l 1 100 (by omega)) (Ev.now _)
  · simp only [h, decide_false, Bool.false_and, Bool.false_eq_true, if_false]
    exact Ev.now _
theorem divisorOf_ev : ∀ (n : Nat) (a b : Int), 0 ≤ a → 0 ≤ b → b.toNat ≤ n → Ev (fun k => impl_divisorOf.l0 k a b) (gg a b) := by
  intro n
  induction n with
  | zero =>
    intro a b ha hb hn
    obtain rfl : b = 0 := by omega
    refine Ev.step (fun k => by simp only [impl_divisorOf.l0]; rw [if_neg (by omega)]) ?_
    rw [gg_zero ha]; exact Ev.now a
  | succ n ih =>
    intro a b ha hb hn
    by_cases h : 0 < b
    · obtain ⟨g1, g2, g3⟩ := gg_step ha h
      refine Ev.step (fun k => by simp only [impl_divisorOf.l0]; rw [if_pos h, if_neg (by omega)]) ?_
      rw [← g1]; exact ih b (a.tmod b) hb g2 (by omega)
    · obtain rfl : b = 0 := by omega
      refine Ev.step (fun k => by simp only [impl_divisorOf.l0]; rw [if_neg (by omega)]) ?_
      rw [gg_zero ha]; exact Ev.now a
theorem absOf_eq {a : Int} (h1 : -4611686018427387904 ≤ a) (h2 : a ≤ 4611686018427387904) : impl_absOf.f a = some (if a < -a then -a else a) := by
  unfold impl_absOf.f mx
  have e : wrap64 (-a) = -a := by unfold wrap64; omega
  rw [e]
theorem tdiv_lo1 {n d : Int} (hd : 0 < d) (h1 : -4611686018427387904 ≤ n) (h2 : n ≤ 4611686018427387904) : wrap64 (Int.tdiv n (gg n d)) = (lo n d).1 := by
  rw [Int.tdiv_eq_ediv_of_dvd (gg_l n d)]
  have := lo_bd1 hd h1 h2
  show wrap64 (lo n d).1 = _
  unfold wrap64; omega
theorem tdiv_lo2 {n d : Int} (hd : 0 < d) (h2 : d ≤ 4611686018427387904) : wrap64 (Int.tdiv d (gg n d)) = (lo n d).2 := by
  rw [Int.tdiv_eq_ediv_of_dvd (gg_r n d)]
  have := lo_le2 n hd
  have := lo_pos n hd
  show wrap64 (lo n d).2 = _
  unfold wrap64; omega
theorem lowest_ev {n d : Int} (hd : 0 < d) (h1 : -4611686018427387904 ≤ n) (h2 : n ≤ 4611686018427387904) (h3 : d ≤ 4611686018427387904) : Ev (fun k => impl_lowest.f k n d) (lo n d) := by
  refine Ev.congr (fun k => by unfold impl_lowest.f impl_divisorOf.f; rw [if_neg (by omega), absOf_eq h1 h2, Option.bind_some]) ?_
  have hg := gg_pos (n := n) hd
  refine Ev.bind (divisorOf_ev _ d _ (Int.le_of_lt hd) (by split <;> omega) (Nat.le_refl _)) ?_
  have e : gg d (if n < -n then -n else n) = gg n d := by rw [gg_comm, gg_abs]
  rw [e]
  simp only [if_neg (show ¬ gg n d = 0 by omega), tdiv_lo1 hd h1 h2, tdiv_lo2 (n := n) hd h3]
  exact Ev.now _
theorem fraction_ev {n d : Int} (hd : 0 < d) (h1 : -4611686018427387904 ≤ n) (h2 : n ≤ 4611686018427387904) (h3 : d ≤ 4611686018427387904) : Ev (fun k => impl_fraction.f k n d) ((lo n d).1, (lo n d).2, true) := by
  unfold impl_fraction.f
  simp only [if_neg (show ¬ d = 0 by omega)]
  exact Ev.bind (lowest_ev hd h1 h2 h3) (Ev.now _)
theorem most_eq (a b : Int) : spec_l1Most.f a b = some (if a > b then a else b) := by
  unfold spec_l1Most.f; split <;> rfl
theorem l1Abs_eq {a : Int} (h1 : -4611686018427387904 ≤ a) (h2 : a ≤ 4611686018427387904) : spec_l1Abs.f a = some (if a < -a then -a else a) := by
  unfold spec_l1Abs.f
  rw [most_eq]
  have e : wrap64 (-a) = -a := by unfold wrap64; omega
  rw [e]
  simp only [Option.bind_some]
  congr 1
  split <;> split <;> omega
theorem meLow_l0_ev (p q : Int) : ∀ (n : Nat) (a b : Int), 0 ≤ a → 0 ≤ b → b.toNat ≤ n → 0 < gg a b → Ev (fun k => spec_meLow.l0 k p q a b) (wrap64 (Int.tdiv p (gg a b)), wrap64 (Int.tdiv q (gg a b))) := by
  intro n
  induction n with
  | zero =>
    intro a b ha hb hn hg
    obtain rfl : b = 0 := by omega
    rw [gg_zero ha] at hg ⊢
    refine Ev.step (fun k => by simp only [spec_meLow.l0]; rw [if_neg (by omega), if_neg (by omega)]) ?_
    exact Ev.now _
  | succ n ih =>
    intro a b ha hb hn hg
    by_cases h : 0 < b
    · obtain ⟨g1, g2, g3⟩ := gg_step ha h
      refine Ev.step (fun k => by simp only [spec_meLow.l0]; rw [if_pos h, if_neg (by omega)]) ?_
      rw [← g1] at hg ⊢; exact ih b (a.tmod b) hb g2 (by omega) hg
    · obtain rfl : b = 0 := by omega
      rw [gg_zero ha] at hg ⊢
      refine Ev.step (fun k => by simp only [spec_meLow.l0]; rw [if_neg (by omega), if_neg (by omega)]) ?_
      exact Ev.now _
theorem meLow_ev {n d : Int} (hd : 0 < d) (h1 : -4611686018427387904 ≤ n) (h2 : n ≤ 4611686018427387904) (h3 : d ≤ 4611686018427387904) : Ev (fun k => spec_meLow.f k n d) (lo n d) := by
  refine Ev.congr (fun k => by unfold spec_meLow.f; rw [if_neg (by omega)]) ?_
  refine Ev.step (fun k => by simp only [spec_meLow.j0]; rw [l1Abs_eq h1 h2, Option.bind_some]) ?_
  have hg := gg_pos (n := n) hd
  have e := gg_abs n d
  have h := meLow_l0_ev n d _ (if n < -n then -n else n) d (by split <;> omega) (Int.le_of_lt hd) (Nat.le_refl _) (by rw [e]; exact hg)
  rw [e, tdiv_lo1 hd h1 h2, tdiv_lo2 (n := n) hd h3] at h
  exact h
theorem specTimes_ev (l : List Int) (hl : 1 ≤ l.length ∧ l.length ≤ 5) (ok : ∀ x, x ∈ l → 1 ≤ x ∧ x ≤ 100) : ∀ i : Int, 0 ≤ i → i ≤ l.length → ∀ s : Int, 0 ≤ s → s ≤ 100 * i → Ev (fun k => spec_MeanByTimes.l0 k l s l l.length i) ((lo (s + (l.drop i.toNat).sum) l.length).1, (lo (s + (l.drop i.toNat).sum) l.length).2, true) := by
  refine downI (fun s h0 h1 => ?_) (fun i h0 h1 ih s hs hs2 => ?_)
  · refine Ev.step (fun k => by simp only [spec_MeanByTimes.l0]; rw [if_neg (by omega)]) ?_
    rw [List.drop_of_length_le (by omega)]
    simp only [List.sum_nil, Int.add_zero]
    exact Ev.bind (meLow_ev (by omega) (by omega) (by omega) (by omega)) (Ev.now _)
  · have hx := ok _ (get_mem l 0 i h0 h1)
    rw [drop_get l 0 i h0 h1, List.sum_cons, ← Int.add_assoc]
    have e : wrap64 (s + rd l i) = s + l.getD i.toNat 0 := w64 (x := s + l.getD i.toNat 0) (by omega) (by omega)
    refine Ev.step (fun k => by simp only [spec_MeanByTimes.l0]; rw [if_pos h1, if_pos h0, if_pos h1, w64 (x := i + 1) (by omega) (by omega), e]) ?_
    exact ih _ (by omega) (by omega)
theorem implTimes_ev (l : List Int) (hl : 1 ≤ l.length ∧ l.length ≤ 5) (ok : ∀ x, x ∈ l → 1 ≤ x ∧ x ≤ 100) : ∀ i : Int, 0 ≤ i → i ≤ l.length → ∀ s : Int, 0 ≤ s → s ≤ 100 * i → Ev (fun k => impl_MeanByTimes.l0 k l s l l.length i) ((lo (s + (l.drop i.toNat).sum) l.length).1, (lo (s + (l.drop i.toNat).sum) l.length).2, true) := by
  refine downI (fun s h0 h1 => ?_) (fun i h0 h1 ih s hs hs2 => ?_)
  · refine Ev.step (fun k => by simp only [impl_MeanByTimes.l0]; rw [if_neg (by omega)]) ?_
    rw [List.drop_of_length_le (by omega)]
    simp only [List.sum_nil, Int.add_zero]
    exact Ev.bind (fraction_ev (by omega) (by omega) (by omega) (by omega)) (Ev.now _)
  · have hx := ok _ (get_mem l 0 i h0 h1)
    rw [drop_get l 0 i h0 h1, List.sum_cons, ← Int.add_assoc]
    have e : wrap64 (s + rd l i) = s + l.getD i.toNat 0 := w64 (x := s + l.getD i.toNat 0) (by omega) (by omega)
    refine Ev.step (fun k => by simp only [impl_MeanByTimes.l0]; rw [if_pos h1, if_pos h0, if_pos h1, w64 (x := i + 1) (by omega) (by omega), e]) ?_
    exact ih _ (by omega) (by omega)
def meanTimesR (l : List Int) : Int × Int × Bool := if goodSpeeds l = true then ((lo l.sum l.length).1, (lo l.sum l.length).2, true) else (0, 0, false)
theorem specMeanTimes_ev (l : List Int) : Ev (fun k => spec_MeanByTimes.f k l) (meanTimesR l) := by
  unfold meanTimesR
  refine Ev.bind (reSpeeds_ev l) ?_
  cases g : goodSpeeds l with
  | true =>
    simp only [if_true]
    have h := specTimes_ev l (speeds_len g) (speeds_ok g) 0 (by omega) (by omega) 0 (by omega) (by omega)
    simpa using h
  | false => simp only [Bool.false_eq_true, if_false]; exact Ev.now _
theorem implMeanTimes_ev (l : List Int) : Ev (fun k => impl_MeanByTimes.f k l) (meanTimesR l) := by
  unfold meanTimesR
  refine Ev.bind (areSpeeds_ev l) ?_
  cases g : goodSpeeds l with
  | true =>
    simp only [if_true]
    have h := implTimes_ev l (speeds_len g) (speeds_ok g) 0 (by omega) (by omega) 0 (by omega) (by omega)
    simpa using h
  | false => simp only [Bool.false_eq_true, if_false]; exact Ev.now _
theorem meanTimes_ev (l : List Int) : ∃ r : Int × Int × Bool, Ev (fun k => spec_MeanByTimes.f k l) r ∧ Ev (fun k => impl_MeanByTimes.f k l) r := ⟨_, specMeanTimes_ev l, implMeanTimes_ev l⟩
theorem FnExactMeanByTimes : laws_FnExactMeanByTimes.Pure := by
  intro l hl
  refine Ev.rounds ?_
  unfold laws_FnExactMeanByTimes.f
  by_cases h : (l.length : Int) > 1048576
  · simp only [if_pos h]
    exact Ev.now _
  · simp only [if_neg h]
    have hs : l.length ≤ 1048576 := by omega
    obtain ⟨r, a1, a2⟩ := meanTimes_ev l
    refine Ev.bind (toIntS_ev l hs) (Ev.bind a1 (Ev.bind (toIntS_ev l hs) (Ev.bind a2 ?_)))
    simp only [bne_self_eq_false, if_true]
    refine Ev.step (fun k => by simp only [laws_FnExactMeanByTimes.j0]; rw [if_neg (by simp)]) ?_
    refine Ev.bind (toIntS_ev l hs) (Ev.bind (eqIntS_ev l hs) ?_)
    simp only [if_true]
    exact Ev.now _
end Go.Proofs.Ytgcmoeokhinjdaa.Pure
