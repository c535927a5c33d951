/- The program's MeanByHalves returns what the reference's MeanByHalves returns, for all arguments. No conditions. -/
import Derived.Test.YtgcmoeokhinjdaaQLx5
import Derived.Test.YtgcmoeokhinjdaaPlain
set_option linter.unusedVariables false
set_option linter.unusedSimpArgs false
namespace Go.Proofs.Ytgcmoeokhinjdaa.Pure
open Go.RowKit Go.Proofs.Ytgcmoeokhinjdaa.QL Go.Proofs.YtgcmoeokhinjdaaW.PrintWords Go.Proofs.YtgcmoeokhinjdaaW.PrintLast Go.Proofs.YtgcmoeokhinjdaaW.PrintMore Go.Proofs.Ytgcmoeokhinjdaa.Plain
theorem w64 {x : Int} (h1 : -9223372036854775808 ≤ x) (h2 : x ≤ 9223372036854775807) : wrap64 x = x := by unfold wrap64; omega
theorem toIntS_l0_ev (l : List Int) (hl : l.length ≤ 1048576) : ∀ i : Int, 0 ≤ i → i ≤ l.length → ∀ acc : List Int, acc.length = l.length → Ev (fun k => laws_toIntS.l0 k l acc i) (acc.take i.toNat ++ l.drop i.toNat) := by
  refine downI (fun acc ha => ?_) (fun i h0 h1 ih acc ha => ?_)
  · refine Ev.step (fun k => by simp only [laws_toIntS.l0]; rw [if_neg (by omega)]) ?_
    rw [List.take_of_length_le (by omega), List.drop_of_length_le (by omega), List.append_nil]
    exact Ev.now _
  · refine Ev.step (fun k => by simp only [laws_toIntS.l0]; rw [if_pos h1, if_pos h0, if_pos (by omega), w64 (x := i + 1) (by omega) (by omega)]) ?_
    have hi := ih (acc.set i.toNat (rd l i)) (by simpa using ha)
    rw [drop_get l 0 i h0 h1]
    rw [show (i + 1).toNat = i.toNat + 1 by omega] at hi ⊢
    rw [set_fill acc _ i.toNat _ (by omega)] at hi
    exact hi
theorem toIntS_ev (l : List Int) (hl : l.length ≤ 1048576) : Ev (fun k => laws_toIntS.f k l) l := by
  refine Ev.congr (fun k => by unfold laws_toIntS.f; rw [if_pos (by omega), if_pos (by omega)]) ?_
  have h := toIntS_l0_ev l hl 0 (by omega) (by omega) (List.replicate ((l.length : Int)).toNat 0) (by simp)
  simpa using h
theorem eqIntS_l0_ev (l : List Int) (hl : l.length ≤ 1048576) : ∀ i : Int, 0 ≤ i → i ≤ l.length → Ev (fun k => laws_eqIntS.l0 k l l i) true := by
  refine downI ?_ (fun i h0 h1 ih => ?_)
  · exact Ev.step (fun k => by simp only [laws_eqIntS.l0]; rw [if_neg (by omega)]) (Ev.now _)
  · refine Ev.step (fun k => by simp only [laws_eqIntS.l0, if_true]; rw [if_pos h1, if_pos h0, if_pos h1, w64 (x := i + 1) (by omega) (by omega)]) ih
theorem eqIntS_ev (l : List Int) (hl : l.length ≤ 1048576) : Ev (fun k => laws_eqIntS.f k l l) true := by
  refine Ev.congr (fun k => by unfold laws_eqIntS.f; rw [if_pos rfl]) ?_
  exact eqIntS_l0_ev l hl 0 (by omega) (by omega)
theorem in_eq (a b c : Int) : spec_l1In.f a b c = some (decide (b ≤ a ∧ a ≤ c)) := by
  unfold spec_l1In.f
  by_cases h : a ≥ b
  · rw [if_pos h]; congr 1; simp; omega
  · rw [if_neg h]; congr 1; simp; omega
theorem within_eq (a b c : Int) : impl_within.f a b c = some (decide (b ≤ a ∧ a ≤ c)) := by
  unfold impl_within.f
  by_cases h : a ≥ b
  · rw [if_pos h]; congr 1; simp; omega
  · rw [if_neg h]; congr 1; simp; omega
def inB (lo hi : Int) (x : Int) : Bool := decide (lo ≤ x ∧ x ≤ hi)
theorem l1All_l0_ev (l : List Int) (lo hi : Int) (hl : l.length ≤ 1048576) : ∀ i : Int, 0 ≤ i → i ≤ l.length → Ev (fun k => spec_l1All.l0 k lo hi l l.length i) ((l.drop i.toNat).all (inB lo hi)) := by
  refine downI ?_ (fun i h0 h1 ih => ?_)
  · refine Ev.step (fun k => by simp only [spec_l1All.l0]; rw [if_neg (by omega)]) ?_
    rw [List.drop_of_length_le (by omega)]
    exact Ev.now _
  · rw [drop_get l 0 i h0 h1, List.all_cons]
    refine Ev.step (f := fun k => if inB lo hi (rd l i) = true then spec_l1All.l0 k lo hi l l.length (i + 1) else some false) (fun k => by simp only [spec_l1All.l0, in_eq, Option.bind_some]; rw [if_pos h1, if_pos h0, if_pos h1, w64 (x := i + 1) (by omega) (by omega)]; rfl) ?_
    show Ev _ (inB lo hi (rd l i) && _)
    cases inB lo hi (rd l i)
    · simp only [Bool.false_and, Bool.false_eq_true, if_false]; exact Ev.now _
    · simp only [Bool.true_and, if_true]; exact ih
theorem allWithin_l0_ev (l : List Int) (lo hi : Int) (hl : l.length ≤ 1048576) : ∀ i : Int, 0 ≤ i → i ≤ l.length → Ev (fun k => impl_allWithin.l0 k lo hi l l.length i) ((l.drop i.toNat).all (inB lo hi)) := by
  refine downI ?_ (fun i h0 h1 ih => ?_)
  · refine Ev.step (fun k => by simp only [impl_allWithin.l0]; rw [if_neg (by omega)]) ?_
    rw [List.drop_of_length_le (by omega)]
    exact Ev.now _
  · rw [drop_get l 0 i h0 h1, List.all_cons]
    refine Ev.step (f := fun k => if inB lo hi (rd l i) = true then impl_allWithin.l0 k lo hi l l.length (i + 1) else some false) (fun k => by simp only [impl_allWithin.l0, within_eq, Option.bind_some]; rw [if_pos h1, if_pos h0, if_pos h1, w64 (x := i + 1) (by omega) (by omega)]; rfl) ?_
    show Ev _ (inB lo hi (rd l i) && _)
    cases inB lo hi (rd l i)
    · simp only [Bool.false_and, Bool.false_eq_true, if_false]; exact Ev.now _
    · simp only [Bool.true_and, if_true]; exact ih
theorem l1All_ev (l : List Int) (lo hi : Int) (hl : l.length ≤ 1048576) : Ev (fun k => spec_l1All.f k l lo hi) (l.all (inB lo hi)) := by
  unfold spec_l1All.f
  exact l1All_l0_ev l lo hi hl 0 (by omega) (by omega)
theorem allWithin_ev (l : List Int) (lo hi : Int) (hl : l.length ≤ 1048576) : Ev (fun k => impl_allWithin.f k l lo hi) (l.all (inB lo hi)) := by
  unfold impl_allWithin.f
  exact allWithin_l0_ev l lo hi hl 0 (by omega) (by omega)
def goodSpeeds (l : List Int) : Bool := decide (1 ≤ (l.length : Int) ∧ (l.length : Int) ≤ 5) && l.all (inB 1 100)
theorem speeds_len {l : List Int} (h : goodSpeeds l = true) : 1 ≤ l.length ∧ l.length ≤ 5 := by
  unfold goodSpeeds at h
  rw [Bool.and_eq_true, decide_eq_true_iff] at h
  omega
theorem speeds_ok {l : List Int} (h : goodSpeeds l = true) : ∀ x, x ∈ l → 1 ≤ x ∧ x ≤ 100 := by
  unfold goodSpeeds at h
  rw [Bool.and_eq_true] at h
  intro x hx
  have := List.all_eq_true.1 h.2 x hx
  unfold inB at this
  exact of_decide_eq_true this
theorem reSpeeds_ev (l : List Int) : Ev (fun k => spec_reSpeeds.f k l) (goodSpeeds l) := by
  unfold spec_reSpeeds.f goodSpeeds
  simp only [in_eq, Option.bind_some]
  by_cases h : 1 ≤ (l.length : Int) ∧ (l.length : Int) ≤ 5
  · simp only [h, and_self, decide_true, if_true, Bool.true_and]
    exact Ev.bind (l1All_ev l 1 100 (by omega)) (Ev.now _)
  · simp only [h, decide_false, Bool.false_and, Bool.false_eq_true, if_false]
    exact Ev.now _
theorem areSpeeds_ev (l : List Int) : Ev (fun k => impl_areSpeeds.f k l) (goodSpeeds l) := by
  unfold impl_areSpeeds.f goodSpeeds
  simp only [within_eq, Option.bind_some]
  by_cases h : 1 ≤ (l.length : Int) ∧ (l.length : Int) ≤ 5
  · simp only [h, and_self, decide_true, if_true, Bool.true_and]
    exact Ev.bind (allWithin_ev l 1 100 (by omega)) (Ev.now _)
  · simp only [h, decide_false, Bool.false_and, Bool.false_eq_true, if_false]
    exact Ev.now _
def okLeg (x : S54) : Bool := decide (1 ≤ x.f0 ∧ x.f0 ≤ 1000) && decide (1 ≤ x.f1 ∧ x.f1 ≤ 100)
def goodLegs (l : List S54) : Bool := decide (1 ≤ (l.length : Int) ∧ (l.length : Int) ≤ 5) && l.all okLeg
theorem okLeg_iff {x : S54} : okLeg x = true ↔ (1 ≤ x.f0 ∧ x.f0 ≤ 1000) ∧ (1 ≤ x.f1 ∧ x.f1 ≤ 100) := by
  unfold okLeg; rw [Bool.and_eq_true, decide_eq_true_iff, decide_eq_true_iff]
theorem reGood_l0_ev (l : List S54) (hl : l.length ≤ 5) : ∀ i : Int, 0 ≤ i → i ≤ l.length → Ev (fun k => spec_reGood.l0 k l l.length i) ((l.drop i.toNat).all okLeg) := by
  refine downI ?_ (fun i h0 h1 ih => ?_)
  · refine Ev.step (fun k => by simp only [spec_reGood.l0]; rw [if_neg (by omega)]) ?_
    rw [List.drop_of_length_le (by omega)]
    exact Ev.now _
  · rw [drop_get l z54 i h0 h1, List.all_cons]
    refine Ev.step (f := fun k => if decide (1 ≤ (rd_T54 l i).f0 ∧ (rd_T54 l i).f0 ≤ 1000) = true then (if decide (1 ≤ (rd_T54 l i).f1 ∧ (rd_T54 l i).f1 ≤ 100) = true then spec_reGood.l0 k l l.length (i + 1) else some false) else some false) (fun k => by simp only [spec_reGood.l0, in_eq, Option.bind_some]; rw [if_pos h1, if_pos h0, if_pos h1, w64 (x := i + 1) (by omega) (by omega)]) ?_
    show Ev _ (okLeg (rd_T54 l i) && _)
    unfold okLeg
    by_cases a : decide (1 ≤ (rd_T54 l i).f0 ∧ (rd_T54 l i).f0 ≤ 1000) = true
    · by_cases b : decide (1 ≤ (rd_T54 l i).f1 ∧ (rd_T54 l i).f1 ≤ 100) = true
      · simp only [a, b, if_true, Bool.true_and]; exact ih
      · simp only [a, b, if_true, Bool.true_and, Bool.false_and, Bool.false_eq_true, if_false]; exact Ev.now _
    · simp only [a, Bool.false_and, Bool.false_eq_true, if_false]; exact Ev.now _
theorem reGood_ev (l : List S54) : Ev (fun k => spec_reGood.f k l) (goodLegs l) := by
  unfold spec_reGood.f goodLegs
  simp only [in_eq, Option.bind_some]
  by_cases h : 1 ≤ (l.length : Int) ∧ (l.length : Int) ≤ 5
  · simp only [h, and_self, decide_true, if_true, Bool.true_and]
    exact reGood_l0_ev l (by omega) 0 (by omega) (by omega)
  · simp only [h, decide_false, Bool.false_and, Bool.false_eq_true, if_false]
    exact Ev.now _
theorem areLegs_1_eq (x : S54) : impl_AreLegs_1.f x.f0 x.f1 = some (!okLeg x) := by
  unfold impl_AreLegs_1.f impl_isLong.f impl_isFast.f okLeg
  simp only [within_eq, Option.bind_some]
  by_cases a : decide (1 ≤ x.f0 ∧ x.f0 ≤ 1000) = true
  · simp [a]
  · simp [a]
theorem indexLeg_ev (l : List S54) (hl : l.length ≤ 5) : ∀ i : Int, 0 ≤ i → i ≤ l.length → ∃ r : Int, Ev (fun k => impl_Leg_87.l0 k l l.length i) r ∧ decide (r ≥ 0) = !((l.drop i.toNat).all okLeg) := by
  refine downI ?_ (fun i h0 h1 ih => ?_)
  · refine ⟨-1, Ev.step (fun k => by simp only [impl_Leg_87.l0]; rw [if_neg (by omega)]) (Ev.now _), ?_⟩
    rw [List.drop_of_length_le (by omega)]
    rfl
  · rw [drop_get l z54 i h0 h1, List.all_cons]
    have st : ∀ k, impl_Leg_87.l0 (k + 1) l l.length i = if (!okLeg (rd_T54 l i)) = true then some i else impl_Leg_87.l0 k l l.length (i + 1) := fun k => by
      simp only [impl_Leg_87.l0, areLegs_1_eq, Option.bind_some]; rw [if_pos h1, if_pos h0, if_pos h1, w64 (x := i + 1) (by omega) (by omega)]
    show ∃ r : Int, _ ∧ _ = !(okLeg (rd_T54 l i) && _)
    cases a : okLeg (rd_T54 l i)
    · exact ⟨i, Ev.step (fun k => by rw [st, a]; rfl) (Ev.now i), by simp [h0]⟩
    · obtain ⟨r, h2, h3⟩ := ih
      exact ⟨r, Ev.step (fun k => by rw [st, a]; rfl) h2, by simpa using h3⟩
theorem areLegs_ev (l : List S54) : Ev (fun k => impl_AreLegs.f k l) (goodLegs l) := by
  unfold impl_AreLegs.f goodLegs
  simp only [within_eq, Option.bind_some]
  by_cases h : 1 ≤ (l.length : Int) ∧ (l.length : Int) ≤ 5
  · simp only [h, and_self, decide_true, if_true, Bool.true_and]
    obtain ⟨r, h1, h2⟩ := indexLeg_ev l (by omega) 0 (by omega) (by omega)
    unfold impl_Leg_75.f impl_Leg_87.f
    refine Ev.bind (Ev.bind h1 (Ev.now _)) ?_
    rw [h2]
    simp only [Bool.not_not]
    exact Ev.now _
  · simp only [h, decide_false, Bool.false_and, Bool.false_eq_true, if_false]
    exact Ev.now _
theorem good_len {l : List S54} (h : goodLegs l = true) : 1 ≤ l.length ∧ l.length ≤ 5 := by
  unfold goodLegs at h
  rw [Bool.and_eq_true, decide_eq_true_iff] at h
  omega
theorem good_ok {l : List S54} (h : goodLegs l = true) : ∀ x, x ∈ l → okLeg x = true := by
  unfold goodLegs at h
  rw [Bool.and_eq_true] at h
  exact List.all_eq_true.1 h.2
def longI (l : List S54) : Int := (l.map (fun x => x.f0)).sum
theorem longI_cons (x : S54) (l : List S54) : longI (x :: l) = x.f0 + longI l := by simp [longI]
theorem longI_bd : ∀ (l : List S54), (∀ x, x ∈ l → okLeg x = true) → (l.length : Int) ≤ longI l ∧ longI l ≤ 1000 * l.length := by
  intro l
  induction l with
  | nil => intro _; simp [longI]
  | cons x l ih =>
    intro h
    rw [longI_cons]
    have h1 := okLeg_iff.1 (h x List.mem_cons_self)
    have h2 := ih (fun y hy => h y (List.mem_cons_of_mem _ hy))
    simp only [List.length_cons]
    omega
theorem reLong_l0_ev (l : List S54) (hl : l.length ≤ 5) (ok : ∀ x, x ∈ l → okLeg x = true) : ∀ i : Int, 0 ≤ i → i ≤ l.length → ∀ s : Int, 0 ≤ s → s ≤ 1000 * i → Ev (fun k => spec_reLong.l0 k s l l.length i) (s + longI (l.drop i.toNat)) := by
  refine downI (fun s h0 h1 => ?_) (fun i h0 h1 ih s hs hs2 => ?_)
  · refine Ev.step (fun k => by simp only [spec_reLong.l0]; rw [if_neg (by omega)]) ?_
    rw [List.drop_of_length_le (by omega)]
    simp only [longI, List.map_nil, List.sum_nil, Int.add_zero]
    exact Ev.now _
  · have hx := okLeg_iff.1 (ok _ (get_mem l z54 i h0 h1))
    rw [drop_get l z54 i h0 h1, longI_cons, ← Int.add_assoc]
    have e : wrap64 (s + (rd_T54 l i).f0) = s + (l.getD i.toNat z54).f0 := w64 (x := s + (l.getD i.toNat z54).f0) (by omega) (by omega)
    refine Ev.step (fun k => by simp only [spec_reLong.l0]; rw [if_pos h1, if_pos h0, if_pos h1, w64 (x := i + 1) (by omega) (by omega), e]) ?_
    exact ih _ (by omega) (by omega)
theorem longOf_l0_ev (l : List S54) (hl : l.length ≤ 5) (ok : ∀ x, x ∈ l → okLeg x = true) : ∀ i : Int, 0 ≤ i → i ≤ l.length → ∀ s : Int, 0 ≤ s → s ≤ 1000 * i → Ev (fun k => impl_longOf.l0 k s l l.length i) (s + longI (l.drop i.toNat)) := by
  refine downI (fun s h0 h1 => ?_) (fun i h0 h1 ih s hs hs2 => ?_)
  · refine Ev.step (fun k => by simp only [impl_longOf.l0]; rw [if_neg (by omega)]) ?_
    rw [List.drop_of_length_le (by omega)]
    simp only [longI, List.map_nil, List.sum_nil, Int.add_zero]
    exact Ev.now _
  · have hx := okLeg_iff.1 (ok _ (get_mem l z54 i h0 h1))
    rw [drop_get l z54 i h0 h1, longI_cons, ← Int.add_assoc]
    have e : wrap64 (s + (rd_T54 l i).f0) = s + (l.getD i.toNat z54).f0 := w64 (x := s + (l.getD i.toNat z54).f0) (by omega) (by omega)
    refine Ev.step (fun k => by simp only [impl_longOf.l0]; rw [if_pos h1, if_pos h0, if_pos h1, w64 (x := i + 1) (by omega) (by omega), e]) ?_
    exact ih _ (by omega) (by omega)
theorem reLong_ev (l : List S54) (hl : l.length ≤ 5) (ok : ∀ x, x ∈ l → okLeg x = true) : Ev (fun k => spec_reLong.f k l) (longI l) := by
  unfold spec_reLong.f
  have h := reLong_l0_ev l hl ok 0 (by omega) (by omega) 0 (by omega) (by omega)
  simpa using h
theorem longOf_ev (l : List S54) (hl : l.length ≤ 5) (ok : ∀ x, x ∈ l → okLeg x = true) : Ev (fun k => impl_longOf.f k l) (longI l) := by
  unfold impl_longOf.f
  have h := longOf_l0_ev l hl ok 0 (by omega) (by omega) 0 (by omega) (by omega)
  simpa using h
theorem most_eq (a b : Int) : spec_l1Most.f a b = some (if a > b then a else b) := by
  unfold spec_l1Most.f; split <;> rfl
theorem l1Abs_eq {a : Int} (h1 : -4611686018427387904 ≤ a) (h2 : a ≤ 4611686018427387904) : spec_l1Abs.f a = some (if a < -a then -a else a) := by
  unfold spec_l1Abs.f
  rw [most_eq]
  have e : wrap64 (-a) = -a := by unfold wrap64; omega
  rw [e]
  simp only [Option.bind_some]
  congr 1
  split <;> split <;> omega
theorem divisorOf_ev : ∀ (n : Nat) (a b : Int), 0 ≤ a → 0 ≤ b → b.toNat ≤ n → Ev (fun k => impl_divisorOf.l0 k a b) (gg a b) := by
  intro n
  induction n with
  | zero =>
    intro a b ha hb hn
    obtain rfl : b = 0 := by omega
    refine Ev.step (fun k => by simp only [impl_divisorOf.l0]; rw [if_neg (by omega)]) ?_
    rw [gg_zero ha]; exact Ev.now a
  | succ n ih =>
    intro a b ha hb hn
    by_cases h : 0 < b
    · obtain ⟨g1, g2, g3⟩ := gg_step ha h
      refine Ev.step (fun k => by simp only [impl_divisorOf.l0]; rw [if_pos h, if_neg (by omega)]) ?_
      rw [← g1]; exact ih b (a.tmod b) hb g2 (by omega)
    · obtain rfl : b = 0 := by omega
      refine Ev.step (fun k => by simp only [impl_divisorOf.l0]; rw [if_neg (by omega)]) ?_
      rw [gg_zero ha]; exact Ev.now a
theorem absOf_eq {a : Int} (h1 : -4611686018427387904 ≤ a) (h2 : a ≤ 4611686018427387904) : impl_absOf.f a = some (if a < -a then -a else a) := by
  unfold impl_absOf.f mx
  have e : wrap64 (-a) = -a := by unfold wrap64; omega
  rw [e]
theorem tdiv_lo1 {n d : Int} (hd : 0 < d) (h1 : -4611686018427387904 ≤ n) (h2 : n ≤ 4611686018427387904) : wrap64 (Int.tdiv n (gg n d)) = (lo n d).1 := by
  rw [Int.tdiv_eq_ediv_of_dvd (gg_l n d)]
  have := lo_bd1 hd h1 h2
  show wrap64 (lo n d).1 = _
  unfold wrap64; omega
theorem tdiv_lo2 {n d : Int} (hd : 0 < d) (h2 : d ≤ 4611686018427387904) : wrap64 (Int.tdiv d (gg n d)) = (lo n d).2 := by
  rw [Int.tdiv_eq_ediv_of_dvd (gg_r n d)]
  have := lo_le2 n hd
  have := lo_pos n hd
  show wrap64 (lo n d).2 = _
  unfold wrap64; omega
theorem lowest_ev {n d : Int} (hd : 0 < d) (h1 : -4611686018427387904 ≤ n) (h2 : n ≤ 4611686018427387904) (h3 : d ≤ 4611686018427387904) : Ev (fun k => impl_lowest.f k n d) (lo n d) := by
  refine Ev.congr (fun k => by unfold impl_lowest.f impl_divisorOf.f; rw [if_neg (by omega), absOf_eq h1 h2, Option.bind_some]) ?_
  have hg := gg_pos (n := n) hd
  refine Ev.bind (divisorOf_ev _ d _ (Int.le_of_lt hd) (by split <;> omega) (Nat.le_refl _)) ?_
  have e : gg d (if n < -n then -n else n) = gg n d := by rw [gg_comm, gg_abs]
  rw [e]
  simp only [if_neg (show ¬ gg n d = 0 by omega), tdiv_lo1 hd h1 h2, tdiv_lo2 (n := n) hd h3]
  exact Ev.now _
theorem meLow_l0_ev (p q : Int) : ∀ (n : Nat) (a b : Int), 0 ≤ a → 0 ≤ b → b.toNat ≤ n → 0 < gg a b → Ev (fun k => spec_meLow.l0 k p q a b) (wrap64 (Int.tdiv p (gg a b)), wrap64 (Int.tdiv q (gg a b))) := by
  intro n
  induction n with
  | zero =>
    intro a b ha hb hn hg
    obtain rfl : b = 0 := by omega
    rw [gg_zero ha] at hg ⊢
    refine Ev.step (fun k => by simp only [spec_meLow.l0]; rw [if_neg (by omega), if_neg (by omega)]) ?_
    exact Ev.now _
  | succ n ih =>
    intro a b ha hb hn hg
    by_cases h : 0 < b
    · obtain ⟨g1, g2, g3⟩ := gg_step ha h
      refine Ev.step (fun k => by simp only [spec_meLow.l0]; rw [if_pos h, if_neg (by omega)]) ?_
      rw [← g1] at hg ⊢; exact ih b (a.tmod b) hb g2 (by omega) hg
    · obtain rfl : b = 0 := by omega
      rw [gg_zero ha] at hg ⊢
      refine Ev.step (fun k => by simp only [spec_meLow.l0]; rw [if_neg (by omega), if_neg (by omega)]) ?_
      exact Ev.now _
theorem meLow_ev {n d : Int} (hd : 0 < d) (h1 : -4611686018427387904 ≤ n) (h2 : n ≤ 4611686018427387904) (h3 : d ≤ 4611686018427387904) : Ev (fun k => spec_meLow.f k n d) (lo n d) := by
  refine Ev.congr (fun k => by unfold spec_meLow.f; rw [if_neg (by omega)]) ?_
  refine Ev.step (fun k => by simp only [spec_meLow.j0]; rw [l1Abs_eq h1 h2, Option.bind_some]) ?_
  have hg := gg_pos (n := n) hd
  have e := gg_abs n d
  have h := meLow_l0_ev n d _ (if n < -n then -n else n) d (by split <;> omega) (Int.le_of_lt hd) (Nat.le_refl _) (by rw [e]; exact hg)
  rw [e, tdiv_lo1 hd h1 h2, tdiv_lo2 (n := n) hd h3] at h
  exact h
def tstep (t : Int × Int) (x : S54) : Int × Int := lo (t.1 * x.f1 + x.f0 * t.2) (t.2 * x.f1)
def timeL (l : List S54) : Int × Int := l.foldl tstep (0, 1)
/-- A time for n legs. -/
structure Tm (n : Nat) (t : Int × Int) : Prop where
  nn : 0 ≤ t.1
  pos : 1 ≤ n → 0 < t.1
  rat : t.1 ≤ (1000 * (n : Int)) * t.2
  one : 1 ≤ t.2
  den : t.2 ≤ pw n
  low : gg t.1 t.2 = 1
theorem Tm.bd {n : Nat} {t : Int × Int} (h : Tm n t) (hn : n ≤ 5) : t.1 ≤ 50000000000000 ∧ t.2 ≤ 10000000000 := by
  have h1 := h.den
  have h2 := pw_le hn
  have h3 := h.rat
  have h4 := mul_bd (a := 1000 * (n : Int)) (b := t.2) (A := 5000) (B := 10000000000) (by omega) (by omega) (by have := h.one; omega) (by omega)
  omega
theorem tm_zero : Tm 0 (0, 1) := ⟨by simp, fun h => absurd h (by omega), by simp, by simp, by simp [pw], by unfold gg; simp⟩
/-- What one leg more comes to, with no overflow. -/
structure Step (n : Nat) (t : Int × Int) (x : S54) : Prop where
  next : Tm (n + 1) (tstep t x)
  a : wrap64 (t.1 * x.f1) = t.1 * x.f1
  b : wrap64 (x.f0 * t.2) = x.f0 * t.2
  c : wrap64 (t.1 * x.f1 + x.f0 * t.2) = t.1 * x.f1 + x.f0 * t.2
  d : wrap64 (t.2 * x.f1) = t.2 * x.f1
  dp : 0 < t.2 * x.f1
  n1 : 0 ≤ t.1 * x.f1 + x.f0 * t.2 ∧ t.1 * x.f1 + x.f0 * t.2 ≤ 4611686018427387904
  d1 : t.2 * x.f1 ≤ 4611686018427387904
theorem step_of {n : Nat} {t : Int × Int} {x : S54} (h : Tm n t) (hn : n ≤ 4) (hx : okLeg x = true) : Step n t x := by
  obtain ⟨⟨l1, l2⟩, f1, f2⟩ := okLeg_iff.1 hx
  obtain ⟨t1, t2⟩ := h.bd (by omega)
  have t3 := h.nn
  have t4 := h.one
  have a := mul_bd (a := t.1) (b := x.f1) (A := 50000000000000) (B := 100) t3 t1 (by omega) f2
  have b := mul_bd (a := x.f0) (b := t.2) (A := 1000) (B := 10000000000) (by omega) l2 (by omega) t2
  have d := mul_bd (a := t.2) (b := x.f1) (A := 10000000000) (B := 100) (by omega) t2 (by omega) f2
  have dp := mul_pos (a := t.2) (b := x.f1) (by omega) (by omega)
  have bp := mul_pos (a := x.f0) (b := t.2) (by omega) (by omega)
  refine ⟨⟨lo_nonneg dp (by omega), fun _ => lo_pos1 dp (by omega), lo_ratio dp ?_, lo_pos _ dp, ?_, lo_gcd _ dp⟩, w64 (by omega) (by omega), w64 (by omega) (by omega), w64 (by omega) (by omega), w64 (by omega) (by omega), dp, ⟨by omega, by omega⟩, by omega⟩
  · have r := mul_le_r (c := x.f1) (by omega) h.rat
    have s1 := mul_le_r (c := t.2) (by omega) l2
    have s2 := mul_le_l (c := 1000 * t.2) (by omega) f1
    have e : (1000 * ((n + 1 : Nat) : Int)) * (t.2 * x.f1) = 1000 * (n : Int) * t.2 * x.f1 + 1000 * t.2 * x.f1 := by
      rw [show ((n + 1 : Nat) : Int) = (n : Int) + 1 by omega]
      grind
    omega
  · refine Int.le_trans (lo_le2 _ dp) ?_
    have := h.den
    have p := pw_pos n
    have := mul_bd (a := t.2) (b := x.f1) (A := pw n) (B := 100) (by omega) h.den (by omega) f2
    simp only [pw]
    omega
theorem tm_foldl : ∀ (l : List S54) (n : Nat) (t : Int × Int), n + l.length ≤ 5 → Tm n t → (∀ x, x ∈ l → okLeg x = true) → Tm (n + l.length) (l.foldl tstep t) := by
  intro l
  induction l with
  | nil => intro n t _ h _; exact h
  | cons x l ih =>
    intro n t hn h ok
    simp only [List.length_cons] at hn
    have := ih (n + 1) (tstep t x) (by omega) (step_of h (by omega) (ok x List.mem_cons_self)).next (fun y hy => ok y (List.mem_cons_of_mem _ hy))
    simp only [List.foldl_cons, List.length_cons]
    rw [show n + (l.length + 1) = n + 1 + l.length by omega]
    exact this
theorem timeL_tm (l : List S54) (hl : l.length ≤ 5) (ok : ∀ x, x ∈ l → okLeg x = true) : Tm l.length (timeL l) := by
  have := tm_foldl l 0 (0, 1) (by omega) tm_zero ok
  rw [Nat.zero_add] at this
  exact this
theorem reTime_l0_ev (l : List S54) (hl : l.length ≤ 5) (ok : ∀ x, x ∈ l → okLeg x = true) : ∀ i : Int, 0 ≤ i → i ≤ l.length → ∀ t : Int × Int, Tm i.toNat t → Ev (fun k => spec_reTime.l0 k t.1 t.2 l l.length i) ((l.drop i.toNat).foldl tstep t) := by
  refine downI (fun t h => ?_) (fun i h0 h1 ih t h => ?_)
  · refine Ev.step (fun k => by simp only [spec_reTime.l0]; rw [if_neg (by omega)]) ?_
    rw [List.drop_of_length_le (by omega)]
    exact Ev.now _
  · have s := step_of h (by omega) (ok _ (get_mem l z54 i h0 h1))
    have n1 := s.n1
    rw [drop_get l z54 i h0 h1, List.foldl_cons]
    refine Ev.step (fun k => by simp only [spec_reTime.l0, rd_T54]; rw [if_pos h1, if_pos h0, if_pos h1, w64 (x := i + 1) (by omega) (by omega), s.a, s.b, s.c, s.d]) ?_
    refine Ev.bind (meLow_ev s.dp (by omega) s.n1.2 s.d1) ?_
    have := s.next
    rw [show i.toNat + 1 = (i + 1).toNat by omega] at this
    exact ih _ this
theorem timeOf_l0_ev (l : List S54) (hl : l.length ≤ 5) (ok : ∀ x, x ∈ l → okLeg x = true) : ∀ i : Int, 0 ≤ i → i ≤ l.length → ∀ t : Int × Int, Tm i.toNat t → Ev (fun k => impl_timeOf.l0 k t.1 t.2 l l.length i) ((l.drop i.toNat).foldl tstep t) := by
  refine downI (fun t h => ?_) (fun i h0 h1 ih t h => ?_)
  · refine Ev.step (fun k => by simp only [impl_timeOf.l0]; rw [if_neg (by omega)]) ?_
    rw [List.drop_of_length_le (by omega)]
    exact Ev.now _
  · have s := step_of h (by omega) (ok _ (get_mem l z54 i h0 h1))
    have n1 := s.n1
    rw [drop_get l z54 i h0 h1, List.foldl_cons]
    refine Ev.step (fun k => by simp only [impl_timeOf.l0, rd_T54]; rw [if_pos h1, if_pos h0, if_pos h1, w64 (x := i + 1) (by omega) (by omega), s.a, s.b, s.c, s.d]) ?_
    refine Ev.bind (lowest_ev s.dp (by omega) s.n1.2 s.d1) ?_
    have := s.next
    rw [show i.toNat + 1 = (i + 1).toNat by omega] at this
    exact ih _ this
theorem reTime_ev (l : List S54) (hl : l.length ≤ 5) (ok : ∀ x, x ∈ l → okLeg x = true) : Ev (fun k => spec_reTime.f k l) (timeL l) := by
  unfold spec_reTime.f timeL
  have h := reTime_l0_ev l hl ok 0 (by omega) (by omega) (0, 1) tm_zero
  simpa using h
theorem timeOf_ev (l : List S54) (hl : l.length ≤ 5) (ok : ∀ x, x ∈ l → okLeg x = true) : Ev (fun k => impl_timeOf.f k l) (timeL l) := by
  unfold impl_timeOf.f timeL
  have h := timeOf_l0_ev l hl ok 0 (by omega) (by omega) (0, 1) tm_zero
  simpa using h
theorem fraction_ev {n d : Int} (hd : 0 < d) (h1 : -4611686018427387904 ≤ n) (h2 : n ≤ 4611686018427387904) (h3 : d ≤ 4611686018427387904) : Ev (fun k => impl_fraction.f k n d) ((lo n d).1, (lo n d).2, true) := by
  unfold impl_fraction.f
  simp only [if_neg (show ¬ d = 0 by omega)]
  exact Ev.bind (lowest_ev hd h1 h2 h3) (Ev.now _)
theorem meanSpeed_bd (l : List S54) (g : goodLegs l = true) : wrap64 (longI l * (timeL l).2) = longI l * (timeL l).2 ∧ 0 ≤ longI l * (timeL l).2 ∧ longI l * (timeL l).2 ≤ 4611686018427387904 ∧ 0 < (timeL l).1 ∧ (timeL l).1 ≤ 4611686018427387904 := by
  have hl := good_len g
  have ok := good_ok g
  have t := timeL_tm l hl.2 ok
  have b := t.bd hl.2
  have o := t.one
  have L := longI_bd l ok
  have m := mul_bd (a := longI l) (b := (timeL l).2) (A := 5000) (B := 10000000000) (by omega) (by omega) (by omega) (by omega)
  exact ⟨w64 (by omega) (by omega), by omega, by omega, t.pos hl.1, by omega⟩
theorem specMean_ev (l : List S54) (g : goodLegs l = true) : Ev (fun k => spec_MeanSpeed.f k l) ((lo (longI l * (timeL l).2) (timeL l).1).1, (lo (longI l * (timeL l).2) (timeL l).1).2, true) := by
  have hl := good_len g
  have ok := good_ok g
  obtain ⟨w, m1, m2, p1, p2⟩ := meanSpeed_bd l g
  refine Ev.bind (reGood_ev l) ?_
  rw [g]
  refine Ev.bind (reTime_ev l hl.2 ok) (Ev.bind (reLong_ev l hl.2 ok) ?_)
  rw [w]
  exact Ev.bind (meLow_ev p1 (by omega) m2 p2) (Ev.now _)
theorem implMean_ev (l : List S54) (g : goodLegs l = true) : Ev (fun k => impl_MeanSpeed.f k l) ((lo (longI l * (timeL l).2) (timeL l).1).1, (lo (longI l * (timeL l).2) (timeL l).1).2, true) := by
  have hl := good_len g
  have ok := good_ok g
  obtain ⟨w, m1, m2, p1, p2⟩ := meanSpeed_bd l g
  refine Ev.bind (areLegs_ev l) ?_
  rw [g]
  refine Ev.bind (timeOf_ev l hl.2 ok) (Ev.bind (longOf_ev l hl.2 ok) ?_)
  rw [w]
  exact Ev.bind (fraction_ev p1 (by omega) m2 p2) (Ev.now _)
theorem meanSpeed_ev (l : List S54) : ∃ r : Int × Int × Bool, Ev (fun k => spec_MeanSpeed.f k l) r ∧ Ev (fun k => impl_MeanSpeed.f k l) r := by
  cases g : goodLegs l with
  | true => exact ⟨_, specMean_ev l g, implMean_ev l g⟩
  | false => exact ⟨(0, 0, false), Ev.bind (reGood_ev l) (by rw [g]; exact Ev.now _), Ev.bind (areLegs_ev l) (by rw [g]; exact Ev.now _)⟩
def cvHalf (x : Int) : S54 := ⟨1, x⟩
theorem halves_good {l : List Int} (g : goodSpeeds l = true) : goodLegs (l.map cvHalf) = true := by
  have hl := speeds_len g
  have ok := speeds_ok g
  unfold goodLegs
  rw [Bool.and_eq_true, decide_eq_true_iff]
  refine ⟨by simp; omega, List.all_eq_true.2 fun x hx => ?_⟩
  obtain ⟨y, hy, rfl⟩ := List.mem_map.1 hx
  have := ok y hy
  exact okLeg_iff.2 ⟨by simp [cvHalf], by simp only [cvHalf]; omega⟩
theorem longI_halves (l : List Int) : longI (l.map cvHalf) = l.length := by
  induction l with
  | nil => rfl
  | cons x l ih => rw [List.map_cons, longI_cons, ih]; simp [cvHalf]; omega
theorem specHalves_ev (l : List Int) (g : goodSpeeds l = true) : ∀ i : Int, 0 ≤ i → i ≤ l.length → Ev (fun k => spec_MeanByHalves.l0 k ((l.take i.toNat).map cvHalf) l l.length i) ((lo (longI (l.map cvHalf) * (timeL (l.map cvHalf)).2) (timeL (l.map cvHalf)).1).1, (lo (longI (l.map cvHalf) * (timeL (l.map cvHalf)).2) (timeL (l.map cvHalf)).1).2, true) := by
  have hl := speeds_len g
  refine downI ?_ (fun i h0 h1 ih => ?_)
  · refine Ev.step (fun k => by simp only [spec_MeanByHalves.l0]; rw [if_neg (by omega)]) ?_
    rw [List.take_of_length_le (by omega)]
    exact Ev.bind (specMean_ev _ (halves_good g)) (Ev.now _)
  · have e : ((l.take i.toNat).map cvHalf) ++ [(⟨1, rd l i⟩ : S54)] = (l.take (i + 1).toNat).map cvHalf := by
      rw [take_get l 0 i h0 h1, List.map_append]; rfl
    have hlen : ((l.take i.toNat).map cvHalf).length < 8796093022208 := by simp; omega
    refine Ev.step (fun k => by simp only [spec_MeanByHalves.l0]; rw [if_pos h1, if_pos h0, if_pos h1, if_pos hlen, w64 (x := i + 1) (by omega) (by omega), e]) ih
theorem implHalves_ev (l : List Int) (g : goodSpeeds l = true) : ∀ i : Int, 0 ≤ i → i ≤ l.length → Ev (fun k => impl_MeanByHalves.l0 k ((l.take i.toNat).map cvHalf) l l.length i) ((lo (longI (l.map cvHalf) * (timeL (l.map cvHalf)).2) (timeL (l.map cvHalf)).1).1, (lo (longI (l.map cvHalf) * (timeL (l.map cvHalf)).2) (timeL (l.map cvHalf)).1).2, true) := by
  have hl := speeds_len g
  refine downI ?_ (fun i h0 h1 ih => ?_)
  · refine Ev.step (fun k => by simp only [impl_MeanByHalves.l0]; rw [if_neg (by omega)]) ?_
    rw [List.take_of_length_le (by omega)]
    have gg := halves_good g
    obtain ⟨w, m1, m2, p1, p2⟩ := meanSpeed_bd _ gg
    refine Ev.bind (timeOf_ev _ (good_len gg).2 (good_ok gg)) ?_
    rw [longI_halves] at w m1 m2 ⊢
    simp only [List.length_map]
    rw [w]
    exact Ev.bind (fraction_ev p1 (by omega) m2 p2) (Ev.now _)
  · have e : ((l.take i.toNat).map cvHalf) ++ [(⟨1, rd l i⟩ : S54)] = (l.take (i + 1).toNat).map cvHalf := by
      rw [take_get l 0 i h0 h1, List.map_append]; rfl
    have hlen : ((l.take i.toNat).map cvHalf).length < 8796093022208 := by simp; omega
    refine Ev.step (fun k => by simp only [impl_MeanByHalves.l0]; rw [if_pos h1, if_pos h0, if_pos h1, if_pos hlen, w64 (x := i + 1) (by omega) (by omega), e]) ih
noncomputable def meanHalvesR (l : List Int) : Int × Int × Bool := if goodSpeeds l = true then ((lo (longI (l.map cvHalf) * (timeL (l.map cvHalf)).2) (timeL (l.map cvHalf)).1).1, (lo (longI (l.map cvHalf) * (timeL (l.map cvHalf)).2) (timeL (l.map cvHalf)).1).2, true) else (0, 0, false)
theorem specMeanHalves_ev (l : List Int) : Ev (fun k => spec_MeanByHalves.f k l) (meanHalvesR l) := by
  unfold meanHalvesR
  refine Ev.bind (reSpeeds_ev l) ?_
  cases g : goodSpeeds l with
  | true => simp only [if_true]; have h := specHalves_ev l g 0 (by omega) (by omega); simpa using h
  | false => simp only [Bool.false_eq_true, if_false]; exact Ev.now _
theorem implMeanHalves_ev (l : List Int) : Ev (fun k => impl_MeanByHalves.f k l) (meanHalvesR l) := by
  unfold meanHalvesR
  refine Ev.bind (areSpeeds_ev l) ?_
  cases g : goodSpeeds l with
  | true => simp only [if_true]; have h := implHalves_ev l g 0 (by omega) (by omega); simpa using h
  | false => simp only [Bool.false_eq_true, if_false]; exact Ev.now _
theorem meanHalves_ev (l : List Int) : ∃ r : Int × Int × Bool, Ev (fun k => spec_MeanByHalves.f k l) r ∧ Ev (fun k => impl_MeanByHalves.f k l) r := ⟨_, specMeanHalves_ev l, implMeanHalves_ev l⟩
theorem FnExactMeanByHalves : laws_FnExactMeanByHalves.Pure := by
  intro l hl
  refine Ev.rounds ?_
  unfold laws_FnExactMeanByHalves.f
  by_cases h : (l.length : Int) > 1048576
  · simp only [if_pos h]
    exact Ev.now _
  · simp only [if_neg h]
    have hs : l.length ≤ 1048576 := by omega
    obtain ⟨r, a1, a2⟩ := meanHalves_ev l
    refine Ev.bind (toIntS_ev l hs) (Ev.bind a1 (Ev.bind (toIntS_ev l hs) (Ev.bind a2 ?_)))
    simp only [bne_self_eq_false, if_true]
    refine Ev.step (fun k => by simp only [laws_FnExactMeanByHalves.j0]; rw [if_neg (by simp)]) ?_
    refine Ev.bind (toIntS_ev l hs) (Ev.bind (eqIntS_ev l hs) ?_)
    simp only [if_true]
    exact Ev.now _
end Go.Proofs.Ytgcmoeokhinjdaa.Pure
