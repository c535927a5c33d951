/- The program's PlaceOnLegs returns what the reference's PlaceOnLegs returns, for all arguments. No conditions. -/
import Derived.Test.YtgcmoeokhinjdaaQLx8
import Derived.Test.YtgcmoeokhinjdaaPlain
set_option linter.unusedVariables false
set_option linter.unusedSimpArgs false
namespace Go.Proofs.Ytgcmoeokhinjdaa.Pure
open Go.RowKit Go.Proofs.Ytgcmoeokhinjdaa.QL Go.Proofs.YtgcmoeokhinjdaaW.PrintWords Go.Proofs.YtgcmoeokhinjdaaW.PrintLast Go.Proofs.YtgcmoeokhinjdaaW.PrintMore Go.Proofs.Ytgcmoeokhinjdaa.Plain
theorem w64 {x : Int} (h1 : -9223372036854775808 ≤ x) (h2 : x ≤ 9223372036854775807) : wrap64 x = x := by unfold wrap64; omega
def cvLeg (x : S56) : S54 := ⟨x.f0, x.f1⟩
theorem toLegS_l0_ev (l : List S56) (hl : l.length ≤ 1048576) : ∀ i : Int, 0 ≤ i → i ≤ l.length → ∀ acc : List S54, acc.length = l.length → Ev (fun k => laws_toLegS.l0 k l acc i) (acc.take i.toNat ++ (l.drop i.toNat).map cvLeg) := by
  refine downI (fun acc ha => ?_) (fun i h0 h1 ih acc ha => ?_)
  · refine Ev.step (fun k => by simp only [laws_toLegS.l0]; rw [if_neg (by omega)]) ?_
    rw [List.take_of_length_le (by omega), List.drop_of_length_le (by omega), List.map_nil, List.append_nil]
    exact Ev.now _
  · refine Ev.step (fun k => by simp only [laws_toLegS.l0]; rw [if_pos h1, if_pos h0, laws_toLeg.f, Option.bind_some, if_pos (by omega), w64 (x := i + 1) (by omega) (by omega)]) ?_
    have hi := ih (acc.set i.toNat (cvLeg (rd_T56 l i))) (by simpa using ha)
    rw [drop_get l z56 i h0 h1, List.map_cons]
    rw [show (i + 1).toNat = i.toNat + 1 by omega] at hi ⊢
    rw [set_fill acc _ i.toNat _ (by omega)] at hi
    exact hi
theorem toLegS_ev (l : List S56) (hl : l.length ≤ 1048576) : Ev (fun k => laws_toLegS.f k l) (l.map cvLeg) := by
  refine Ev.congr (fun k => by unfold laws_toLegS.f; rw [if_pos (by omega), if_pos (by omega)]) ?_
  have h := toLegS_l0_ev l hl 0 (by omega) (by omega) (List.replicate ((l.length : Int)).toNat z54) (by simp)
  simpa using h
theorem eqLegS_l0_ev (l : List S54) (hl : l.length ≤ 1048576) : ∀ i : Int, 0 ≤ i → i ≤ l.length → Ev (fun k => laws_eqLegS.l0 k l l i) true := by
  refine downI ?_ (fun i h0 h1 ih => ?_)
  · exact Ev.step (fun k => by simp only [laws_eqLegS.l0]; rw [if_neg (by omega)]) (Ev.now _)
  · refine Ev.step (fun k => by simp only [laws_eqLegS.l0, laws_eqLeg.f, if_true, Option.bind_some]; rw [if_pos h1, if_pos h0, if_pos h1, w64 (x := i + 1) (by omega) (by omega)]) ih
theorem eqLegS_ev (l : List S54) (hl : l.length ≤ 1048576) : Ev (fun k => laws_eqLegS.f k l l) true := by
  refine Ev.congr (fun k => by unfold laws_eqLegS.f; rw [if_pos rfl]) ?_
  exact eqLegS_l0_ev l hl 0 (by omega) (by omega)
/-- The bound on the size of what came in. -/
theorem szLegS_cases (l : List S56) (hl : l.length ≤ maxLen) : (l.length ≤ 1048576 ∧ laws_szLegS.f l 1048576 = some (1048576 - (l.length : Int))) ∨ laws_szLegS.f l 1048576 = some (-1) := by
  unfold maxLen at hl
  unfold laws_szLegS.f
  rw [w64 (x := 1048576 - (l.length : Int)) (by omega) (by omega)]
  by_cases h : (1048576 : Int) - l.length < 0
  · right; rw [if_pos h]
  · left; rw [if_neg h]; exact ⟨by omega, rfl⟩
theorem in_eq (a b c : Int) : spec_l1In.f a b c = some (decide (b ≤ a ∧ a ≤ c)) := by
  unfold spec_l1In.f
  by_cases h : a ≥ b
  · rw [if_pos h]; congr 1; simp; omega
  · rw [if_neg h]; congr 1; simp; omega
theorem within_eq (a b c : Int) : impl_within.f a b c = some (decide (b ≤ a ∧ a ≤ c)) := by
  unfold impl_within.f
  by_cases h : a ≥ b
  · rw [if_pos h]; congr 1; simp; omega
  · rw [if_neg h]; congr 1; simp; omega
def okLeg (x : S54) : Bool := decide (1 ≤ x.f0 ∧ x.f0 ≤ 1000) && decide (1 ≤ x.f1 ∧ x.f1 ≤ 100)
def goodLegs (l : List S54) : Bool := decide (1 ≤ (l.length : Int) ∧ (l.length : Int) ≤ 5) && l.all okLeg
theorem okLeg_iff {x : S54} : okLeg x = true ↔ (1 ≤ x.f0 ∧ x.f0 ≤ 1000) ∧ (1 ≤ x.f1 ∧ x.f1 ≤ 100) := by
  unfold okLeg; rw [Bool.and_eq_true, decide_eq_true_iff, decide_eq_true_iff]
theorem reGood_l0_ev (l : List S54) (hl : l.length ≤ 5) : ∀ i : Int, 0 ≤ i → i ≤ l.length → Ev (fun k => spec_reGood.l0 k l l.length i) ((l.drop i.toNat).all okLeg) := by
  refine downI ?_ (fun i h0 h1 ih => ?_)
  · refine Ev.step (fun k => by simp only [spec_reGood.l0]; rw [if_neg (by omega)]) ?_
    rw [List.drop_of_length_le (by omega)]
    exact Ev.now _
  · rw [drop_get l z54 i h0 h1, List.all_cons]
    refine Ev.step (f := fun k => if decide (1 ≤ (rd_T54 l i).f0 ∧ (rd_T54 l i).f0 ≤ 1000) = true then (if decide (1 ≤ (rd_T54 l i).f1 ∧ (rd_T54 l i).f1 ≤ 100) = true then spec_reGood.l0 k l l.length (i + 1) else some false) else some false) (fun k => by simp only [spec_reGood.l0, in_eq, Option.bind_some]; rw [if_pos h1, if_pos h0, if_pos h1, w64 (x := i + 1) (by omega) (by omega)]) ?_
    show Ev _ (okLeg (rd_T54 l i) && _)
    unfold okLeg
    by_cases a : decide (1 ≤ (rd_T54 l i).f0 ∧ (rd_T54 l i).f0 ≤ 1000) = true
    · by_cases b : decide (1 ≤ (rd_T54 l i).f1 ∧ (rd_T54 l i).f1 ≤ 100) = true
      · simp only [a, b, if_true, Bool.true_and]; exact ih
      · simp only [a, b, if_true, Bool.true_and, Bool.false_and, Bool.false_eq_true, if_false]; exact Ev.now _
    · simp only [a, Bool.false_and, Bool.false_eq_true, if_false]; exact Ev.now _
theorem reGood_ev (l : List S54) : Ev (fun k => spec_reGood.f k l) (goodLegs l) := by
  unfold spec_reGood.f goodLegs
  simp only [in_eq, Option.bind_some]
  by_cases h : 1 ≤ (l.length : Int) ∧ (l.length : Int) ≤ 5
  · simp only [h, and_self, decide_true, if_true, Bool.true_and]
    exact reGood_l0_ev l (by omega) 0 (by omega) (by omega)
  · simp only [h, decide_false, Bool.false_and, Bool.false_eq_true, if_false]
    exact Ev.now _
theorem areLegs_1_eq (x : S54) : impl_AreLegs_1.f x.f0 x.f1 = some (!okLeg x) := by
  unfold impl_AreLegs_1.f impl_isLong.f impl_isFast.f okLeg
  simp only [within_eq, Option.bind_some]
  by_cases a : decide (1 ≤ x.f0 ∧ x.f0 ≤ 1000) = true
  · simp [a]
  · simp [a]
theorem indexLeg_ev (l : List S54) (hl : l.length ≤ 5) : ∀ i : Int, 0 ≤ i → i ≤ l.length → ∃ r : Int, Ev (fun k => impl_Leg_87.l0 k l l.length i) r ∧ decide (r ≥ 0) = !((l.drop i.toNat).all okLeg) := by
  refine downI ?_ (fun i h0 h1 ih => ?_)
  · refine ⟨-1, Ev.step (fun k => by simp only [impl_Leg_87.l0]; rw [if_neg (by omega)]) (Ev.now _), ?_⟩
    rw [List.drop_of_length_le (by omega)]
    rfl
  · rw [drop_get l z54 i h0 h1, List.all_cons]
    have st : ∀ k, impl_Leg_87.l0 (k + 1) l l.length i = if (!okLeg (rd_T54 l i)) = true then some i else impl_Leg_87.l0 k l l.length (i + 1) := fun k => by
      simp only [impl_Leg_87.l0, areLegs_1_eq, Option.bind_some]; rw [if_pos h1, if_pos h0, if_pos h1, w64 (x := i + 1) (by omega) (by omega)]
    show ∃ r : Int, _ ∧ _ = !(okLeg (rd_T54 l i) && _)
    cases a : okLeg (rd_T54 l i)
    · exact ⟨i, Ev.step (fun k => by rw [st, a]; rfl) (Ev.now i), by simp [h0]⟩
    · obtain ⟨r, h2, h3⟩ := ih
      exact ⟨r, Ev.step (fun k => by rw [st, a]; rfl) h2, by simpa using h3⟩
theorem areLegs_ev (l : List S54) : Ev (fun k => impl_AreLegs.f k l) (goodLegs l) := by
  unfold impl_AreLegs.f goodLegs
  simp only [within_eq, Option.bind_some]
  by_cases h : 1 ≤ (l.length : Int) ∧ (l.length : Int) ≤ 5
  · simp only [h, and_self, decide_true, if_true, Bool.true_and]
    obtain ⟨r, h1, h2⟩ := indexLeg_ev l (by omega) 0 (by omega) (by omega)
    unfold impl_Leg_75.f impl_Leg_87.f
    refine Ev.bind (Ev.bind h1 (Ev.now _)) ?_
    rw [h2]
    simp only [Bool.not_not]
    exact Ev.now _
  · simp only [h, decide_false, Bool.false_and, Bool.false_eq_true, if_false]
    exact Ev.now _
theorem good_len {l : List S54} (h : goodLegs l = true) : 1 ≤ l.length ∧ l.length ≤ 5 := by
  unfold goodLegs at h
  rw [Bool.and_eq_true, decide_eq_true_iff] at h
  omega
theorem good_ok {l : List S54} (h : goodLegs l = true) : ∀ x, x ∈ l → okLeg x = true := by
  unfold goodLegs at h
  rw [Bool.and_eq_true] at h
  exact List.all_eq_true.1 h.2
def longI (l : List S54) : Int := (l.map (fun x => x.f0)).sum
theorem longI_cons (x : S54) (l : List S54) : longI (x :: l) = x.f0 + longI l := by simp [longI]
theorem longI_bd : ∀ (l : List S54), (∀ x, x ∈ l → okLeg x = true) → (l.length : Int) ≤ longI l ∧ longI l ≤ 1000 * l.length := by
  intro l
  induction l with
  | nil => intro _; simp [longI]
  | cons x l ih =>
    intro h
    rw [longI_cons]
    have h1 := okLeg_iff.1 (h x List.mem_cons_self)
    have h2 := ih (fun y hy => h y (List.mem_cons_of_mem _ hy))
    simp only [List.length_cons]
    omega
theorem reLong_l0_ev (l : List S54) (hl : l.length ≤ 5) (ok : ∀ x, x ∈ l → okLeg x = true) : ∀ i : Int, 0 ≤ i → i ≤ l.length → ∀ s : Int, 0 ≤ s → s ≤ 1000 * i → Ev (fun k => spec_reLong.l0 k s l l.length i) (s + longI (l.drop i.toNat)) := by
  refine downI (fun s h0 h1 => ?_) (fun i h0 h1 ih s hs hs2 => ?_)
  · refine Ev.step (fun k => by simp only [spec_reLong.l0]; rw [if_neg (by omega)]) ?_
    rw [List.drop_of_length_le (by omega)]
    simp only [longI, List.map_nil, List.sum_nil, Int.add_zero]
    exact Ev.now _
  · have hx := okLeg_iff.1 (ok _ (get_mem l z54 i h0 h1))
    rw [drop_get l z54 i h0 h1, longI_cons, ← Int.add_assoc]
    have e : wrap64 (s + (rd_T54 l i).f0) = s + (l.getD i.toNat z54).f0 := w64 (x := s + (l.getD i.toNat z54).f0) (by omega) (by omega)
    refine Ev.step (fun k => by simp only [spec_reLong.l0]; rw [if_pos h1, if_pos h0, if_pos h1, w64 (x := i + 1) (by omega) (by omega), e]) ?_
    exact ih _ (by omega) (by omega)
theorem longOf_l0_ev (l : List S54) (hl : l.length ≤ 5) (ok : ∀ x, x ∈ l → okLeg x = true) : ∀ i : Int, 0 ≤ i → i ≤ l.length → ∀ s : Int, 0 ≤ s → s ≤ 1000 * i → Ev (fun k => impl_longOf.l0 k s l l.length i) (s + longI (l.drop i.toNat)) := by
  refine downI (fun s h0 h1 => ?_) (fun i h0 h1 ih s hs hs2 => ?_)
  · refine Ev.step (fun k => by simp only [impl_longOf.l0]; rw [if_neg (by omega)]) ?_
    rw [List.drop_of_length_le (by omega)]
    simp only [longI, List.map_nil, List.sum_nil, Int.add_zero]
    exact Ev.now _
  · have hx := okLeg_iff.1 (ok _ (get_mem l z54 i h0 h1))
    rw [drop_get l z54 i h0 h1, longI_cons, ← Int.add_assoc]
    have e : wrap64 (s + (rd_T54 l i).f0) = s + (l.getD i.toNat z54).f0 := w64 (x := s + (l.getD i.toNat z54).f0) (by omega) (by omega)
    refine Ev.step (fun k => by simp only [impl_longOf.l0]; rw [if_pos h1, if_pos h0, if_pos h1, w64 (x := i + 1) (by omega) (by omega), e]) ?_
    exact ih _ (by omega) (by omega)
theorem reLong_ev (l : List S54) (hl : l.length ≤ 5) (ok : ∀ x, x ∈ l → okLeg x = true) : Ev (fun k => spec_reLong.f k l) (longI l) := by
  unfold spec_reLong.f
  have h := reLong_l0_ev l hl ok 0 (by omega) (by omega) 0 (by omega) (by omega)
  simpa using h
theorem longOf_ev (l : List S54) (hl : l.length ≤ 5) (ok : ∀ x, x ∈ l → okLeg x = true) : Ev (fun k => impl_longOf.f k l) (longI l) := by
  unfold impl_longOf.f
  have h := longOf_l0_ev l hl ok 0 (by omega) (by omega) 0 (by omega) (by omega)
  simpa using h
theorem most_eq (a b : Int) : spec_l1Most.f a b = some (if a > b then a else b) := by
  unfold spec_l1Most.f; split <;> rfl
theorem l1Abs_eq {a : Int} (h1 : -4611686018427387904 ≤ a) (h2 : a ≤ 4611686018427387904) : spec_l1Abs.f a = some (if a < -a then -a else a) := by
  unfold spec_l1Abs.f
  rw [most_eq]
  have e : wrap64 (-a) = -a := by unfold wrap64; omega
  rw [e]
  simp only [Option.bind_some]
  congr 1
  split <;> split <;> omega
theorem divisorOf_ev : ∀ (n : Nat) (a b : Int), 0 ≤ a → 0 ≤ b → b.toNat ≤ n → Ev (fun k => impl_divisorOf.l0 k a b) (gg a b) := by
  intro n
  induction n with
  | zero =>
    intro a b ha hb hn
    obtain rfl : b = 0 := by omega
    refine Ev.step (fun k => by simp only [impl_divisorOf.l0]; rw [if_neg (by omega)]) ?_
    rw [gg_zero ha]; exact Ev.now a
  | succ n ih =>
    intro a b ha hb hn
    by_cases h : 0 < b
    · obtain ⟨g1, g2, g3⟩ := gg_step ha h
      refine Ev.step (fun k => by simp only [impl_divisorOf.l0]; rw [if_pos h, if_neg (by omega)]) ?_
      rw [← g1]; exact ih b (a.tmod b) hb g2 (by omega)
    · obtain rfl : b = 0 := by omega
      refine Ev.step (fun k => by simp only [impl_divisorOf.l0]; rw [if_neg (by omega)]) ?_
      rw [gg_zero ha]; exact Ev.now a
theorem absOf_eq {a : Int} (h1 : -4611686018427387904 ≤ a) (h2 : a ≤ 4611686018427387904) : impl_absOf.f a = some (if a < -a then -a else a) := by
  unfold impl_absOf.f mx
  have e : wrap64 (-a) = -a := by unfold wrap64; omega
  rw [e]
theorem tdiv_lo1 {n d : Int} (hd : 0 < d) (h1 : -4611686018427387904 ≤ n) (h2 : n ≤ 4611686018427387904) : wrap64 (Int.tdiv n (gg n d)) = (lo n d).1 := by
  rw [Int.tdiv_eq_ediv_of_dvd (gg_l n d)]
  have := lo_bd1 hd h1 h2
  show wrap64 (lo n d).1 = _
  unfold wrap64; omega
theorem tdiv_lo2 {n d : Int} (hd : 0 < d) (h2 : d ≤ 4611686018427387904) : wrap64 (Int.tdiv d (gg n d)) = (lo n d).2 := by
  rw [Int.tdiv_eq_ediv_of_dvd (gg_r n d)]
  have := lo_le2 n hd
  have := lo_pos n hd
  show wrap64 (lo n d).2 = _
  unfold wrap64; omega
theorem lowest_ev {n d : Int} (hd : 0 < d) (h1 : -4611686018427387904 ≤ n) (h2 : n ≤ 4611686018427387904) (h3 : d ≤ 4611686018427387904) : Ev (fun k => impl_lowest.f k n d) (lo n d) := by
  refine Ev.congr (fun k => by unfold impl_lowest.f impl_divisorOf.f; rw [if_neg (by omega), absOf_eq h1 h2, Option.bind_some]) ?_
  have hg := gg_pos (n := n) hd
  refine Ev.bind (divisorOf_ev _ d _ (Int.le_of_lt hd) (by split <;> omega) (Nat.le_refl _)) ?_
  have e : gg d (if n < -n then -n else n) = gg n d := by rw [gg_comm, gg_abs]
  rw [e]
  simp only [if_neg (show ¬ gg n d = 0 by omega), tdiv_lo1 hd h1 h2, tdiv_lo2 (n := n) hd h3]
  exact Ev.now _
theorem meLow_l0_ev (p q : Int) : ∀ (n : Nat) (a b : Int), 0 ≤ a → 0 ≤ b → b.toNat ≤ n → 0 < gg a b → Ev (fun k => spec_meLow.l0 k p q a b) (wrap64 (Int.tdiv p (gg a b)), wrap64 (Int.tdiv q (gg a b))) := by
  intro n
  induction n with
  | zero =>
    intro a b ha hb hn hg
    obtain rfl : b = 0 := by omega
    rw [gg_zero ha] at hg ⊢
    refine Ev.step (fun k => by simp only [spec_meLow.l0]; rw [if_neg (by omega), if_neg (by omega)]) ?_
    exact Ev.now _
  | succ n ih =>
    intro a b ha hb hn hg
    by_cases h : 0 < b
    · obtain ⟨g1, g2, g3⟩ := gg_step ha h
      refine Ev.step (fun k => by simp only [spec_meLow.l0]; rw [if_pos h, if_neg (by omega)]) ?_
      rw [← g1] at hg ⊢; exact ih b (a.tmod b) hb g2 (by omega) hg
    · obtain rfl : b = 0 := by omega
      rw [gg_zero ha] at hg ⊢
      refine Ev.step (fun k => by simp only [spec_meLow.l0]; rw [if_neg (by omega), if_neg (by omega)]) ?_
      exact Ev.now _
theorem meLow_ev {n d : Int} (hd : 0 < d) (h1 : -4611686018427387904 ≤ n) (h2 : n ≤ 4611686018427387904) (h3 : d ≤ 4611686018427387904) : Ev (fun k => spec_meLow.f k n d) (lo n d) := by
  refine Ev.congr (fun k => by unfold spec_meLow.f; rw [if_neg (by omega)]) ?_
  refine Ev.step (fun k => by simp only [spec_meLow.j0]; rw [l1Abs_eq h1 h2, Option.bind_some]) ?_
  have hg := gg_pos (n := n) hd
  have e := gg_abs n d
  have h := meLow_l0_ev n d _ (if n < -n then -n else n) d (by split <;> omega) (Int.le_of_lt hd) (Nat.le_refl _) (by rw [e]; exact hg)
  rw [e, tdiv_lo1 hd h1 h2, tdiv_lo2 (n := n) hd h3] at h
  exact h
def tstep (t : Int × Int) (x : S54) : Int × Int := lo (t.1 * x.f1 + x.f0 * t.2) (t.2 * x.f1)
def timeL (l : List S54) : Int × Int := l.foldl tstep (0, 1)
/-- A time for n legs. -/
structure Tm (n : Nat) (t : Int × Int) : Prop where
  nn : 0 ≤ t.1
  pos : 1 ≤ n → 0 < t.1
  rat : t.1 ≤ (1000 * (n : Int)) * t.2
  one : 1 ≤ t.2
  den : t.2 ≤ pw n
  low : gg t.1 t.2 = 1
theorem Tm.bd {n : Nat} {t : Int × Int} (h : Tm n t) (hn : n ≤ 5) : t.1 ≤ 50000000000000 ∧ t.2 ≤ 10000000000 := by
  have h1 := h.den
  have h2 := pw_le hn
  have h3 := h.rat
  have h4 := mul_bd (a := 1000 * (n : Int)) (b := t.2) (A := 5000) (B := 10000000000) (by omega) (by omega) (by have := h.one; omega) (by omega)
  omega
theorem tm_zero : Tm 0 (0, 1) := ⟨by simp, fun h => absurd h (by omega), by simp, by simp, by simp [pw], by unfold gg; simp⟩
/-- What one leg more comes to, with no overflow. -/
structure Step (n : Nat) (t : Int × Int) (x : S54) : Prop where
  next : Tm (n + 1) (tstep t x)
  a : wrap64 (t.1 * x.f1) = t.1 * x.f1
  b : wrap64 (x.f0 * t.2) = x.f0 * t.2
  c : wrap64 (t.1 * x.f1 + x.f0 * t.2) = t.1 * x.f1 + x.f0 * t.2
  d : wrap64 (t.2 * x.f1) = t.2 * x.f1
  dp : 0 < t.2 * x.f1
  n1 : 0 ≤ t.1 * x.f1 + x.f0 * t.2 ∧ t.1 * x.f1 + x.f0 * t.2 ≤ 4611686018427387904
  d1 : t.2 * x.f1 ≤ 4611686018427387904
theorem step_of {n : Nat} {t : Int × Int} {x : S54} (h : Tm n t) (hn : n ≤ 4) (hx : okLeg x = true) : Step n t x := by
  obtain ⟨⟨l1, l2⟩, f1, f2⟩ := okLeg_iff.1 hx
  obtain ⟨t1, t2⟩ := h.bd (by omega)
  have t3 := h.nn
  have t4 := h.one
  have a := mul_bd (a := t.1) (b := x.f1) (A := 50000000000000) (B := 100) t3 t1 (by omega) f2
  have b := mul_bd (a := x.f0) (b := t.2) (A := 1000) (B := 10000000000) (by omega) l2 (by omega) t2
  have d := mul_bd (a := t.2) (b := x.f1) (A := 10000000000) (B := 100) (by omega) t2 (by omega) f2
  have dp := mul_pos (a := t.2) (b := x.f1) (by omega) (by omega)
  have bp := mul_pos (a := x.f0) (b := t.2) (by omega) (by omega)
  refine ⟨⟨lo_nonneg dp (by omega), fun _ => lo_pos1 dp (by omega), lo_ratio dp ?_, lo_pos _ dp, ?_, lo_gcd _ dp⟩, w64 (by omega) (by omega), w64 (by omega) (by omega), w64 (by omega) (by omega), w64 (by omega) (by omega), dp, ⟨by omega, by omega⟩, by omega⟩
  · have r := mul_le_r (c := x.f1) (by omega) h.rat
    have s1 := mul_le_r (c := t.2) (by omega) l2
    have s2 := mul_le_l (c := 1000 * t.2) (by omega) f1
    have e : (1000 * ((n + 1 : Nat) : Int)) * (t.2 * x.f1) = 1000 * (n : Int) * t.2 * x.f1 + 1000 * t.2 * x.f1 := by
      rw [show ((n + 1 : Nat) : Int) = (n : Int) + 1 by omega]
      grind
    omega
  · refine Int.le_trans (lo_le2 _ dp) ?_
    have := h.den
    have p := pw_pos n
    have := mul_bd (a := t.2) (b := x.f1) (A := pw n) (B := 100) (by omega) h.den (by omega) f2
    simp only [pw]
    omega
theorem tm_foldl : ∀ (l : List S54) (n : Nat) (t : Int × Int), n + l.length ≤ 5 → Tm n t → (∀ x, x ∈ l → okLeg x = true) → Tm (n + l.length) (l.foldl tstep t) := by
  intro l
  induction l with
  | nil => intro n t _ h _; exact h
  | cons x l ih =>
    intro n t hn h ok
    simp only [List.length_cons] at hn
    have := ih (n + 1) (tstep t x) (by omega) (step_of h (by omega) (ok x List.mem_cons_self)).next (fun y hy => ok y (List.mem_cons_of_mem _ hy))
    simp only [List.foldl_cons, List.length_cons]
    rw [show n + (l.length + 1) = n + 1 + l.length by omega]
    exact this
theorem timeL_tm (l : List S54) (hl : l.length ≤ 5) (ok : ∀ x, x ∈ l → okLeg x = true) : Tm l.length (timeL l) := by
  have := tm_foldl l 0 (0, 1) (by omega) tm_zero ok
  rw [Nat.zero_add] at this
  exact this
theorem reTime_l0_ev (l : List S54) (hl : l.length ≤ 5) (ok : ∀ x, x ∈ l → okLeg x = true) : ∀ i : Int, 0 ≤ i → i ≤ l.length → ∀ t : Int × Int, Tm i.toNat t → Ev (fun k => spec_reTime.l0 k t.1 t.2 l l.length i) ((l.drop i.toNat).foldl tstep t) := by
  refine downI (fun t h => ?_) (fun i h0 h1 ih t h => ?_)
  · refine Ev.step (fun k => by simp only [spec_reTime.l0]; rw [if_neg (by omega)]) ?_
    rw [List.drop_of_length_le (by omega)]
    exact Ev.now _
  · have s := step_of h (by omega) (ok _ (get_mem l z54 i h0 h1))
    have n1 := s.n1
    rw [drop_get l z54 i h0 h1, List.foldl_cons]
    refine Ev.step (fun k => by simp only [spec_reTime.l0, rd_T54]; rw [if_pos h1, if_pos h0, if_pos h1, w64 (x := i + 1) (by omega) (by omega), s.a, s.b, s.c, s.d]) ?_
    refine Ev.bind (meLow_ev s.dp (by omega) s.n1.2 s.d1) ?_
    have := s.next
    rw [show i.toNat + 1 = (i + 1).toNat by omega] at this
    exact ih _ this
theorem timeOf_l0_ev (l : List S54) (hl : l.length ≤ 5) (ok : ∀ x, x ∈ l → okLeg x = true) : ∀ i : Int, 0 ≤ i → i ≤ l.length → ∀ t : Int × Int, Tm i.toNat t → Ev (fun k => impl_timeOf.l0 k t.1 t.2 l l.length i) ((l.drop i.toNat).foldl tstep t) := by
  refine downI (fun t h => ?_) (fun i h0 h1 ih t h => ?_)
  · refine Ev.step (fun k => by simp only [impl_timeOf.l0]; rw [if_neg (by omega)]) ?_
    rw [List.drop_of_length_le (by omega)]
    exact Ev.now _
  · have s := step_of h (by omega) (ok _ (get_mem l z54 i h0 h1))
    have n1 := s.n1
    rw [drop_get l z54 i h0 h1, List.foldl_cons]
    refine Ev.step (fun k => by simp only [impl_timeOf.l0, rd_T54]; rw [if_pos h1, if_pos h0, if_pos h1, w64 (x := i + 1) (by omega) (by omega), s.a, s.b, s.c, s.d]) ?_
    refine Ev.bind (lowest_ev s.dp (by omega) s.n1.2 s.d1) ?_
    have := s.next
    rw [show i.toNat + 1 = (i + 1).toNat by omega] at this
    exact ih _ this
theorem reTime_ev (l : List S54) (hl : l.length ≤ 5) (ok : ∀ x, x ∈ l → okLeg x = true) : Ev (fun k => spec_reTime.f k l) (timeL l) := by
  unfold spec_reTime.f timeL
  have h := reTime_l0_ev l hl ok 0 (by omega) (by omega) (0, 1) tm_zero
  simpa using h
theorem timeOf_ev (l : List S54) (hl : l.length ≤ 5) (ok : ∀ x, x ∈ l → okLeg x = true) : Ev (fun k => impl_timeOf.f k l) (timeL l) := by
  unfold impl_timeOf.f timeL
  have h := timeOf_l0_ev l hl ok 0 (by omega) (by omega) (0, 1) tm_zero
  simpa using h
/-- The leg with the index j ends later than the time. -/
def onStop (l : List S54) (num den j : Int) : Prop := num * (timeL (l.take (j + 1).toNat)).2 < (timeL (l.take (j + 1).toNat)).1 * den
theorem take_ok {l : List S54} (ok : ∀ x, x ∈ l → okLeg x = true) (n : Nat) : ∀ x, x ∈ l.take n → okLeg x = true := fun x hx => ok x (List.mem_of_mem_take hx)
theorem tmt (l : List S54) (hl : l.length ≤ 5) (ok : ∀ x, x ∈ l → okLeg x = true) (n : Nat) : Tm (l.take n).length (timeL (l.take n)) := timeL_tm _ (by simp; omega) (take_ok ok n)
theorem onW (l : List S54) (hl : l.length ≤ 5) (ok : ∀ x, x ∈ l → okLeg x = true) {num den : Int} (hn : 0 ≤ num ∧ num ≤ 100000) (hd : 1 ≤ den ∧ den ≤ 1000) (n : Nat) :
    wrap64 (num * (timeL (l.take n)).2) = num * (timeL (l.take n)).2 ∧ wrap64 ((timeL (l.take n)).1 * den) = (timeL (l.take n)).1 * den ∧ (0 ≤ num * (timeL (l.take n)).2 ∧ num * (timeL (l.take n)).2 ≤ 1000000000000000) ∧ (0 ≤ (timeL (l.take n)).1 * den ∧ (timeL (l.take n)).1 * den ≤ 50000000000000000) := by
  have t := tmt l hl ok n
  have b := t.bd (by simp; omega)
  have o := t.one
  have z := t.nn
  have m1 := mul_bd (a := num) (b := (timeL (l.take n)).2) (A := 100000) (B := 10000000000) hn.1 hn.2 (by omega) b.2
  have m2 := mul_bd (a := (timeL (l.take n)).1) (b := den) (A := 50000000000000) (B := 1000) z b.1 (by omega) hd.2
  exact ⟨w64 (by omega) (by omega), w64 (by omega) (by omega), by omega, by omega⟩
theorem reOn_ev (l : List S54) (hl : l.length ≤ 5) (ok : ∀ x, x ∈ l → okLeg x = true) {num den : Int} (hn : 0 ≤ num ∧ num ≤ 100000) (hd : 1 ≤ den ∧ den ≤ 1000) : ∀ i : Int, 0 ≤ i → i ≤ l.length → ∃ n : Int, Ev (fun k => spec_reOn.l0 k l num den i) n ∧ i ≤ n ∧ n ≤ l.length ∧ (∀ j, i ≤ j → j < n → ¬ onStop l num den j) ∧ (n < l.length → onStop l num den n) := by
  refine downI ?_ (fun i h0 h1 ih => ?_)
  · exact ⟨l.length, Ev.step (fun k => by simp only [spec_reOn.l0]; rw [if_neg (by omega)]) (Ev.now _), Int.le_refl _, Int.le_refl _, fun j a b => by omega, fun h => by omega⟩
  · obtain ⟨w1, w2, _⟩ := onW l hl ok hn hd (i + 1).toNat
    have ev := reTime_ev (l.take (i + 1).toNat) (by simp; omega) (take_ok ok _)
    by_cases c : onStop l num den i
    · refine ⟨i, Ev.step (fun k => by simp only [spec_reOn.l0]; rw [if_pos h1, w64 (x := i + 1) (by omega) (by omega), if_pos (by omega), if_pos (by omega)]) (Ev.bind ev ?_), Int.le_refl _, by omega, fun j a b => by omega, fun _ => c⟩
      simp only [w1, w2]
      unfold onStop at c
      simp only [if_pos c]
      exact Ev.now _
    · obtain ⟨n, e, a1, a2, a3, a4⟩ := ih
      refine ⟨n, Ev.step (fun k => by simp only [spec_reOn.l0]; rw [if_pos h1, w64 (x := i + 1) (by omega) (by omega), if_pos (by omega), if_pos (by omega)]) (Ev.bind ev ?_), by omega, a2, fun j b1 b2 => ?_, a4⟩
      · simp only [w1, w2]
        unfold onStop at c
        simp only [if_neg c]
        exact e
      · by_cases e2 : j = i
        · rw [e2]; exact c
        · exact a3 j (by omega) b2
theorem legAt_l0_ev (l : List S54) (hl1 : 1 ≤ l.length) (hl : l.length ≤ 5) (ok : ∀ x, x ∈ l → okLeg x = true) {num den : Int} (hn : 0 ≤ num ∧ num ≤ 100000) (hd : 1 ≤ den ∧ den ≤ 1000) : ∀ i : Int, 0 ≤ i → i ≤ (l.length : Int) - 1 → ∃ n : Int, Ev (fun k => impl_legAt.l0 k l num den ((l.length : Int) - 1) i) n ∧ i ≤ n ∧ n ≤ (l.length : Int) - 1 ∧ (∀ j, i ≤ j → j < n → ¬ onStop l num den j) ∧ (n < (l.length : Int) - 1 → onStop l num den n) := by
  refine downI ?_ (fun i h0 h1 ih => ?_)
  · exact ⟨(l.length : Int) - 1, Ev.step (fun k => by simp only [impl_legAt.l0]; rw [if_neg (by omega), w64 (x := (l.length : Int) - 1) (by omega) (by omega)]) (Ev.now _), Int.le_refl _, Int.le_refl _, fun j a b => by omega, fun h => by omega⟩
  · obtain ⟨w1, w2, _⟩ := onW l hl ok hn hd (i + 1).toNat
    have ev := timeOf_ev (l.take (i + 1).toNat) (by simp; omega) (take_ok ok _)
    by_cases c : onStop l num den i
    · refine ⟨i, Ev.step (fun k => by simp only [impl_legAt.l0]; rw [if_pos h1, w64 (x := i + 1) (by omega) (by omega), if_pos (by omega), if_pos (by omega)]) (Ev.bind ev ?_), Int.le_refl _, by omega, fun j a b => by omega, fun _ => c⟩
      simp only [w1, w2]
      unfold onStop at c
      simp only [if_pos c]
      exact Ev.now _
    · obtain ⟨n, e, a1, a2, a3, a4⟩ := ih
      refine ⟨n, Ev.step (fun k => by simp only [impl_legAt.l0]; rw [if_pos h1, w64 (x := i + 1) (by omega) (by omega), if_pos (by omega), if_pos (by omega)]) (Ev.bind ev ?_), by omega, a2, fun j b1 b2 => ?_, a4⟩
      · simp only [w1, w2]
        unfold onStop at c
        simp only [if_neg c]
        exact e
      · by_cases e2 : j = i
        · rw [e2]; exact c
        · exact a3 j (by omega) b2
/-- Both searches: the reference's n, the program's m, the lesser one of n and the last leg. -/
theorem legs_on (l : List S54) (g : goodLegs l = true) {num den : Int} (hn : 0 ≤ num ∧ num ≤ 100000) (hd : 1 ≤ den ∧ den ≤ 1000) :
    ∃ n m : Int, Ev (fun k => spec_reOn.f k l num den) n ∧ Ev (fun k => impl_legAt.f k l num den) m ∧ 0 ≤ n ∧ n ≤ l.length ∧ m = (if n < (l.length : Int) - 1 then n else (l.length : Int) - 1) ∧ (∀ j, 0 ≤ j → j < n → ¬ onStop l num den j) ∧ (n < l.length → onStop l num den n) := by
  have hl := good_len g
  have ok := good_ok g
  obtain ⟨n, e, a1, a2, a3, a4⟩ := reOn_ev l hl.2 ok hn hd 0 (by omega) (by omega)
  obtain ⟨m, f, b1, b2, b3, b4⟩ := legAt_l0_ev l hl.1 hl.2 ok hn hd 0 (by omega) (by omega)
  refine ⟨n, m, e, ?_, a1, a2, ?_, a3, a4⟩
  · unfold impl_legAt.f
    rw [w64 (x := (l.length : Int) - 1) (by omega) (by omega)]
    exact f
  · by_cases c1 : m < n
    · have := a3 m b1 c1
      have : ¬ m < (l.length : Int) - 1 := fun h => this (b4 h)
      split <;> omega
    · by_cases c2 : n < m
      · exact absurd (a4 (by omega)) (b3 n a1 c2)
      · split <;> omega
def momB (num den : Int) : Bool := decide (0 ≤ num ∧ num ≤ 100000) && decide (1 ≤ den ∧ den ≤ 1000)
theorem mom_eq (num den : Int) : spec_reMoment.f num den = some (momB num den) := by
  unfold spec_reMoment.f momB
  simp only [in_eq, Option.bind_some]
  by_cases h : 0 ≤ num ∧ num ≤ 100000
  · simp [h]
  · simp [h]
theorem legTime_eq (num den : Int) : impl_isLegTime.f num den = some (momB num den) := by
  unfold impl_isLegTime.f momB
  simp only [within_eq, Option.bind_some]
  by_cases h : 0 ≤ num ∧ num ≤ 100000
  · simp [h]
  · simp [h]
theorem momB_iff {num den : Int} : momB num den = true ↔ (0 ≤ num ∧ num ≤ 100000) ∧ (1 ≤ den ∧ den ≤ 1000) := by
  unfold momB; rw [Bool.and_eq_true, decide_eq_true_iff, decide_eq_true_iff]
theorem fraction_ev {n d : Int} (hd : 0 < d) (h1 : -4611686018427387904 ≤ n) (h2 : n ≤ 4611686018427387904) (h3 : d ≤ 4611686018427387904) : Ev (fun k => impl_fraction.f k n d) ((lo n d).1, (lo n d).2, true) := by
  unfold impl_fraction.f
  simp only [if_neg (show ¬ d = 0 by omega)]
  exact Ev.bind (lowest_ev hd h1 h2 h3) (Ev.now _)
theorem timeL_take (l : List S54) (i : Int) (h0 : 0 ≤ i) (h1 : i < l.length) : timeL (l.take (i + 1).toNat) = tstep (timeL (l.take i.toNat)) (rd_T54 l i) := by
  rw [take_get l z54 i h0 h1]
  unfold timeL
  rw [List.foldl_append]
  rfl
/-- When a leg ends later than the time. -/
theorem stop_iff (l : List S54) (hl : l.length ≤ 5) (ok : ∀ x, x ∈ l → okLeg x = true) (num den : Int) {i : Int} (h0 : 0 ≤ i) (h1 : i < l.length) :
    onStop l num den i ↔ (rd_T54 l i).f1 * (num * (timeL (l.take i.toNat)).2 - (timeL (l.take i.toNat)).1 * den) < (rd_T54 l i).f0 * (timeL (l.take i.toNat)).2 * den := by
  have t := tmt l hl ok i.toNat
  have x := okLeg_iff.1 (ok _ (get_mem l z54 i h0 h1))
  unfold onStop
  rw [timeL_take l i h0 h1]
  generalize timeL (l.take i.toNat) = T at *
  change (1 ≤ (rd_T54 l i).f0 ∧ (rd_T54 l i).f0 ≤ 1000) ∧ (1 ≤ (rd_T54 l i).f1 ∧ (rd_T54 l i).f1 ≤ 100) at x
  generalize rd_T54 l i = X at *
  unfold tstep
  have o := t.one
  have dp : 0 < T.2 * X.f1 := mul_pos (by omega) (by omega)
  have cr := lo_cross (T.1 * X.f1 + X.f0 * T.2) (T.2 * X.f1)
  have Dp := lo_pos (T.1 * X.f1 + X.f0 * T.2) dp
  generalize (lo (T.1 * X.f1 + X.f0 * T.2) (T.2 * X.f1)).1 = N at *
  generalize (lo (T.1 * X.f1 + X.f0 * T.2) (T.2 * X.f1)).2 = D at *
  have lt_iff : ∀ {a b c : Int}, 0 < c → (a < b ↔ a * c < b * c) := fun {a b c} hc => ⟨fun h => Int.mul_lt_mul_of_pos_right h hc, fun h => Int.lt_of_mul_lt_mul_right h (Int.le_of_lt hc)⟩
  rw [lt_iff dp]
  rw [show N * den * (T.2 * X.f1) = (N * (T.2 * X.f1)) * den by grind, cr]
  rw [show num * D * (T.2 * X.f1) = (num * (T.2 * X.f1)) * D by grind, show (T.1 * X.f1 + X.f0 * T.2) * D * den = ((T.1 * X.f1 + X.f0 * T.2) * den) * D by grind]
  rw [← lt_iff Dp]
  have e1 : X.f1 * (num * T.2 - T.1 * den) = num * (T.2 * X.f1) - T.1 * X.f1 * den := by grind
  have e2 : (T.1 * X.f1 + X.f0 * T.2) * den = T.1 * X.f1 * den + X.f0 * T.2 * den := by grind
  rw [e1, e2]
  omega
/-- The numbers of a place on the leg i. -/
structure Plc (l : List S54) (num den i : Int) (T : Int × Int) (X : S54) : Prop where
  nn : 0 ≤ num * T.2 - T.1 * den
  a : wrap64 (num * T.2) = num * T.2
  b : wrap64 (T.1 * den) = T.1 * den
  c : wrap64 (num * T.2 - T.1 * den) = num * T.2 - T.1 * den
  d : wrap64 (X.f1 * (num * T.2 - T.1 * den)) = X.f1 * (num * T.2 - T.1 * den)
  e : wrap64 (X.f0 * T.2) = X.f0 * T.2
  f : wrap64 (X.f0 * T.2 * den) = X.f0 * T.2 * den
  bd1 : num * T.2 - T.1 * den ≤ 1000000000000000
  tp : 1 ≤ T.2 ∧ T.2 ≤ 10000000000
  xp : (1 ≤ X.f0 ∧ X.f0 ≤ 1000) ∧ (1 ≤ X.f1 ∧ X.f1 ≤ 100)
  g : wrap64 (T.2 * den) = T.2 * den
  gp : 0 < T.2 * den ∧ T.2 * den ≤ 10000000000000
  on : 0 ≤ X.f1 * (num * T.2 - T.1 * den) ∧ X.f1 * (num * T.2 - T.1 * den) ≤ 100000000000000000
  lp : 0 ≤ longI (l.take i.toNat) ∧ longI (l.take i.toNat) ≤ 5000
  h : wrap64 (longI (l.take i.toNat) * T.2) = longI (l.take i.toNat) * T.2
  k : wrap64 (longI (l.take i.toNat) * T.2 * den) = longI (l.take i.toNat) * T.2 * den
  m : wrap64 (longI (l.take i.toNat) * T.2 * den + X.f1 * (num * T.2 - T.1 * den)) = longI (l.take i.toNat) * T.2 * den + X.f1 * (num * T.2 - T.1 * den)
  mp : 0 ≤ longI (l.take i.toNat) * T.2 * den + X.f1 * (num * T.2 - T.1 * den) ∧ longI (l.take i.toNat) * T.2 * den + X.f1 * (num * T.2 - T.1 * den) ≤ 4611686018427387904
theorem plc (l : List S54) (hl : l.length ≤ 5) (ok : ∀ x, x ∈ l → okLeg x = true) {num den : Int} (hn : 0 ≤ num ∧ num ≤ 100000) (hd : 1 ≤ den ∧ den ≤ 1000) {i : Int} (h0 : 0 ≤ i) (h1 : i < l.length) (hs : ∀ j, 0 ≤ j → j < i → ¬ onStop l num den j) :
    Plc l num den i (timeL (l.take i.toNat)) (rd_T54 l i) := by
  have t := tmt l hl ok i.toNat
  have b := t.bd (by simp; omega)
  have o := t.one
  have z := t.nn
  obtain ⟨w1, w2, w3, w4⟩ := onW l hl ok hn hd i.toNat
  have x := okLeg_iff.1 (ok _ (get_mem l z54 i h0 h1))
  change (1 ≤ (rd_T54 l i).f0 ∧ (rd_T54 l i).f0 ≤ 1000) ∧ (1 ≤ (rd_T54 l i).f1 ∧ (rd_T54 l i).f1 ≤ 100) at x
  have nn : (timeL (l.take i.toNat)).1 * den ≤ num * (timeL (l.take i.toNat)).2 := by
    by_cases e : i = 0
    · subst e
      simp [timeL]
      omega
    · have := hs (i - 1) (by omega) (by omega)
      unfold onStop at this
      rw [show i - 1 + 1 = i by omega] at this
      omega
  have L := longI_bd (l.take i.toNat) (take_ok ok _)
  have Ll : (l.take i.toNat).length ≤ 5 := by simp; omega
  generalize hT : timeL (l.take i.toNat) = T at *
  generalize rd_T54 l i = X at *
  generalize hQ : longI (l.take i.toNat) = Q at *
  have m1 := mul_bd (a := X.f1) (b := num * T.2 - T.1 * den) (A := 100) (B := 1000000000000000) (by omega) x.2.2 (by omega) (by omega)
  have m2 := mul_bd (a := X.f0) (b := T.2) (A := 1000) (B := 10000000000) (by omega) x.1.2 (by omega) b.2
  have m3 := mul_bd (a := X.f0 * T.2) (b := den) (A := 1000 * 10000000000) (B := 1000) m2.1 m2.2 (by omega) hd.2
  have m4 := mul_bd (a := T.2) (b := den) (A := 10000000000) (B := 1000) (by omega) b.2 (by omega) hd.2
  have p4 := mul_pos (show 0 < T.2 by omega) (show 0 < den by omega)
  have m5 := mul_bd (a := Q) (b := T.2) (A := 5000) (B := 10000000000) (by omega) (by omega) (by omega) b.2
  have m6 := mul_bd (a := Q * T.2) (b := den) (A := 5000 * 10000000000) (B := 1000) m5.1 m5.2 (by omega) hd.2
  have r : Plc l num den i T X := by
    refine ⟨by omega, w1, w2, w64 (by omega) (by omega), w64 (by omega) (by omega), w64 (by omega) (by omega), w64 (by omega) (by omega), by omega, ⟨o, b.2⟩, x, w64 (by omega) (by omega), ⟨p4, by omega⟩, ⟨m1.1, by omega⟩, ⟨by omega, by omega⟩, ?_, ?_, ?_, ?_⟩
    all_goals rw [hQ]
    · exact w64 (by omega) (by omega)
    · exact w64 (by omega) (by omega)
    · exact w64 (by omega) (by omega)
    · omega
  exact r
theorem place_ev (l : List S54) (num den : Int) : ∃ r : Int × Int × Bool, Ev (fun k => spec_PlaceOnLegs.f k l num den) r ∧ Ev (fun k => impl_PlaceOnLegs.f k l num den) r := by
  cases g : goodLegs l with
  | false =>
    refine ⟨(0, 0, false), Ev.bind (reGood_ev l) ?_, Ev.bind (areLegs_ev l) ?_⟩
    · simp only [g, Bool.false_eq_true, if_false]
      exact Ev.step (fun k => by simp only [spec_PlaceOnLegs.j0]; rw [if_pos (by simp)]) (Ev.now _)
    · simp only [g, Bool.false_eq_true, if_false]
      exact Ev.step (fun k => by simp only [impl_PlaceOnLegs.j0]; rw [if_pos (by simp)]) (Ev.now _)
  | true =>
    cases m : momB num den with
    | false =>
      refine ⟨(0, 0, false), Ev.bind (reGood_ev l) ?_, Ev.bind (areLegs_ev l) ?_⟩
      · simp only [g, mom_eq, m, if_true, Option.bind_some]
        exact Ev.step (fun k => by simp only [spec_PlaceOnLegs.j0]; rw [if_pos (by simp)]) (Ev.now _)
      · simp only [g, legTime_eq, m, if_true, Option.bind_some]
        exact Ev.step (fun k => by simp only [impl_PlaceOnLegs.j0]; rw [if_pos (by simp)]) (Ev.now _)
    | true =>
      obtain ⟨hn, hd⟩ := momB_iff.1 m
      obtain ⟨n, q, e, f, a1, a2, a3, a4, a5⟩ := legs_on l g hn hd
      have hl := good_len g
      have ok := good_ok g
      have q0 : 0 ≤ q := by rw [a3]; split <;> omega
      have q1 : q < l.length := by rw [a3]; split <;> omega
      have qs : ∀ j, 0 ≤ j → j < q → ¬ onStop l num den j := fun j b1 b2 => a4 j b1 (by rw [a3] at b2; split at b2 <;> omega)
      have P := plc l hl.2 ok hn hd q0 q1 qs
      have St := stop_iff l hl.2 ok num den q0 q1
      have specStart : ∀ r, Ev (fun k => spec_PlaceOnLegs.j0 k l num den false) r → Ev (fun k => spec_PlaceOnLegs.f k l num den) r := fun r h => Ev.bind (reGood_ev l) (by simp only [g, mom_eq, m, if_true, Option.bind_some]; exact h)
      have implStart : ∀ r, Ev (fun k => impl_PlaceOnLegs.j0 k l num den false) r → Ev (fun k => impl_PlaceOnLegs.f k l num den) r := fun r h => Ev.bind (areLegs_ev l) (by simp only [g, legTime_eq, m, if_true, Option.bind_some]; exact h)
      by_cases c : n = l.length
      · -- behind all legs
        have hq : q = (l.length : Int) - 1 := by rw [a3]; split <;> omega
        have ns : ¬ onStop l num den q := a4 q q0 (by omega)
        rw [St] at ns
        refine ⟨(longI l, 1, true), specStart _ ?_, implStart _ ?_⟩
        · refine Ev.step (fun k => by simp only [spec_PlaceOnLegs.j0]; rw [if_neg (by simp)]) (Ev.bind e ?_)
          simp only [if_pos c]
          exact Ev.bind (reLong_ev l hl.2 ok) (Ev.now _)
        · refine Ev.step (fun k => by simp only [impl_PlaceOnLegs.j0]; rw [if_neg (by simp)]) (Ev.bind f ?_)
          simp only [if_pos q0, if_pos (show q ≤ l.length by omega)]
          refine Ev.bind (timeOf_ev (l.take q.toNat) (by simp; omega) (take_ok ok _)) ?_
          simp only [if_pos q1, P.a, P.b, P.c, P.d, P.e, P.f]
          have e1 : wrap64 (q + 1) = q + 1 := w64 (by omega) (by omega)
          simp only [if_pos (show (rd_T54 l q).f1 * (num * (timeL (l.take q.toNat)).2 - (timeL (l.take q.toNat)).1 * den) ≥ (rd_T54 l q).f0 * (timeL (l.take q.toNat)).2 * den by omega), e1, if_pos (show 0 ≤ q + 1 by omega), if_pos (show q + 1 ≤ l.length by omega)]
          have e2 : l.take (q + 1).toNat = l := List.take_of_length_le (by omega)
          rw [e2]
          exact Ev.bind (longOf_ev l hl.2 ok) (Ev.now _)
      · -- on a leg
        have hq : q = n := by rw [a3]; split <;> omega
        subst hq
        have ns := a5 (by omega)
        rw [St] at ns
        have hb := lo_cross (num * (timeL (l.take q.toNat)).2 - (timeL (l.take q.toNat)).1 * den) (den * (timeL (l.take q.toNat)).2)
        have gp := P.gp
        have hdt : 0 < den * (timeL (l.take q.toNat)).2 := by rw [Int.mul_comm]; exact gp.1
        have hdt2 : den * (timeL (l.take q.toNat)).2 ≤ 10000000000000 := by rw [Int.mul_comm]; exact gp.2
        have yp := lo_pos (num * (timeL (l.take q.toNat)).2 - (timeL (l.take q.toNat)).1 * den) hdt
        have yl := lo_le2 (num * (timeL (l.take q.toNat)).2 - (timeL (l.take q.toNat)).1 * den) hdt
        have x0 := lo_nonneg hdt P.nn
        have xl := lo_le1 hdt P.nn
        have bd1 := P.bd1
        have on := P.on
        have mp := P.mp
        refine ⟨((lo (longI (l.take q.toNat) * (timeL (l.take q.toNat)).2 * den + (rd_T54 l q).f1 * (num * (timeL (l.take q.toNat)).2 - (timeL (l.take q.toNat)).1 * den)) ((timeL (l.take q.toNat)).2 * den)).1, (lo (longI (l.take q.toNat) * (timeL (l.take q.toNat)).2 * den + (rd_T54 l q).f1 * (num * (timeL (l.take q.toNat)).2 - (timeL (l.take q.toNat)).1 * den)) ((timeL (l.take q.toNat)).2 * den)).2, true), specStart _ ?_, implStart _ ?_⟩
        · refine Ev.step (fun k => by simp only [spec_PlaceOnLegs.j0]; rw [if_neg (by simp)]) (Ev.bind e ?_)
          simp only [if_neg c, if_pos q0, if_pos (show q ≤ l.length by omega)]
          refine Ev.bind (reTime_ev (l.take q.toNat) (by simp; omega) (take_ok ok _)) ?_
          have wg : wrap64 (den * (timeL (l.take q.toNat)).2) = den * (timeL (l.take q.toNat)).2 := w64 (by omega) (by omega)
          simp only [P.a, P.b, P.c, wg]
          refine Ev.bind (meLow_ev hdt (by omega) (by omega) (by omega)) (Ev.bind (reLong_ev (l.take q.toNat) (by simp; omega) (take_ok ok _)) ?_)
          simp only [if_pos q1]
          have lp := P.lp
          have xp := P.xp
          generalize hA : (lo (num * (timeL (l.take q.toNat)).2 - (timeL (l.take q.toNat)).1 * den) (den * (timeL (l.take q.toNat)).2)).1 = A at *
          generalize hB : (lo (num * (timeL (l.take q.toNat)).2 - (timeL (l.take q.toNat)).1 * den) (den * (timeL (l.take q.toNat)).2)).2 = B at *
          have m1 := mul_bd (a := longI (l.take q.toNat)) (b := B) (A := 5000) (B := 10000000000000) lp.1 lp.2 (by omega) (by omega)
          have m2 := mul_bd (a := (rd_T54 l q).f1) (b := A) (A := 100) (B := 1000000000000000) (by omega) xp.2.2 x0 (by omega)
          have v1 : wrap64 (longI (l.take q.toNat) * B) = longI (l.take q.toNat) * B := w64 (by omega) (by omega)
          have v2 : wrap64 ((rd_T54 l q).f1 * A) = (rd_T54 l q).f1 * A := w64 (by omega) (by omega)
          have v3 : wrap64 (longI (l.take q.toNat) * B + (rd_T54 l q).f1 * A) = longI (l.take q.toNat) * B + (rd_T54 l q).f1 * A := w64 (by omega) (by omega)
          simp only [v1, v2, v3]
          have eq : lo (longI (l.take q.toNat) * (timeL (l.take q.toNat)).2 * den + (rd_T54 l q).f1 * (num * (timeL (l.take q.toNat)).2 - (timeL (l.take q.toNat)).1 * den)) ((timeL (l.take q.toNat)).2 * den) = lo (longI (l.take q.toNat) * B + (rd_T54 l q).f1 * A) B := by
            refine lo_eq gp.1 yp ?_
            generalize num * (timeL (l.take q.toNat)).2 - (timeL (l.take q.toNat)).1 * den = U at *
            generalize (timeL (l.take q.toNat)).2 = V at *
            generalize longI (l.take q.toNat) = Q at *
            generalize (rd_T54 l q).f1 = F at *
            have : A * (den * V) = U * B := hb
            grind
          rw [eq]
          exact Ev.bind (meLow_ev yp (by omega) (by omega) (by omega)) (Ev.now _)
        · refine Ev.step (fun k => by simp only [impl_PlaceOnLegs.j0]; rw [if_neg (by simp)]) (Ev.bind f ?_)
          simp only [if_pos q0, if_pos (show q ≤ l.length by omega)]
          refine Ev.bind (timeOf_ev (l.take q.toNat) (by simp; omega) (take_ok ok _)) ?_
          simp only [if_pos q1, P.a, P.b, P.c, P.d, P.e, P.f]
          simp only [if_neg (show ¬ (rd_T54 l q).f1 * (num * (timeL (l.take q.toNat)).2 - (timeL (l.take q.toNat)).1 * den) ≥ (rd_T54 l q).f0 * (timeL (l.take q.toNat)).2 * den by omega)]
          refine Ev.bind (longOf_ev (l.take q.toNat) (by simp; omega) (take_ok ok _)) ?_
          simp only [P.h, P.k, P.m, P.g]
          exact Ev.bind (fraction_ev gp.1 (by omega) mp.2 (by omega)) (Ev.now _)
theorem FnExactPlaceOnLegs : laws_FnExactPlaceOnLegs.Pure := by
  intro l x y hl _ _
  refine Ev.rounds ?_
  unfold laws_FnExactPlaceOnLegs.f
  rcases szLegS_cases l hl with ⟨hs, h⟩ | h
  · simp only [h, Option.bind_some, if_neg (show ¬ ((1048576 : Int) - l.length < 0) by omega)]
    obtain ⟨r, a1, a2⟩ := place_ev (l.map cvLeg) x y
    refine Ev.bind (toLegS_ev l hs) (Ev.bind a1 (Ev.bind (toLegS_ev l hs) (Ev.bind a2 ?_)))
    simp only [bne_self_eq_false, if_true]
    refine Ev.step (fun k => by simp only [laws_FnExactPlaceOnLegs.j0]; rw [if_neg (by simp)]) ?_
    refine Ev.bind (toLegS_ev l hs) (Ev.bind (eqLegS_ev _ (by simpa using hs)) ?_)
    simp only [if_true]
    exact Ev.now _
  · simp only [h, Option.bind_some]
    exact Ev.now _
end Go.Proofs.Ytgcmoeokhinjdaa.Pure
