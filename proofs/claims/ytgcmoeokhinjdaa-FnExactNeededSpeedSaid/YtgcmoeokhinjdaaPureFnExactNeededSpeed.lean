/- The program's NeededSpeed returns what the reference's NeededSpeed returns, for all arguments. No conditions. -/
import Derived.Test.YtgcmoeokhinjdaaQLx7
import Derived.Test.YtgcmoeokhinjdaaPlain
set_option linter.unusedVariables false
set_option linter.unusedSimpArgs false
namespace Go.Proofs.Ytgcmoeokhinjdaa.Pure
open Go.RowKit Go.Proofs.Ytgcmoeokhinjdaa.QL Go.Proofs.YtgcmoeokhinjdaaW.PrintWords Go.Proofs.YtgcmoeokhinjdaaW.PrintLast Go.Proofs.YtgcmoeokhinjdaaW.PrintMore Go.Proofs.Ytgcmoeokhinjdaa.Plain
theorem w64 {x : Int} (h1 : -9223372036854775808 ≤ x) (h2 : x ≤ 9223372036854775807) : wrap64 x = x := by unfold wrap64; omega
def cvLeg (x : S56) : S54 := ⟨x.f0, x.f1⟩
theorem toLegS_l0_ev (l : List S56) (hl : l.length ≤ 1048576) : ∀ i : Int, 0 ≤ i → i ≤ l.length → ∀ acc : List S54, acc.length = l.length → Ev (fun k => laws_toLegS.l0 k l acc i) (acc.take i.toNat ++ (l.drop i.toNat).map cvLeg) := by
  refine downI (fun acc ha => ?_) (fun i h0 h1 ih acc ha => ?_)
  · refine Ev.step (fun k => by simp only [laws_toLegS.l0]; rw [if_neg (by omega)]) ?_
    rw [List.take_of_length_le (by omega), List.drop_of_length_le (by omega), List.map_nil, List.append_nil]
    exact Ev.now _
  · refine Ev.step (fun k => by simp only [laws_toLegS.l0]; rw [if_pos h1, if_pos h0, laws_toLeg.f, Option.bind_some, if_pos (by omega), w64 (x := i + 1) (by omega) (by omega)]) ?_
    have hi := ih (acc.set i.toNat (cvLeg (rd_T56 l i))) (by simpa using ha)
    rw [drop_get l z56 i h0 h1, List.map_cons]
    rw [show (i + 1).toNat = i.toNat + 1 by omega] at hi ⊢
    rw [set_fill acc _ i.toNat _ (by omega)] at hi
    exact hi
theorem toLegS_ev (l : List S56) (hl : l.length ≤ 1048576) : Ev (fun k => laws_toLegS.f k l) (l.map cvLeg) := by
  refine Ev.congr (fun k => by unfold laws_toLegS.f; rw [if_pos (by omega), if_pos (by omega)]) ?_
  have h := toLegS_l0_ev l hl 0 (by omega) (by omega) (List.replicate ((l.length : Int)).toNat z54) (by simp)
  simpa using h
theorem eqLegS_l0_ev (l : List S54) (hl : l.length ≤ 1048576) : ∀ i : Int, 0 ≤ i → i ≤ l.length → Ev (fun k => laws_eqLegS.l0 k l l i) true := by
  refine downI ?_ (fun i h0 h1 ih => ?_)
  · exact Ev.step (fun k => by simp only [laws_eqLegS.l0]; rw [if_neg (by omega)]) (Ev.now _)
  · refine Ev.step (fun k => by simp only [laws_eqLegS.l0, laws_eqLeg.f, if_true, Option.bind_some]; rw [if_pos h1, if_pos h0, if_pos h1, w64 (x := i + 1) (by omega) (by omega)]) ih
theorem eqLegS_ev (l : List S54) (hl : l.length ≤ 1048576) : Ev (fun k => laws_eqLegS.f k l l) true := by
  refine Ev.congr (fun k => by unfold laws_eqLegS.f; rw [if_pos rfl]) ?_
  exact eqLegS_l0_ev l hl 0 (by omega) (by omega)
/-- The bound on the size of what came in. -/
theorem szLegS_cases (l : List S56) (hl : l.length ≤ maxLen) : (l.length ≤ 1048576 ∧ laws_szLegS.f l 1048576 = some (1048576 - (l.length : Int))) ∨ laws_szLegS.f l 1048576 = some (-1) := by
  unfold maxLen at hl
  unfold laws_szLegS.f
  rw [w64 (x := 1048576 - (l.length : Int)) (by omega) (by omega)]
  by_cases h : (1048576 : Int) - l.length < 0
  · right; rw [if_pos h]
  · left; rw [if_neg h]; exact ⟨by omega, rfl⟩
theorem in_eq (a b c : Int) : spec_l1In.f a b c = some (decide (b ≤ a ∧ a ≤ c)) := by
  unfold spec_l1In.f
  by_cases h : a ≥ b
  · rw [if_pos h]; congr 1; simp; omega
  · rw [if_neg h]; congr 1; simp; omega
theorem within_eq (a b c : Int) : impl_within.f a b c = some (decide (b ≤ a ∧ a ≤ c)) := by
  unfold impl_within.f
  by_cases h : a ≥ b
  · rw [if_pos h]; congr 1; simp; omega
  · rw [if_neg h]; congr 1; simp; omega
def okLeg (x : S54) : Bool := decide (1 ≤ x.f0 ∧ x.f0 ≤ 1000) && decide (1 ≤ x.f1 ∧ x.f1 ≤ 100)
def goodLegs (l : List S54) : Bool := decide (1 ≤ (l.length : Int) ∧ (l.length : Int) ≤ 5) && l.all okLeg
theorem okLeg_iff {x : S54} : okLeg x = true ↔ (1 ≤ x.f0 ∧ x.f0 ≤ 1000) ∧ (1 ≤ x.f1 ∧ x.f1 ≤ 100) := by
  unfold okLeg; rw [Bool.and_eq_true, decide_eq_true_iff, decide_eq_true_iff]
theorem reGood_l0_ev (l : List S54) (hl : l.length ≤ 5) : ∀ i : Int, 0 ≤ i → i ≤ l.length → Ev (fun k => spec_reGood.l0 k l l.length i) ((l.drop i.toNat).all okLeg) := by
  refine downI ?_ (fun i h0 h1 ih => ?_)
  · refine Ev.step (fun k => by simp only [spec_reGood.l0]; rw [if_neg (by omega)]) ?_
    rw [List.drop_of_length_le (by omega)]
    exact Ev.now _
  · rw [drop_get l z54 i h0 h1, List.all_cons]
    refine Ev.step (f := fun k => if decide (1 ≤ (rd_T54 l i).f0 ∧ (rd_T54 l i).f0 ≤ 1000) = true then (if decide (1 ≤ (rd_T54 l i).f1 ∧ (rd_T54 l i).f1 ≤ 100) = true then spec_reGood.l0 k l l.length (i + 1) else some false) else some false) (fun k => by simp only [spec_reGood.l0, in_eq, Option.bind_some]; rw [if_pos h1, if_pos h0, if_pos h1, w64 (x := i + 1) (by omega) (by omega)]) ?_
    show Ev _ (okLeg (rd_T54 l i) && _)
    unfold okLeg
    by_cases a : decide (1 ≤ (rd_T54 l i).f0 ∧ (rd_T54 l i).f0 ≤ 1000) = true
    · by_cases b : decide (1 ≤ (rd_T54 l i).f1 ∧ (rd_T54 l i).f1 ≤ 100) = true
      · simp only [a, b, if_true, Bool.true_and]; exact ih
      · simp only [a, b, if_true, Bool.true_and, Bool.false_and, Bool.false_eq_true, if_false]; exact Ev.now _
    · simp only [a, Bool.false_and, Bool.false_eq_true, if_false]; exact Ev.now _
theorem reGood_ev (l : List S54) : Ev (fun k => spec_reGood.f k l) (goodLegs l) := by
  unfold spec_reGood.f goodLegs
  simp only [in_eq, Option.bind_some]
  by_cases h : 1 ≤ (l.length : Int) ∧ (l.length : Int) ≤ 5
  · simp only [h, and_self, decide_true, if_true, Bool.true_and]
    exact reGood_l0_ev l (by omega) 0 (by omega) (by omega)
  · simp only [h, decide_false, Bool.false_and, Bool.false_eq_true, if_false]
    exact Ev.now _
theorem areLegs_1_eq (x : S54) : impl_AreLegs_1.f x.f0 x.f1 = some (!okLeg x) := by
  unfold impl_AreLegs_1.f impl_isLong.f impl_isFast.f okLeg
  simp only [within_eq, Option.bind_some]
  by_cases a : decide (1 ≤ x.f0 ∧ x.f0 ≤ 1000) = true
  · simp [a]
  · simp [a]
theorem indexLeg_ev (l : List S54) (hl : l.length ≤ 5) : ∀ i : Int, 0 ≤ i → i ≤ l.length → ∃ r : Int, Ev (fun k => impl_Leg_87.l0 k l l.length i) r ∧ decide (r ≥ 0) = !((l.drop i.toNat).all okLeg) := by
  refine downI ?_ (fun i h0 h1 ih => ?_)
  · refine ⟨-1, Ev.step (fun k => by simp only [impl_Leg_87.l0]; rw [if_neg (by omega)]) (Ev.now _), ?_⟩
    rw [List.drop_of_length_le (by omega)]
    rfl
  · rw [drop_get l z54 i h0 h1, List.all_cons]
    have st : ∀ k, impl_Leg_87.l0 (k + 1) l l.length i = if (!okLeg (rd_T54 l i)) = true then some i else impl_Leg_87.l0 k l l.length (i + 1) := fun k => by
      simp only [impl_Leg_87.l0, areLegs_1_eq, Option.bind_some]; rw [if_pos h1, if_pos h0, if_pos h1, w64 (x := i + 1) (by omega) (by omega)]
    show ∃ r : Int, _ ∧ _ = !(okLeg (rd_T54 l i) && _)
    cases a : okLeg (rd_T54 l i)
    · exact ⟨i, Ev.step (fun k => by rw [st, a]; rfl) (Ev.now i), by simp [h0]⟩
    · obtain ⟨r, h2, h3⟩ := ih
      exact ⟨r, Ev.step (fun k => by rw [st, a]; rfl) h2, by simpa using h3⟩
theorem areLegs_ev (l : List S54) : Ev (fun k => impl_AreLegs.f k l) (goodLegs l) := by
  unfold impl_AreLegs.f goodLegs
  simp only [within_eq, Option.bind_some]
  by_cases h : 1 ≤ (l.length : Int) ∧ (l.length : Int) ≤ 5
  · simp only [h, and_self, decide_true, if_true, Bool.true_and]
    obtain ⟨r, h1, h2⟩ := indexLeg_ev l (by omega) 0 (by omega) (by omega)
    unfold impl_Leg_75.f impl_Leg_87.f
    refine Ev.bind (Ev.bind h1 (Ev.now _)) ?_
    rw [h2]
    simp only [Bool.not_not]
    exact Ev.now _
  · simp only [h, decide_false, Bool.false_and, Bool.false_eq_true, if_false]
    exact Ev.now _
theorem good_len {l : List S54} (h : goodLegs l = true) : 1 ≤ l.length ∧ l.length ≤ 5 := by
  unfold goodLegs at h
  rw [Bool.and_eq_true, decide_eq_true_iff] at h
  omega
theorem good_ok {l : List S54} (h : goodLegs l = true) : ∀ x, x ∈ l → okLeg x = true := by
  unfold goodLegs at h
  rw [Bool.and_eq_true] at h
  exact List.all_eq_true.1 h.2
def longI (l : List S54) : Int := (l.map (fun x => x.f0)).sum
theorem longI_cons (x : S54) (l : List S54) : longI (x :: l) = x.f0 + longI l := by simp [longI]
theorem longI_bd : ∀ (l : List S54), (∀ x, x ∈ l → okLeg x = true) → (l.length : Int) ≤ longI l ∧ longI l ≤ 1000 * l.length := by
  intro l
  induction l with
  | nil => intro _; simp [longI]
  | cons x l ih =>
    intro h
    rw [longI_cons]
    have h1 := okLeg_iff.1 (h x List.mem_cons_self)
    have h2 := ih (fun y hy => h y (List.mem_cons_of_mem _ hy))
    simp only [List.length_cons]
    omega
theorem reLong_l0_ev (l : List S54) (hl : l.length ≤ 5) (ok : ∀ x, x ∈ l → okLeg x = true) : ∀ i : Int, 0 ≤ i → i ≤ l.length → ∀ s : Int, 0 ≤ s → s ≤ 1000 * i → Ev (fun k => spec_reLong.l0 k s l l.length i) (s + longI (l.drop i.toNat)) := by
  refine downI (fun s h0 h1 => ?_) (fun i h0 h1 ih s hs hs2 => ?_)
  · refine Ev.step (fun k => by simp only [spec_reLong.l0]; rw [if_neg (by omega)]) ?_
    rw [List.drop_of_length_le (by omega)]
    simp only [longI, List.map_nil, List.sum_nil, Int.add_zero]
    exact Ev.now _
  · have hx := okLeg_iff.1 (ok _ (get_mem l z54 i h0 h1))
    rw [drop_get l z54 i h0 h1, longI_cons, ← Int.add_assoc]
    have e : wrap64 (s + (rd_T54 l i).f0) = s + (l.getD i.toNat z54).f0 := w64 (x := s + (l.getD i.toNat z54).f0) (by omega) (by omega)
    refine Ev.step (fun k => by simp only [spec_reLong.l0]; rw [if_pos h1, if_pos h0, if_pos h1, w64 (x := i + 1) (by omega) (by omega), e]) ?_
    exact ih _ (by omega) (by omega)
theorem longOf_l0_ev (l : List S54) (hl : l.length ≤ 5) (ok : ∀ x, x ∈ l → okLeg x = true) : ∀ i : Int, 0 ≤ i → i ≤ l.length → ∀ s : Int, 0 ≤ s → s ≤ 1000 * i → Ev (fun k => impl_longOf.l0 k s l l.length i) (s + longI (l.drop i.toNat)) := by
  refine downI (fun s h0 h1 => ?_) (fun i h0 h1 ih s hs hs2 => ?_)
  · refine Ev.step (fun k => by simp only [impl_longOf.l0]; rw [if_neg (by omega)]) ?_
    rw [List.drop_of_length_le (by omega)]
    simp only [longI, List.map_nil, List.sum_nil, Int.add_zero]
    exact Ev.now _
  · have hx := okLeg_iff.1 (ok _ (get_mem l z54 i h0 h1))
    rw [drop_get l z54 i h0 h1, longI_cons, ← Int.add_assoc]
    have e : wrap64 (s + (rd_T54 l i).f0) = s + (l.getD i.toNat z54).f0 := w64 (x := s + (l.getD i.toNat z54).f0) (by omega) (by omega)
    refine Ev.step (fun k => by simp only [impl_longOf.l0]; rw [if_pos h1, if_pos h0, if_pos h1, w64 (x := i + 1) (by omega) (by omega), e]) ?_
    exact ih _ (by omega) (by omega)
theorem reLong_ev (l : List S54) (hl : l.length ≤ 5) (ok : ∀ x, x ∈ l → okLeg x = true) : Ev (fun k => spec_reLong.f k l) (longI l) := by
  unfold spec_reLong.f
  have h := reLong_l0_ev l hl ok 0 (by omega) (by omega) 0 (by omega) (by omega)
  simpa using h
theorem longOf_ev (l : List S54) (hl : l.length ≤ 5) (ok : ∀ x, x ∈ l → okLeg x = true) : Ev (fun k => impl_longOf.f k l) (longI l) := by
  unfold impl_longOf.f
  have h := longOf_l0_ev l hl ok 0 (by omega) (by omega) 0 (by omega) (by omega)
  simpa using h
theorem most_eq (a b : Int) : spec_l1Most.f a b = some (if a > b then a else b) := by
  unfold spec_l1Most.f; split <;> rfl
theorem l1Abs_eq {a : Int} (h1 : -4611686018427387904 ≤ a) (h2 : a ≤ 4611686018427387904) : spec_l1Abs.f a = some (if a < -a then -a else a) := by
  unfold spec_l1Abs.f
  rw [most_eq]
  have e : wrap64 (-a) = -a := by unfold wrap64; omega
  rw [e]
  simp only [Option.bind_some]
  congr 1
  split <;> split <;> omega
theorem divisorOf_ev : ∀ (n : Nat) (a b : Int), 0 ≤ a → 0 ≤ b → b.toNat ≤ n → Ev (fun k => impl_divisorOf.l0 k a b) (gg a b) := by
  intro n
  induction n with
  | zero =>
    intro a b ha hb hn
    obtain rfl : b = 0 := by omega
    refine Ev.step (fun k => by simp only [impl_divisorOf.l0]; rw [if_neg (by omega)]) ?_
    rw [gg_zero ha]; exact Ev.now a
  | succ n ih =>
    intro a b ha hb hn
    by_cases h : 0 < b
    · obtain ⟨g1, g2, g3⟩ := gg_step ha h
      refine Ev.step (fun k => by simp only [impl_divisorOf.l0]; rw [if_pos h, if_neg (by omega)]) ?_
      rw [← g1]; exact ih b (a.tmod b) hb g2 (by omega)
    · obtain rfl : b = 0 := by omega
      refine Ev.step (fun k => by simp only [impl_divisorOf.l0]; rw [if_neg (by omega)]) ?_
      rw [gg_zero ha]; exact Ev.now a
theorem absOf_eq {a : Int} (h1 : -4611686018427387904 ≤ a) (h2 : a ≤ 4611686018427387904) : impl_absOf.f a = some (if a < -a then -a else a) := by
  unfold impl_absOf.f mx
  have e : wrap64 (-a) = -a := by unfold wrap64; omega
  rw [e]
theorem tdiv_lo1 {n d : Int} (hd : 0 < d) (h1 : -4611686018427387904 ≤ n) (h2 : n ≤ 4611686018427387904) : wrap64 (Int.tdiv n (gg n d)) = (lo n d).1 := by
  rw [Int.tdiv_eq_ediv_of_dvd (gg_l n d)]
  have := lo_bd1 hd h1 h2
  show wrap64 (lo n d).1 = _
  unfold wrap64; omega
theorem tdiv_lo2 {n d : Int} (hd : 0 < d) (h2 : d ≤ 4611686018427387904) : wrap64 (Int.tdiv d (gg n d)) = (lo n d).2 := by
  rw [Int.tdiv_eq_ediv_of_dvd (gg_r n d)]
  have := lo_le2 n hd
  have := lo_pos n hd
  show wrap64 (lo n d).2 = _
  unfold wrap64; omega
theorem lowest_ev {n d : Int} (hd : 0 < d) (h1 : -4611686018427387904 ≤ n) (h2 : n ≤ 4611686018427387904) (h3 : d ≤ 4611686018427387904) : Ev (fun k => impl_lowest.f k n d) (lo n d) := by
  refine Ev.congr (fun k => by unfold impl_lowest.f impl_divisorOf.f; rw [if_neg (by omega), absOf_eq h1 h2, Option.bind_some]) ?_
  have hg := gg_pos (n := n) hd
  refine Ev.bind (divisorOf_ev _ d _ (Int.le_of_lt hd) (by split <;> omega) (Nat.le_refl _)) ?_
  have e : gg d (if n < -n then -n else n) = gg n d := by rw [gg_comm, gg_abs]
  rw [e]
  simp only [if_neg (show ¬ gg n d = 0 by omega), tdiv_lo1 hd h1 h2, tdiv_lo2 (n := n) hd h3]
  exact Ev.now _
theorem meLow_l0_ev (p q : Int) : ∀ (n : Nat) (a b : Int), 0 ≤ a → 0 ≤ b → b.toNat ≤ n → 0 < gg a b → Ev (fun k => spec_meLow.l0 k p q a b) (wrap64 (Int.tdiv p (gg a b)), wrap64 (Int.tdiv q (gg a b))) := by
  intro n
  induction n with
  | zero =>
    intro a b ha hb hn hg
    obtain rfl : b = 0 := by omega
    rw [gg_zero ha] at hg ⊢
    refine Ev.step (fun k => by simp only [spec_meLow.l0]; rw [if_neg (by omega), if_neg (by omega)]) ?_
    exact Ev.now _
  | succ n ih =>
    intro a b ha hb hn hg
    by_cases h : 0 < b
    · obtain ⟨g1, g2, g3⟩ := gg_step ha h
      refine Ev.step (fun k => by simp only [spec_meLow.l0]; rw [if_pos h, if_neg (by omega)]) ?_
      rw [← g1] at hg ⊢; exact ih b (a.tmod b) hb g2 (by omega) hg
    · obtain rfl : b = 0 := by omega
      rw [gg_zero ha] at hg ⊢
      refine Ev.step (fun k => by simp only [spec_meLow.l0]; rw [if_neg (by omega), if_neg (by omega)]) ?_
      exact Ev.now _
theorem meLow_ev {n d : Int} (hd : 0 < d) (h1 : -4611686018427387904 ≤ n) (h2 : n ≤ 4611686018427387904) (h3 : d ≤ 4611686018427387904) : Ev (fun k => spec_meLow.f k n d) (lo n d) := by
  refine Ev.congr (fun k => by unfold spec_meLow.f; rw [if_neg (by omega)]) ?_
  refine Ev.step (fun k => by simp only [spec_meLow.j0]; rw [l1Abs_eq h1 h2, Option.bind_some]) ?_
  have hg := gg_pos (n := n) hd
  have e := gg_abs n d
  have h := meLow_l0_ev n d _ (if n < -n then -n else n) d (by split <;> omega) (Int.le_of_lt hd) (Nat.le_refl _) (by rw [e]; exact hg)
  rw [e, tdiv_lo1 hd h1 h2, tdiv_lo2 (n := n) hd h3] at h
  exact h
def tstep (t : Int × Int) (x : S54) : Int × Int := lo (t.1 * x.f1 + x.f0 * t.2) (t.2 * x.f1)
def timeL (l : List S54) : Int × Int := l.foldl tstep (0, 1)
/-- A time for n legs. -/
structure Tm (n : Nat) (t : Int × Int) : Prop where
  nn : 0 ≤ t.1
  pos : 1 ≤ n → 0 < t.1
  rat : t.1 ≤ (1000 * (n : Int)) * t.2
  one : 1 ≤ t.2
  den : t.2 ≤ pw n
  low : gg t.1 t.2 = 1
theorem Tm.bd {n : Nat} {t : Int × Int} (h : Tm n t) (hn : n ≤ 5) : t.1 ≤ 50000000000000 ∧ t.2 ≤ 10000000000 := by
  have h1 := h.den
  have h2 := pw_le hn
  have h3 := h.rat
  have h4 := mul_bd (a := 1000 * (n : Int)) (b := t.2) (A := 5000) (B := 10000000000) (by omega) (by omega) (by have := h.one; omega) (by omega)
  omega
theorem tm_zero : Tm 0 (0, 1) := ⟨by simp, fun h => absurd h (by omega), by simp, by simp, by simp [pw], by unfold gg; simp⟩
/-- What one leg more comes to, with no overflow. -/
structure Step (n : Nat) (t : Int × Int) (x : S54) : Prop where
  next : Tm (n + 1) (tstep t x)
  a : wrap64 (t.1 * x.f1) = t.1 * x.f1
  b : wrap64 (x.f0 * t.2) = x.f0 * t.2
  c : wrap64 (t.1 * x.f1 + x.f0 * t.2) = t.1 * x.f1 + x.f0 * t.2
  d : wrap64 (t.2 * x.f1) = t.2 * x.f1
  dp : 0 < t.2 * x.f1
  n1 : 0 ≤ t.1 * x.f1 + x.f0 * t.2 ∧ t.1 * x.f1 + x.f0 * t.2 ≤ 4611686018427387904
  d1 : t.2 * x.f1 ≤ 4611686018427387904
theorem step_of {n : Nat} {t : Int × Int} {x : S54} (h : Tm n t) (hn : n ≤ 4) (hx : okLeg x = true) : Step n t x := by
  obtain ⟨⟨l1, l2⟩, f1, f2⟩ := okLeg_iff.1 hx
  obtain ⟨t1, t2⟩ := h.bd (by omega)
  have t3 := h.nn
  have t4 := h.one
  have a := mul_bd (a := t.1) (b := x.f1) (A := 50000000000000) (B := 100) t3 t1 (by omega) f2
  have b := mul_bd (a := x.f0) (b := t.2) (A := 1000) (B := 10000000000) (by omega) l2 (by omega) t2
  have d := mul_bd (a := t.2) (b := x.f1) (A := 10000000000) (B := 100) (by omega) t2 (by omega) f2
  have dp := mul_pos (a := t.2) (b := x.f1) (by omega) (by omega)
  have bp := mul_pos (a := x.f0) (b := t.2) (by omega) (by omega)
  refine ⟨⟨lo_nonneg dp (by omega), fun _ => lo_pos1 dp (by omega), lo_ratio dp ?_, lo_pos _ dp, ?_, lo_gcd _ dp⟩, w64 (by omega) (by omega), w64 (by omega) (by omega), w64 (by omega) (by omega), w64 (by omega) (by omega), dp, ⟨by omega, by omega⟩, by omega⟩
  · have r := mul_le_r (c := x.f1) (by omega) h.rat
    have s1 := mul_le_r (c := t.2) (by omega) l2
    have s2 := mul_le_l (c := 1000 * t.2) (by omega) f1
    have e : (1000 * ((n + 1 : Nat) : Int)) * (t.2 * x.f1) = 1000 * (n : Int) * t.2 * x.f1 + 1000 * t.2 * x.f1 := by
      rw [show ((n + 1 : Nat) : Int) = (n : Int) + 1 by omega]
      grind
    omega
  · refine Int.le_trans (lo_le2 _ dp) ?_
    have := h.den
    have p := pw_pos n
    have := mul_bd (a := t.2) (b := x.f1) (A := pw n) (B := 100) (by omega) h.den (by omega) f2
    simp only [pw]
    omega
theorem tm_foldl : ∀ (l : List S54) (n : Nat) (t : Int × Int), n + l.length ≤ 5 → Tm n t → (∀ x, x ∈ l → okLeg x = true) → Tm (n + l.length) (l.foldl tstep t) := by
  intro l
  induction l with
  | nil => intro n t _ h _; exact h
  | cons x l ih =>
    intro n t hn h ok
    simp only [List.length_cons] at hn
    have := ih (n + 1) (tstep t x) (by omega) (step_of h (by omega) (ok x List.mem_cons_self)).next (fun y hy => ok y (List.mem_cons_of_mem _ hy))
    simp only [List.foldl_cons, List.length_cons]
    rw [show n + (l.length + 1) = n + 1 + l.length by omega]
    exact this
theorem timeL_tm (l : List S54) (hl : l.length ≤ 5) (ok : ∀ x, x ∈ l → okLeg x = true) : Tm l.length (timeL l) := by
  have := tm_foldl l 0 (0, 1) (by omega) tm_zero ok
  rw [Nat.zero_add] at this
  exact this
theorem reTime_l0_ev (l : List S54) (hl : l.length ≤ 5) (ok : ∀ x, x ∈ l → okLeg x = true) : ∀ i : Int, 0 ≤ i → i ≤ l.length → ∀ t : Int × Int, Tm i.toNat t → Ev (fun k => spec_reTime.l0 k t.1 t.2 l l.length i) ((l.drop i.toNat).foldl tstep t) := by
  refine downI (fun t h => ?_) (fun i h0 h1 ih t h => ?_)
  · refine Ev.step (fun k => by simp only [spec_reTime.l0]; rw [if_neg (by omega)]) ?_
    rw [List.drop_of_length_le (by omega)]
    exact Ev.now _
  · have s := step_of h (by omega) (ok _ (get_mem l z54 i h0 h1))
    have n1 := s.n1
    rw [drop_get l z54 i h0 h1, List.foldl_cons]
    refine Ev.step (fun k => by simp only [spec_reTime.l0, rd_T54]; rw [if_pos h1, if_pos h0, if_pos h1, w64 (x := i + 1) (by omega) (by omega), s.a, s.b, s.c, s.d]) ?_
    refine Ev.bind (meLow_ev s.dp (by omega) s.n1.2 s.d1) ?_
    have := s.next
    rw [show i.toNat + 1 = (i + 1).toNat by omega] at this
    exact ih _ this
theorem timeOf_l0_ev (l : List S54) (hl : l.length ≤ 5) (ok : ∀ x, x ∈ l → okLeg x = true) : ∀ i : Int, 0 ≤ i → i ≤ l.length → ∀ t : Int × Int, Tm i.toNat t → Ev (fun k => impl_timeOf.l0 k t.1 t.2 l l.length i) ((l.drop i.toNat).foldl tstep t) := by
  refine downI (fun t h => ?_) (fun i h0 h1 ih t h => ?_)
  · refine Ev.step (fun k => by simp only [impl_timeOf.l0]; rw [if_neg (by omega)]) ?_
    rw [List.drop_of_length_le (by omega)]
    exact Ev.now _
  · have s := step_of h (by omega) (ok _ (get_mem l z54 i h0 h1))
    have n1 := s.n1
    rw [drop_get l z54 i h0 h1, List.foldl_cons]
    refine Ev.step (fun k => by simp only [impl_timeOf.l0, rd_T54]; rw [if_pos h1, if_pos h0, if_pos h1, w64 (x := i + 1) (by omega) (by omega), s.a, s.b, s.c, s.d]) ?_
    refine Ev.bind (lowest_ev s.dp (by omega) s.n1.2 s.d1) ?_
    have := s.next
    rw [show i.toNat + 1 = (i + 1).toNat by omega] at this
    exact ih _ this
theorem reTime_ev (l : List S54) (hl : l.length ≤ 5) (ok : ∀ x, x ∈ l → okLeg x = true) : Ev (fun k => spec_reTime.f k l) (timeL l) := by
  unfold spec_reTime.f timeL
  have h := reTime_l0_ev l hl ok 0 (by omega) (by omega) (0, 1) tm_zero
  simpa using h
theorem timeOf_ev (l : List S54) (hl : l.length ≤ 5) (ok : ∀ x, x ∈ l → okLeg x = true) : Ev (fun k => impl_timeOf.f k l) (timeL l) := by
  unfold impl_timeOf.f timeL
  have h := timeOf_l0_ev l hl ok 0 (by omega) (by omega) (0, 1) tm_zero
  simpa using h
theorem fraction_ev {n d : Int} (hd : 0 < d) (h1 : -4611686018427387904 ≤ n) (h2 : n ≤ 4611686018427387904) (h3 : d ≤ 4611686018427387904) : Ev (fun k => impl_fraction.f k n d) ((lo n d).1, (lo n d).2, true) := by
  unfold impl_fraction.f
  simp only [if_neg (show ¬ d = 0 by omega)]
  exact Ev.bind (lowest_ev hd h1 h2 h3) (Ev.now _)
/-- What is left of the time. -/
def needLeft (l : List S54) (L M : Int) : Int := (longI l + L) * (timeL l).2 - (timeL l).1 * M
structure Need (l : List S54) (L M : Int) : Prop where
  a : wrap64 (longI l + L) = longI l + L
  b : wrap64 ((longI l + L) * (timeL l).2) = (longI l + L) * (timeL l).2
  c : wrap64 ((timeL l).1 * M) = (timeL l).1 * M
  d : wrap64 ((longI l + L) * (timeL l).2 - (timeL l).1 * M) = (longI l + L) * (timeL l).2 - (timeL l).1 * M
  e : wrap64 (L * M) = L * M
  f : wrap64 (L * M * (timeL l).2) = L * M * (timeL l).2
  g : 0 < L * M * (timeL l).2 ∧ L * M * (timeL l).2 ≤ 4611686018427387904
  h : (longI l + L) * (timeL l).2 - (timeL l).1 * M ≤ 4611686018427387904
theorem need_of (l : List S54) (g : goodLegs l = true) {L M : Int} (hL : 1 ≤ L ∧ L ≤ 1000) (hM : 1 ≤ M ∧ M ≤ 100) : Need l L M := by
  have hl := good_len g
  have ok := good_ok g
  have t := timeL_tm l hl.2 ok
  have b := t.bd hl.2
  have o := t.one
  have z := t.nn
  have Lb := longI_bd l ok
  have m1 := mul_bd (a := longI l + L) (b := (timeL l).2) (A := 6000) (B := 10000000000) (by omega) (by omega) (by omega) b.2
  have m2 := mul_bd (a := (timeL l).1) (b := M) (A := 50000000000000) (B := 100) z b.1 (by omega) hM.2
  have m3 := mul_bd (a := L) (b := M) (A := 1000) (B := 100) (by omega) hL.2 (by omega) hM.2
  have m4 := mul_bd (a := L * M) (b := (timeL l).2) (A := 1000 * 100) (B := 10000000000) m3.1 m3.2 (by omega) b.2
  have p := mul_pos (mul_pos (show 0 < L by omega) (show 0 < M by omega)) (show 0 < (timeL l).2 by omega)
  exact ⟨w64 (by omega) (by omega), w64 (by omega) (by omega), w64 (by omega) (by omega), w64 (by omega) (by omega), w64 (by omega) (by omega), w64 (by omega) (by omega), ⟨p, by omega⟩, by omega⟩
def neededR (l : List S54) (L M : Int) : Int × Int × Bool :=
  if goodLegs l = true ∧ (1 ≤ L ∧ L ≤ 1000) ∧ (1 ≤ M ∧ M ≤ 100) ∧ 0 < needLeft l L M then ((lo (L * M * (timeL l).2) (needLeft l L M)).1, (lo (L * M * (timeL l).2) (needLeft l L M)).2, true) else (0, 0, false)
theorem specNeeded_ev (l : List S54) (L M : Int) : Ev (fun k => spec_NeededSpeed.f k l L M) (neededR l L M) := by
  have bad : ∀ {x : Bool}, ¬ (goodLegs l = true ∧ (1 ≤ L ∧ L ≤ 1000) ∧ (1 ≤ M ∧ M ≤ 100) ∧ 0 < needLeft l L M) → x = true → Ev (fun k => spec_NeededSpeed.j0 k l L M x) (neededR l L M) := by
    intro x h hx
    subst hx
    have e : neededR l L M = (0, 0, false) := if_neg h
    rw [e]
    exact Ev.step (fun k => by simp only [spec_NeededSpeed.j0]; rw [if_pos trivial]) (Ev.now _)
  refine Ev.bind (reGood_ev l) ?_
  cases g : goodLegs l with
  | false => simp only [Bool.false_eq_true, if_false]; exact bad (by simp [g]) rfl
  | true =>
    simp only [if_true, in_eq, Option.bind_some, decide_eq_true_eq]
    by_cases hL : 1 ≤ L ∧ L ≤ 1000
    · simp only [if_pos hL]
      by_cases hM : 1 ≤ M ∧ M ≤ 100
      · rw [decide_eq_true hM]
        have N := need_of l g hL hM
        have hl := good_len g
        have ok := good_ok g
        refine Ev.step (fun k => by simp only [spec_NeededSpeed.j0]; rw [if_neg (by simp)]) (Ev.bind (reTime_ev l hl.2 ok) (Ev.bind (reLong_ev l hl.2 ok) ?_))
        simp only [N.a, N.b, N.c, N.d, N.e, N.f]
        by_cases c : (longI l + L) * (timeL l).2 - (timeL l).1 * M ≤ 0
        · simp only [if_pos c]
          have e : neededR l L M = (0, 0, false) := if_neg (by rintro ⟨_, _, _, h⟩; unfold needLeft at h; omega)
          rw [e]
          exact Ev.now _
        · simp only [if_neg c]
          have e : neededR l L M = _ := if_pos ⟨g, hL, hM, by unfold needLeft; omega⟩
          rw [e]
          have ng := N.g
          exact Ev.bind (meLow_ev (by omega) (by omega) N.g.2 N.h) (Ev.now _)
      · exact bad (by rintro ⟨_, _, h, _⟩; exact hM h) (by rw [decide_eq_false hM]; rfl)
    · simp only [if_neg hL]; exact bad (by rintro ⟨_, h, _⟩; exact hL h) rfl
theorem implNeeded_ev (l : List S54) (L M : Int) : Ev (fun k => impl_NeededSpeed.f k l L M) (neededR l L M) := by
  have bad : ∀ {x : Bool}, ¬ (goodLegs l = true ∧ (1 ≤ L ∧ L ≤ 1000) ∧ (1 ≤ M ∧ M ≤ 100) ∧ 0 < needLeft l L M) → x = true → Ev (fun k => impl_NeededSpeed.j0 k l L M x) (neededR l L M) := by
    intro x h hx
    subst hx
    have e : neededR l L M = (0, 0, false) := if_neg h
    rw [e]
    exact Ev.step (fun k => by simp only [impl_NeededSpeed.j0]; rw [if_pos trivial]) (Ev.now _)
  refine Ev.bind (areLegs_ev l) ?_
  cases g : goodLegs l with
  | false => simp only [Bool.false_eq_true, if_false]; exact bad (by simp [g]) rfl
  | true =>
    simp only [if_true, impl_isLong.f, impl_isFast.f, within_eq, Option.bind_some, decide_eq_true_eq]
    by_cases hL : 1 ≤ L ∧ L ≤ 1000
    · simp only [if_pos hL]
      by_cases hM : 1 ≤ M ∧ M ≤ 100
      · rw [decide_eq_true hM]
        have N := need_of l g hL hM
        have hl := good_len g
        have ok := good_ok g
        refine Ev.step (fun k => by simp only [impl_NeededSpeed.j0]; rw [if_neg (by simp)]) (Ev.bind (timeOf_ev l hl.2 ok) (Ev.bind (longOf_ev l hl.2 ok) ?_))
        simp only [N.a, N.b, N.c, N.d, N.e, N.f]
        by_cases c : (longI l + L) * (timeL l).2 - (timeL l).1 * M ≤ 0
        · simp only [if_pos c]
          have e : neededR l L M = (0, 0, false) := if_neg (by rintro ⟨_, _, _, h⟩; unfold needLeft at h; omega)
          rw [e]
          exact Ev.now _
        · simp only [if_neg c]
          have e : neededR l L M = _ := if_pos ⟨g, hL, hM, by unfold needLeft; omega⟩
          rw [e]
          have ng := N.g
          exact Ev.bind (fraction_ev (by omega) (by omega) N.g.2 N.h) (Ev.now _)
      · exact bad (by rintro ⟨_, _, h, _⟩; exact hM h) (by rw [decide_eq_false hM]; rfl)
    · simp only [if_neg hL]; exact bad (by rintro ⟨_, h, _⟩; exact hL h) rfl
theorem needed_ev (l : List S54) (L M : Int) : ∃ r : Int × Int × Bool, Ev (fun k => spec_NeededSpeed.f k l L M) r ∧ Ev (fun k => impl_NeededSpeed.f k l L M) r := ⟨_, specNeeded_ev l L M, implNeeded_ev l L M⟩
theorem FnExactNeededSpeed : laws_FnExactNeededSpeed.Pure := by
  intro l x y hl _ _
  refine Ev.rounds ?_
  unfold laws_FnExactNeededSpeed.f
  rcases szLegS_cases l hl with ⟨hs, h⟩ | h
  · simp only [h, Option.bind_some, if_neg (show ¬ ((1048576 : Int) - l.length < 0) by omega)]
    obtain ⟨r, a1, a2⟩ := needed_ev (l.map cvLeg) x y
    refine Ev.bind (toLegS_ev l hs) (Ev.bind a1 (Ev.bind (toLegS_ev l hs) (Ev.bind a2 ?_)))
    simp only [bne_self_eq_false, if_true]
    refine Ev.step (fun k => by simp only [laws_FnExactNeededSpeed.j0]; rw [if_neg (by simp)]) ?_
    refine Ev.bind (toLegS_ev l hs) (Ev.bind (eqLegS_ev _ (by simpa using hs)) ?_)
    simp only [if_true]
    exact Ev.now _
  · simp only [h, Option.bind_some]
    exact Ev.now _
end Go.Proofs.Ytgcmoeokhinjdaa.Pure
