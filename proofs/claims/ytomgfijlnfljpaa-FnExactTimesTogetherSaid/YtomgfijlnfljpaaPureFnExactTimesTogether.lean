/- The program's TimesTogether returns what the reference's TimesTogether returns, for all arguments. No conditions. -/
import Derived.Test.YtomgfijlnfljpaaQBx28
import Derived.Test.YtomgfijlnfljpaaPlain
set_option linter.unusedVariables false
set_option linter.unusedSimpArgs false
namespace Go.Proofs.Ytomgfijlnfljpaa.Pure
open Go.RowKit Go.Proofs.Ytomgfijlnfljpaa.QB Go.Proofs.YtomgfijlnfljpaaW.PrintWords Go.Proofs.YtomgfijlnfljpaaW.PrintLast Go.Proofs.YtomgfijlnfljpaaW.PrintMore Go.Proofs.Ytomgfijlnfljpaa.Plain
theorem w64 {x : Int} (h1 : -9223372036854775808 ≤ x) (h2 : x ≤ 9223372036854775807) : wrap64 x = x := by unfold wrap64; omega
theorem toIntS_l0_ev (l : List Int) (hl : l.length ≤ 1048576) : ∀ i : Int, 0 ≤ i → i ≤ l.length → ∀ acc : List Int, acc.length = l.length → Ev (fun k => laws_toIntS.l0 k l acc i) (acc.take i.toNat ++ l.drop i.toNat) := by
  refine downI (fun acc ha => ?_) (fun i h0 h1 ih acc ha => ?_)
  · refine Ev.step (fun k => by simp only [laws_toIntS.l0]; rw [if_neg (by omega)]) ?_
    rw [List.take_of_length_le (by omega), List.drop_of_length_le (by omega), List.append_nil]
    exact Ev.now _
  · refine Ev.step (fun k => by simp only [laws_toIntS.l0]; rw [if_pos h1, if_pos h0, if_pos (by omega), w64 (x := i + 1) (by omega) (by omega)]) ?_
    have hi := ih (acc.set i.toNat (rd l i)) (by simpa using ha)
    rw [drop_get l 0 i h0 h1]
    rw [show (i + 1).toNat = i.toNat + 1 by omega] at hi ⊢
    rw [set_fill acc _ i.toNat _ (by omega)] at hi
    exact hi
theorem toIntS_ev (l : List Int) (hl : l.length ≤ 1048576) : Ev (fun k => laws_toIntS.f k l) l := by
  refine Ev.congr (fun k => by unfold laws_toIntS.f; rw [if_pos (by omega), if_pos (by omega)]) ?_
  have h := toIntS_l0_ev l hl 0 (by omega) (by omega) (List.replicate ((l.length : Int)).toNat 0) (by simp)
  simpa using h
theorem eqIntS_l0_ev (l : List Int) (hl : l.length ≤ 1048576) : ∀ i : Int, 0 ≤ i → i ≤ l.length → Ev (fun k => laws_eqIntS.l0 k l l i) true := by
  refine downI ?_ (fun i h0 h1 ih => ?_)
  · exact Ev.step (fun k => by simp only [laws_eqIntS.l0]; rw [if_neg (by omega)]) (Ev.now _)
  · refine Ev.step (fun k => by simp only [laws_eqIntS.l0, if_true]; rw [if_pos h1, if_pos h0, if_pos h1, w64 (x := i + 1) (by omega) (by omega)]) ih
theorem eqIntS_ev (l : List Int) (hl : l.length ≤ 1048576) : Ev (fun k => laws_eqIntS.f k l l) true := by
  refine Ev.congr (fun k => by unfold laws_eqIntS.f; rw [if_pos rfl]) ?_
  exact eqIntS_l0_ev l hl 0 (by omega) (by omega)
theorem toLine_ev (f e c : Int) (l : List Int) (hl : l.length ≤ 1048576) : Ev (fun k => laws_toLine.f k f e c l) (f, e, c, l) := by
  unfold laws_toLine.f
  exact Ev.bind (toIntS_ev l hl) (Ev.now _)
theorem eqLine_ev (f e c : Int) (l : List Int) (hl : l.length ≤ 1048576) : Ev (fun k => laws_eqLine.f k f e c l f e c l) true := by
  unfold laws_eqLine.f
  simp only [if_true]
  refine Ev.bind (eqIntS_ev l hl) ?_
  simp only [if_true]
  exact Ev.now _
theorem szLine_cases (f e c : Int) (l : List Int) (m : Int) (hm : 0 ≤ m ∧ m ≤ 1048576) (hl : l.length ≤ maxLen) : ((l.length : Int) ≤ m ∧ laws_szLine.f f e c l m = some (m - (l.length : Int))) ∨ laws_szLine.f f e c l m = some (-1) := by
  unfold maxLen at hl
  unfold laws_szLine.f laws_szIntS.f
  rw [w64 (x := m - (l.length : Int)) (by omega) (by omega)]
  by_cases h : m - (l.length : Int) < 0
  · right; rw [if_pos h]; rfl
  · left; rw [if_neg h]; simp only [Option.bind_some]; rw [if_neg h]; exact ⟨by omega, rfl⟩
/-- m, m + 1, m + 2, ..: n of them. -/
def upFrom (m : Int) : Nat → List Int
  | 0 => []
  | n + 1 => m :: upFrom (m + 1) n
theorem upFrom_length : ∀ (n : Nat) (m : Int), (upFrom m n).length = n := by
  intro n
  induction n with
  | zero => intro m; rfl
  | succ n ih => intro m; simp [upFrom, ih]
theorem markIntS_l0_ev : ∀ (d : Nat) (x : List Int) (m i : Int), 0 ≤ i → (x.length : Int) - i = d → x.length ≤ 1048576 → -1000000000 ≤ m → m + d ≤ 1000000000000 → Ev (fun k => laws_markIntS.l0 k x m i) (m + d, x.take i.toNat ++ upFrom m d) := by
  intro d
  induction d with
  | zero =>
    intro x m i h0 hd hl _ _
    refine Ev.step (fun k => by simp only [laws_markIntS.l0]; rw [if_neg (by omega)]) ?_
    rw [List.take_of_length_le (by omega)]
    simp only [upFrom, List.append_nil]
    have : m + ((0 : Nat) : Int) = m := by omega
    rw [this]
    exact Ev.now _
  | succ d ih =>
    intro x m i h0 hd hl hm hm2
    refine Ev.step (fun k => by simp only [laws_markIntS.l0]; rw [if_pos (by omega), if_pos h0, w64 (x := m + 1) (by omega) (by omega), w64 (x := i + 1) (by omega) (by omega)]) ?_
    have h := ih (x.set i.toNat m) (m + 1) (i + 1) (by omega) (by simp; omega) (by simpa using hl) (by omega) (by omega)
    rw [show (i + 1).toNat = i.toNat + 1 by omega, set_fill x (upFrom (m + 1) d) i.toNat m (by omega)] at h
    rw [show m + ((d + 1 : Nat) : Int) = m + 1 + (d : Int) by omega]
    exact h
theorem heldIntS_l0_ev : ∀ (d : Nat) (x : List Int) (m i : Int), 0 ≤ i → x.length ≤ 1048576 → x.drop i.toNat = upFrom m d → (x.length : Int) - i = d → -1000000000 ≤ m → m + d ≤ 1000000000000 → Ev (fun k => laws_heldIntS.l0 k x m i) (m + d) := by
  intro d
  induction d with
  | zero =>
    intro x m i h0 hl hx hd _ _
    refine Ev.step (fun k => by simp only [laws_heldIntS.l0]; rw [if_neg (by omega)]) ?_
    have : m + ((0 : Nat) : Int) = m := by omega
    rw [this]
    exact Ev.now _
  | succ d ih =>
    intro x m i h0 hl hx hd hm hm2
    have hi : i < (x.length : Int) := by omega
    rw [drop_get x 0 i h0 hi] at hx
    simp only [upFrom, List.cons.injEq] at hx
    have e : rd x i = m := hx.1
    refine Ev.step (fun k => by simp only [laws_heldIntS.l0]; rw [if_pos hi, if_pos h0, if_pos e, w64 (x := m + 1) (by omega) (by omega), w64 (x := i + 1) (by omega) (by omega)]) ?_
    rw [show m + ((d + 1 : Nat) : Int) = m + 1 + (d : Int) by omega]
    exact ih x (m + 1) (i + 1) (by omega) hl hx.2 (by omega) (by omega) (by omega)
theorem markIntS_ev (x : List Int) (m : Int) (hl : x.length ≤ 1048576) (h0 : 0 ≤ m) (h1 : m ≤ 1000000000) : Ev (fun k => laws_markIntS.f k x m) (m + x.length, upFrom m x.length) := by
  unfold laws_markIntS.f
  have h := markIntS_l0_ev x.length x m 0 (by omega) (by omega) hl (by omega) (by omega)
  simpa using h
theorem heldIntS_ev (n : Nat) (m : Int) (hl : n ≤ 1048576) (h0 : 0 ≤ m) (h1 : m ≤ 1000000000) : Ev (fun k => laws_heldIntS.f k (upFrom m n) m) (m + n) := by
  unfold laws_heldIntS.f
  have h := heldIntS_l0_ev n (upFrom m n) m 0 (by omega) (by rw [upFrom_length]; exact hl) (by simp) (by rw [upFrom_length]; omega) (by omega) (by omega)
  simpa using h
theorem in_eq (a b c : Int) : spec_l1In.f a b c = some (decide (b ≤ a ∧ a ≤ c)) := by
  unfold spec_l1In.f
  by_cases h : a ≥ b
  · rw [if_pos h]; congr 1; simp; omega
  · rw [if_neg h]; congr 1; simp; omega
theorem within_eq (a b c : Int) : impl_within.f a b c = some (decide (b ≤ a ∧ a ≤ c)) := by
  unfold impl_within.f
  by_cases h : a ≥ b
  · rw [if_pos h]; congr 1; simp; omega
  · rw [if_neg h]; congr 1; simp; omega
structure GoodLine (f e c : Int) (st : List Int) : Prop where
  first : 0 ≤ f ∧ f ≤ 2000
  every : 1 ≤ e ∧ e ≤ 2000
  count : 1 ≤ c ∧ c ≤ 60
  last : f + (c - 1) * e ≤ 2000
  stops : 2 ≤ (st.length : Int) ∧ (st.length : Int) ≤ 12
  zero : rd st 0 = 0
  rise : ∀ i : Int, 1 ≤ i → i < st.length → rd st (i - 1) < rd st i
  top : rd st (st.length - 1) ≤ 500
theorem GoodLine.range {f e c : Int} {st : List Int} (h : GoodLine f e c st) : ∀ i : Int, 0 ≤ i → i < st.length → 0 ≤ rd st i ∧ rd st i ≤ 500 := by
  have up : ∀ n : Nat, (n : Int) < st.length → 0 ≤ rd st n := by
    intro n
    induction n with
    | zero => intro _; have := h.zero; simp at this ⊢; omega
    | succ n ih =>
      intro hn
      have := h.rise ((n + 1 : Nat) : Int) (by omega) hn
      have := ih (by omega)
      rw [show (((n + 1 : Nat) : Int) - 1) = (n : Int) by omega] at *
      omega
  have dn : ∀ i : Int, 0 ≤ i → i ≤ st.length - 1 → rd st i ≤ 500 := by
    refine downI h.top (fun i h0 h1 ih => ?_)
    have := h.rise (i + 1) (by omega) (by omega)
    rw [show i + 1 - 1 = i by omega] at this
    omega
  intro i h0 h1
  have := up i.toNat (by omega)
  rw [show ((i.toNat : Nat) : Int) = i by omega] at this
  exact ⟨this, dn i h0 (by omega)⟩
theorem rising_ev (st : List Int) (hs : st.length ≤ 12) : ∀ i : Int, 0 ≤ i → i ≤ st.length → ∃ b : Bool, Ev (fun k => spec_l1Rising.l0 k st 0 500 st st.length i) b ∧ (b = true ↔ ∀ j : Int, i ≤ j → j < st.length → (0 ≤ rd st j ∧ rd st j ≤ 500) ∧ (0 < j → rd st (j - 1) < rd st j)) := by
  refine downI ?_ (fun i h0 h1 ih => ?_)
  · exact ⟨true, Ev.step (fun k => by simp only [spec_l1Rising.l0]; rw [if_neg (by omega)]) (Ev.now _), by simp; intro j hj hj2; omega⟩
  · obtain ⟨b, hb, hiff⟩ := ih
    have st0 : ∀ k, spec_l1Rising.l0 (k + 1) st 0 500 st st.length i = if decide (0 ≤ rd st i ∧ rd st i ≤ 500) = true then (if i > 0 then (if 0 ≤ i - 1 then (if i - 1 < (st.length : Int) then (if rd st (i - 1) ≥ rd st i then some false else spec_l1Rising.l0 k st 0 500 st st.length (i + 1)) else none) else none) else spec_l1Rising.l0 k st 0 500 st st.length (i + 1)) else some false := fun k => by
      simp only [spec_l1Rising.l0, in_eq, Option.bind_some]
      rw [if_pos h1, if_pos h0, if_pos h1, w64 (x := i + 1) (by omega) (by omega), w64 (x := i - 1) (by omega) (by omega)]
    by_cases a : 0 ≤ rd st i ∧ rd st i ≤ 500
    · by_cases z : i > 0
      · by_cases r : rd st (i - 1) ≥ rd st i
        · refine ⟨false, Ev.step (fun k => by rw [st0, if_pos (decide_eq_true a), if_pos z, if_pos (by omega), if_pos (by omega), if_pos r]) (Ev.now _), ?_⟩
          refine ⟨fun h => (by cases h), fun h => ?_⟩
          have := (h i (Int.le_refl _) h1).2 z
          omega
        · refine ⟨b, Ev.step (fun k => by rw [st0, if_pos (decide_eq_true a), if_pos z, if_pos (by omega), if_pos (by omega), if_neg r]) hb, ?_⟩
          rw [hiff]
          refine ⟨fun h j hj hj2 => ?_, fun h j hj hj2 => h j (by omega) hj2⟩
          by_cases e : j = i
          · subst e; exact ⟨a, fun _ => by omega⟩
          · exact h j (by omega) hj2
      · refine ⟨b, Ev.step (fun k => by rw [st0, if_pos (decide_eq_true a), if_neg z]) hb, ?_⟩
        rw [hiff]
        refine ⟨fun h j hj hj2 => ?_, fun h j hj hj2 => h j (by omega) hj2⟩
        by_cases e : j = i
        · subst e; exact ⟨a, fun q => absurd q z⟩
        · exact h j (by omega) hj2
    · refine ⟨false, Ev.step (fun k => by rw [st0, if_neg (by simpa using a)]) (Ev.now _), ?_⟩
      exact ⟨fun h => (by cases h), fun h => absurd (h i (Int.le_refl _) h1).1 a⟩
theorem increasing_ev (st : List Int) (hs : st.length ≤ 12) : ∀ i : Int, 1 ≤ i → i ≤ st.length → ∃ b : Bool, Ev (fun k => impl_increasing.l0 k st i) b ∧ (b = true ↔ ∀ j : Int, i ≤ j → j < st.length → rd st (j - 1) < rd st j) := by
  refine downA ?_ (fun i h0 h1 ih => ?_)
  · exact ⟨true, Ev.step (fun k => by simp only [impl_increasing.l0]; rw [if_neg (by omega)]) (Ev.now _), by simp; intro j hj hj2; omega⟩
  · obtain ⟨b, hb, hiff⟩ := ih
    have st0 : ∀ k, impl_increasing.l0 (k + 1) st i = if rd st (i - 1) ≥ rd st i then some false else impl_increasing.l0 k st (i + 1) := fun k => by
      simp only [impl_increasing.l0]
      rw [w64 (x := i + 1) (by omega) (by omega), w64 (x := i - 1) (by omega) (by omega), if_pos h1, if_pos (by omega), if_pos (by omega), if_pos (by omega)]
    by_cases r : rd st (i - 1) ≥ rd st i
    · refine ⟨false, Ev.step (fun k => by rw [st0, if_pos r]) (Ev.now _), ?_⟩
      refine ⟨fun h => (by cases h), fun h => ?_⟩
      have := h i (Int.le_refl _) h1
      omega
    · refine ⟨b, Ev.step (fun k => by rw [st0, if_neg r]) hb, ?_⟩
      rw [hiff]
      refine ⟨fun h j hj hj2 => ?_, fun h j hj hj2 => h j (by omega) hj2⟩
      by_cases e : j = i
      · subst e; omega
      · exact h j (by omega) hj2
theorem line_sum {f e c : Int} (hf : 0 ≤ f ∧ f ≤ 2000) (he : 1 ≤ e ∧ e ≤ 2000) (hc : 1 ≤ c ∧ c ≤ 60) : wrap64 (f + wrap64 (wrap64 (c - 1) * e)) = f + (c - 1) * e := by
  have b := mul_bd (A := 60) (B := 2000) (by omega : 0 ≤ c - 1) (by omega) (by omega : 0 ≤ e) (by omega)
  rw [w64 (x := c - 1) (by omega) (by omega), w64 (x := (c - 1) * e) (by omega) (by omega), w64 (by omega) (by omega)]
theorem buGood_ev (f e c : Int) (st : List Int) : Ev (fun k => spec_buGood.f k f e c st) (dec (GoodLine f e c st)) := by
  have bad : ∀ {x : Bool}, ¬ GoodLine f e c st → x = true → Ev (fun k => spec_buGood.j0 k x f e c st) (dec (GoodLine f e c st)) := by
    intro x hn hx
    subst hx
    rw [dec_false hn]
    exact Ev.step (fun k => by simp only [spec_buGood.j0]; rw [if_pos trivial]) (Ev.now _)
  unfold spec_buGood.f
  simp only [in_eq, Option.bind_some, decide_eq_true_eq]
  by_cases h1 : 0 ≤ f ∧ f ≤ 2000
  · by_cases h2 : 1 ≤ e ∧ e ≤ 2000
    · simp only [if_pos h1, if_pos h2]
      by_cases h3 : 1 ≤ c ∧ c ≤ 60
      · have e3 : (!decide (1 ≤ c ∧ c ≤ 60)) = false := by rw [decide_eq_true h3]; rfl
        rw [e3]
        refine Ev.step (fun k => by simp only [spec_buGood.j0]; rw [if_neg (by simp), line_sum h1 h2 h3, in_eq, Option.bind_some]) ?_
        by_cases h4 : f + (c - 1) * e > 2000
        · rw [dec_false (fun g => by have := g.last; omega)]
          simp only [if_pos h4]; exact Ev.now _
        · simp only [if_neg h4]
          by_cases h5 : 2 ≤ (st.length : Int) ∧ (st.length : Int) ≤ 12
          · simp only [if_pos (decide_eq_true h5), if_pos (show 0 < (st.length : Int) by omega)]
            by_cases h6 : rd st 0 = 0
            · simp only [if_pos h6]
              obtain ⟨b, hb, hiff⟩ := rising_ev st (by omega) 0 (by omega) (by omega)
              have : b = dec (GoodLine f e c st) := dec_of (by
                rw [hiff]
                refine ⟨fun h => ⟨h1, h2, h3, by omega, h5, h6, fun i hi hi2 => (h i (by omega) hi2).2 (by omega), (h (st.length - 1) (by omega) (by omega)).1.2⟩, fun g j hj hj2 => ⟨g.range j hj hj2, fun hp => g.rise j (by omega) hj2⟩⟩)
              rw [← this]
              exact Ev.bind hb (Ev.now _)
            · rw [dec_false (fun g => h6 g.zero)]
              simp only [if_neg h6]; exact Ev.now _
          · rw [dec_false (fun g => h5 g.stops)]
            have : decide (2 ≤ (st.length : Int) ∧ (st.length : Int) ≤ 12) = false := decide_eq_false h5
            simp only [this, Bool.false_eq_true, if_false]; exact Ev.now _
      · exact bad (fun g => h3 g.count) (by rw [decide_eq_false h3]; rfl)
    · simp only [if_pos h1, if_neg h2]
      exact bad (fun g => h2 g.every) rfl
  · simp only [if_neg h1]
    exact bad (fun g => h1 g.first) rfl
theorem isLine_ev (f e c : Int) (st : List Int) : Ev (fun k => impl_IsLine.f k f e c st) (dec (GoodLine f e c st)) := by
  have bad : ∀ {x : Bool}, ¬ GoodLine f e c st → x = true → Ev (fun k => impl_IsLine.j0 k x f e c st) (dec (GoodLine f e c st)) := by
    intro x hn hx
    subst hx
    rw [dec_false hn]
    exact Ev.step (fun k => by simp only [impl_IsLine.j0]; rw [if_pos trivial]) (Ev.now _)
  unfold impl_IsLine.f impl_isMinute.f
  simp only [within_eq, Option.bind_some, decide_eq_true_eq]
  by_cases h1 : 0 ≤ f ∧ f ≤ 2000
  · by_cases h2 : 1 ≤ e ∧ e ≤ 2000
    · by_cases h3 : 1 ≤ c ∧ c ≤ 60
      · simp only [if_pos h1, if_pos h2, if_pos h3, line_sum h1 h2 h3]
        by_cases h4 : f + (c - 1) * e > 2000
        · exact bad (fun g => by have := g.last; omega) (decide_eq_true h4)
        · rw [decide_eq_false h4]
          refine Ev.step (fun k => by simp only [impl_IsLine.j0]; rw [if_neg (by simp), within_eq, Option.bind_some]) ?_
          by_cases h5 : 2 ≤ (st.length : Int) ∧ (st.length : Int) ≤ 12
          · simp only [if_pos (decide_eq_true h5), if_pos (show 0 < (st.length : Int) by omega)]
            by_cases h6 : rd st 0 = 0
            · simp only [if_pos h6]
              obtain ⟨b, hb, hiff⟩ := increasing_ev st (by omega) 1 (by omega) (by omega)
              refine Ev.bind (g := fun k => impl_increasing.f k st) hb ?_
              rw [w64 (x := (st.length : Int) - 1) (by omega) (by omega)]
              simp only [if_pos (show 0 ≤ (st.length : Int) - 1 by omega), if_pos (show (st.length : Int) - 1 < st.length by omega)]
              by_cases hb2 : b = true
              · simp only [if_pos hb2]
                have : decide (rd st ((st.length : Int) - 1) ≤ 500) = dec (GoodLine f e c st) := dec_of (by
                  rw [decide_eq_true_iff]
                  exact ⟨fun h => ⟨h1, h2, h3, by omega, h5, h6, hiff.1 hb2, h⟩, fun g => g.top⟩)
                rw [← this]
                exact Ev.now _
              · rw [dec_false (fun g => hb2 (hiff.2 g.rise))]
                simp only [if_neg hb2]; exact Ev.now _
            · rw [dec_false (fun g => h6 g.zero)]
              simp only [if_neg h6]; exact Ev.now _
          · rw [dec_false (fun g => h5 g.stops)]
            have : decide (2 ≤ (st.length : Int) ∧ (st.length : Int) ≤ 12) = false := decide_eq_false h5
            simp only [this, Bool.false_eq_true, if_false]; exact Ev.now _
      · simp only [if_pos h1, if_pos h2, if_neg h3]
        exact bad (fun g => h3 g.count) rfl
    · simp only [if_pos h1, if_neg h2]
      exact bad (fun g => h2 g.every) rfl
  · simp only [if_neg h1]
    exact bad (fun g => h1 g.first) rfl
def inB (lo hi : Int) (x : Int) : Bool := decide (lo ≤ x ∧ x ≤ hi)
theorem allWithin_l0_ev (l : List Int) (lo hi : Int) (hl : l.length ≤ 1048576) : ∀ i : Int, 0 ≤ i → i ≤ l.length → Ev (fun k => impl_allWithin.l0 k lo hi l l.length i) ((l.drop i.toNat).all (inB lo hi)) := by
  refine downI ?_ (fun i h0 h1 ih => ?_)
  · refine Ev.step (fun k => by simp only [impl_allWithin.l0]; rw [if_neg (by omega)]) ?_
    rw [List.drop_of_length_le (by omega)]
    exact Ev.now _
  · rw [drop_get l 0 i h0 h1, List.all_cons]
    refine Ev.step (f := fun k => if inB lo hi (rd l i) = true then impl_allWithin.l0 k lo hi l l.length (i + 1) else some false) (fun k => by simp only [impl_allWithin.l0, within_eq, Option.bind_some]; rw [if_pos h1, if_pos h0, if_pos h1, w64 (x := i + 1) (by omega) (by omega)]; rfl) ?_
    show Ev _ (inB lo hi (rd l i) && _)
    cases inB lo hi (rd l i)
    · simp only [Bool.false_and, Bool.false_eq_true, if_false]; exact Ev.now _
    · simp only [Bool.true_and, if_true]; exact ih
theorem allWithin_ev (l : List Int) (lo hi : Int) (hl : l.length ≤ 1048576) : Ev (fun k => impl_allWithin.f k l lo hi) (l.all (inB lo hi)) := by
  unfold impl_allWithin.f
  exact allWithin_l0_ev l lo hi hl 0 (by omega) (by omega)
/-- The minute at which the bus b is at the stop s. -/
def tat (f e : Int) (st : List Int) (b s : Int) : Int := f + b * e + rd st s
def StopOf (st : List Int) (s : Int) : Prop := 0 ≤ s ∧ s < st.length
theorem tat_bd {f e c : Int} {st : List Int} (G : GoodLine f e c st) {b s : Int} (hb : 0 ≤ b ∧ b < c) (hs : StopOf st s) : 0 ≤ tat f e st b s ∧ tat f e st b s ≤ 2500 ∧ 0 ≤ b * e ∧ b * e ≤ (c - 1) * e ∧ (c - 1) * e ≤ 2000 := by
  have r := G.range s hs.1 hs.2
  have h1 := G.first
  have h2 := G.every
  have h4 := G.last
  have m1 := mul_le_r (c := e) (by omega) (show b ≤ c - 1 by omega)
  have m2 := Int.mul_nonneg hb.1 (show 0 ≤ e by omega)
  unfold tat
  omega
theorem tat_w {f e c : Int} {st : List Int} (G : GoodLine f e c st) {b s : Int} (hb : 0 ≤ b ∧ b < c) (hs : StopOf st s) : wrap64 (wrap64 (f + wrap64 (b * e)) + rd st s) = tat f e st b s := by
  have t := tat_bd G hb hs
  have r := G.range s hs.1 hs.2
  have h1 := G.first
  rw [w64 (x := b * e) (by omega) (by omega), w64 (x := f + b * e) (by omega) (by omega), w64 (by omega) (by omega)]
  rfl
theorem buTime_eq {f e c : Int} {st : List Int} (G : GoodLine f e c st) {b s : Int} (hb : 0 ≤ b ∧ b < c) (hs : StopOf st s) : spec_buTime.f f e c st b s = some (tat f e st b s) := by
  unfold spec_buTime.f
  rw [if_pos hs.1, if_pos hs.2, tat_w G hb hs]
theorem timeAt_eq {f e c : Int} {st : List Int} (G : GoodLine f e c st) {b s : Int} (hb : 0 ≤ b ∧ b < c) (hs : StopOf st s) : impl_timeAt.f f e c st b s = some (tat f e st b s) := by
  unfold impl_timeAt.f
  rw [if_pos hs.1, if_pos hs.2, tat_w G hb hs]
theorem tat_mono {f e c : Int} {st : List Int} (G : GoodLine f e c st) (b : Int) : ∀ s : Int, 0 ≤ s → s ≤ st.length - 1 → ∀ s', s ≤ s' → s' ≤ st.length - 1 → tat f e st b s ≤ tat f e st b s' := by
  have up : ∀ n : Nat, ∀ s : Int, 0 ≤ s → s + n ≤ st.length - 1 → rd st s ≤ rd st (s + n) := by
    intro n
    induction n with
    | zero => intro s _ _; simp
    | succ n ih =>
      intro s h0 h1
      have a := ih s h0 (by omega)
      have b := G.rise (s + ((n + 1 : Nat) : Int)) (by omega) (by omega)
      rw [show s + ((n + 1 : Nat) : Int) - 1 = s + (n : Int) by omega] at b
      omega
  intro s h0 _ s' h2 h3
  have := up (s' - s).toNat s h0 (by omega)
  rw [show s + ((s' - s).toNat : Int) = s' by omega] at this
  unfold tat
  omega
theorem hasStops_ev (f e c : Int) (st stops : List Int) (hl : stops.length ≤ 1048576) : Ev (fun k => impl_hasStops.f k f e c st stops) (dec (GoodLine f e c st ∧ ∀ s, s ∈ stops → StopOf st s)) := by
  unfold impl_hasStops.f
  refine Ev.bind (isLine_ev f e c st) ?_
  by_cases g : GoodLine f e c st
  · rw [dec_true g]
    simp only [if_true]
    have h5 := g.stops
    rw [w64 (x := (st.length : Int) - 1) (by omega) (by omega)]
    have : stops.all (inB 0 ((st.length : Int) - 1)) = dec (GoodLine f e c st ∧ ∀ s, s ∈ stops → StopOf st s) := dec_of (by
      rw [List.all_eq_true]
      refine ⟨fun h => ⟨g, fun s hs => ?_⟩, fun h s hs => ?_⟩
      · have := h s hs
        unfold inB at this
        have := of_decide_eq_true this
        exact ⟨by omega, by omega⟩
      · have := h.2 s hs
        unfold inB
        exact decide_eq_true ⟨this.1, by have := this.2; omega⟩)
    rw [← this]
    exact Ev.bind (allWithin_ev stops _ _ hl) (Ev.now _)
  · rw [dec_false g, dec_false (fun h => g h.1)]
    simp only [Bool.false_eq_true, if_false]
    exact Ev.now _
theorem hasStops0_ev (f e c : Int) (st : List Int) : Ev (fun k => impl_hasStops.f k f e c st []) (dec (GoodLine f e c st)) := by
  have h := hasStops_ev f e c st [] (by simp)
  have : dec (GoodLine f e c st ∧ ∀ s, s ∈ ([] : List Int) → StopOf st s) = dec (GoodLine f e c st) := dec_of (by rw [dec_iff]; simp)
  rw [this] at h
  exact h
theorem hasStops1_ev (f e c : Int) (st : List Int) (s : Int) : Ev (fun k => impl_hasStops.f k f e c st [s]) (dec (GoodLine f e c st ∧ StopOf st s)) := by
  have h := hasStops_ev f e c st [s] (by simp)
  have : dec (GoodLine f e c st ∧ ∀ x, x ∈ [s] → StopOf st x) = dec (GoodLine f e c st ∧ StopOf st s) := dec_of (by rw [dec_iff]; simp)
  rw [this] at h
  exact h
theorem hasStops2_ev (f e c : Int) (st : List Int) (s t : Int) : Ev (fun k => impl_hasStops.f k f e c st [s, t]) (dec (GoodLine f e c st ∧ StopOf st s ∧ StopOf st t)) := by
  have h := hasStops_ev f e c st [s, t] (by simp)
  have : dec (GoodLine f e c st ∧ ∀ x, x ∈ [s, t] → StopOf st x) = dec (GoodLine f e c st ∧ StopOf st s ∧ StopOf st t) := dec_of (by rw [dec_iff]; simp)
  rw [this] at h
  exact h
theorem buStop_ev (f e c : Int) (st : List Int) (s : Int) : Ev (fun k => spec_buStop.f k f e c st s) (dec (GoodLine f e c st ∧ StopOf st s)) := by
  unfold spec_buStop.f
  refine Ev.bind (buGood_ev f e c st) ?_
  by_cases g : GoodLine f e c st
  · rw [dec_true g]
    have h5 := g.stops
    simp only [if_true, in_eq, Option.bind_some]
    rw [w64 (x := (st.length : Int) - 1) (by omega) (by omega)]
    have : decide (0 ≤ s ∧ s ≤ (st.length : Int) - 1) = dec (GoodLine f e c st ∧ StopOf st s) := dec_of (by
      rw [decide_eq_true_iff]
      exact ⟨fun h => ⟨g, h.1, by omega⟩, fun h => ⟨h.2.1, by have := h.2.2; omega⟩⟩)
    rw [← this]
    exact Ev.now _
  · rw [dec_false g, dec_false (fun h => g h.1)]
    simp only [Bool.false_eq_true, if_false]
    exact Ev.now _
theorem isMinute_eq (m : Int) : impl_isMinute.f m = some (decide (0 ≤ m ∧ m ≤ 2000)) := by unfold impl_isMinute.f; rw [within_eq]; rfl
/-- The first bus, of buses without end, that is at the stop s at the minute m or later. -/
def nextB (f e : Int) (st : List Int) (s m : Int) : Int := mx 0 (Int.tdiv (m - tat f e st 0 s + e - 1) e)
theorem nextB_nn (f e : Int) (st : List Int) (s m : Int) : 0 ≤ nextB f e st s m := by unfold nextB mx; split <;> omega
theorem nextB_iff {f e : Int} {st : List Int} {s m b : Int} (he : 1 ≤ e) (hb : 0 ≤ b) : m ≤ tat f e st b s ↔ nextB f e st s m ≤ b := by
  have e0 : tat f e st b s = tat f e st 0 s + b * e := by unfold tat; rw [Int.zero_mul]; omega
  rw [e0]
  unfold nextB
  generalize tat f e st 0 s = t
  have be := Int.mul_nonneg hb (show 0 ≤ e by omega)
  have key : mx 0 (Int.tdiv (m - t + e - 1) e) ≤ b ↔ Int.tdiv (m - t + e - 1) e ≤ b := by unfold mx; split <;> omega
  rw [key]
  by_cases h : 0 ≤ m - t + e - 1
  · rw [Int.tdiv_eq_ediv_of_nonneg h]
    rw [Int.ediv_le_iff_le_mul (show 0 < e by omega)]
    omega
  · have h1 : Int.tdiv (m - t + e - 1) e ≤ 0 := by
      have := Int.neg_tdiv (a := -(m - t + e - 1)) (b := e)
      rw [Int.neg_neg] at this
      rw [this]
      have := Int.tdiv_nonneg (a := -(m - t + e - 1)) (b := e) (by omega) (by omega)
      omega
    omega
theorem nextB_le {f e c : Int} {st : List Int} (G : GoodLine f e c st) {s m : Int} (hs : StopOf st s) (hm : m ≤ 1000000) : nextB f e st s m ≤ 2000000 := by
  have h := (nextB_iff (f := f) (st := st) (s := s) (m := m) (b := 2000000) G.every.1 (by omega)).1
  refine h ?_
  have r := G.range s hs.1 hs.2
  have h1 := G.first
  have h2 := G.every
  unfold tat
  omega
theorem nextBus_eq {f e c : Int} {st : List Int} (G : GoodLine f e c st) {s m : Int} (hs : StopOf st s) (hm0 : -1000000 ≤ m) (hm : m ≤ 1000000) :
    impl_nextBus.f f e c st s m = some (if nextB f e st s m < c then (nextB f e st s m, tat f e st (nextB f e st s m) s, true) else (0, 0, false)) := by
  have r := G.range s hs.1 hs.2
  have h1 := G.first
  have h2 := G.every
  have h3 := G.count
  have t0 := tat_bd G (show 0 ≤ (0 : Int) ∧ 0 < c by omega) hs
  unfold impl_nextBus.f
  rw [timeAt_eq G (by omega) hs]
  simp only [Option.bind_some, if_neg (show ¬ e = 0 by omega)]
  rw [w64 (x := m - tat f e st 0 s) (by omega) (by omega), w64 (x := m - tat f e st 0 s + e) (by omega) (by omega), w64 (x := m - tat f e st 0 s + e - 1) (by omega) (by omega)]
  have hd : -9223372036854775808 ≤ Int.tdiv (m - tat f e st 0 s + e - 1) e ∧ Int.tdiv (m - tat f e st 0 s + e - 1) e ≤ 9223372036854775807 := by
    have := Int.natAbs_tdiv_le_natAbs (m - tat f e st 0 s + e - 1) e
    omega
  rw [w64 hd.1 hd.2]
  change (if nextB f e st s m ≥ c then _ else _) = _
  by_cases h : nextB f e st s m < c
  · rw [if_neg (by omega), if_pos h]
    have := nextB_nn f e st s m
    change (impl_timeAt.f f e c st (nextB f e st s m) s).bind _ = _
    rw [timeAt_eq G (by omega) hs]
    rfl
  · rw [if_pos (by omega), if_neg h]
theorem buNext_l0_ev {f e c : Int} {st : List Int} (G : GoodLine f e c st) {s : Int} (m : Int) (hs : StopOf st s) : ∀ i : Int, 0 ≤ i → i ≤ c → i ≤ nextB f e st s m → Ev (fun k => spec_buNext.l0 k s m i f e c st) (if nextB f e st s m < c then nextB f e st s m else -1) := by
  have h3 := G.count
  refine downI (fun h => ?_) (fun i h0 h1 ih h => ?_)
  · refine Ev.step (fun k => by simp only [spec_buNext.l0]; rw [if_neg (by omega)]) ?_
    rw [if_neg (by omega)]
    exact Ev.now _
  · have iff := nextB_iff (f := f) (st := st) (s := s) (m := m) (b := i) G.every.1 h0
    by_cases c1 : tat f e st i s ≥ m
    · have := iff.1 c1
      have e1 : nextB f e st s m = i := by omega
      rw [e1, if_pos h1]
      exact Ev.step (fun k => by simp only [spec_buNext.l0]; rw [if_pos h1, buTime_eq G ⟨h0, h1⟩ hs, Option.bind_some, if_pos c1]) (Ev.now _)
    · have : ¬ nextB f e st s m ≤ i := fun h => c1 (iff.2 h)
      refine Ev.step (fun k => by simp only [spec_buNext.l0]; rw [if_pos h1, buTime_eq G ⟨h0, h1⟩ hs, Option.bind_some, if_neg c1, w64 (x := i + 1) (by omega) (by omega)]) (ih (by omega))
theorem buNext_ev {f e c : Int} {st : List Int} (G : GoodLine f e c st) {s : Int} (m : Int) (hs : StopOf st s) : Ev (fun k => spec_buNext.f k f e c st s m) (if nextB f e st s m < c then nextB f e st s m else -1) :=
  buNext_l0_ev G m hs 0 (by omega) (by have := G.count; omega) (nextB_nn f e st s m)
theorem together_l0_ev {f e c : Int} {st : List Int} (G : GoodLine f e c st) {s : Int} (hs : StopOf st s) {f2 e2 c2 : Int} {st2 : List Int} (G2 : GoodLine f2 e2 c2 st2) {s2 : Int} (hs2 : StopOf st2 s2) : ∀ i : Int, 0 ≤ i → i ≤ c → ∀ acc : List Int, (acc.length : Int) ≤ i →
    ∃ r : List Int, Ev (fun k => spec_TimesTogether.l0 k s s2 acc i f e c st f2 e2 c2 st2) (r, true) ∧ Ev (fun k => impl_TimesTogether.l0 k s s2 acc c i f e c st f2 e2 c2 st2) (r, true) ∧ (r.length : Int) ≤ c := by
  have h3 := G.count
  refine downI (fun acc ha => ?_) (fun i h0 h1 ih acc ha => ?_)
  · exact ⟨acc, Ev.step (fun k => by simp only [spec_TimesTogether.l0]; rw [if_neg (by omega)]) (Ev.now _), Ev.step (fun k => by simp only [impl_TimesTogether.l0]; rw [if_neg (by omega)]) (Ev.now _), ha⟩
  · have w1 : wrap64 (i + 1) = i + 1 := w64 (by omega) (by omega)
    have tb := tat_bd G ⟨h0, h1⟩ hs
    have sp2 : ∀ k, spec_TimesTogether.l0 (k + 1) s s2 acc i f e c st f2 e2 c2 st2 = (spec_buNext.f k f2 e2 c2 st2 s2 (tat f e st i s)).bind (fun t615 => if t615 ≥ 0 then ((spec_buTime.f f2 e2 c2 st2 t615 s2).bind fun t616 => (if t616 = tat f e st i s then (if acc.length < 17592186044416 then (spec_TimesTogether.l0 k s s2 (acc ++ [tat f e st i s]) (i + 1) f e c st f2 e2 c2 st2) else (none)) else (spec_TimesTogether.l0 k s s2 acc (i + 1) f e c st f2 e2 c2 st2))) else (spec_TimesTogether.l0 k s s2 acc (i + 1) f e c st f2 e2 c2 st2)) := by
      intro k
      simp only [spec_TimesTogether.l0]
      rw [if_pos h1, buTime_eq G ⟨h0, h1⟩ hs, Option.bind_some, w1]
    have im : ∀ k, impl_TimesTogether.l0 (k + 1) s s2 acc c i f e c st f2 e2 c2 st2 = (if nextB f2 e2 st2 s2 (tat f e st i s) < c2 then (if tat f2 e2 st2 (nextB f2 e2 st2 s2 (tat f e st i s)) s2 = tat f e st i s then (if acc.length < 17592186044416 then (impl_TimesTogether.l0 k s s2 (acc ++ [tat f2 e2 st2 (nextB f2 e2 st2 s2 (tat f e st i s)) s2]) c (i + 1) f e c st f2 e2 c2 st2) else none) else impl_TimesTogether.l0 k s s2 acc c (i + 1) f e c st f2 e2 c2 st2) else impl_TimesTogether.l0 k s s2 acc c (i + 1) f e c st f2 e2 c2 st2) := by
      intro k
      simp only [impl_TimesTogether.l0]
      rw [if_pos h1, timeAt_eq G ⟨h0, h1⟩ hs, Option.bind_some, nextBus_eq G2 hs2 (by omega) (by omega), w1]
      by_cases d : nextB f2 e2 st2 s2 (tat f e st i s) < c2
      · simp only [if_pos d, Option.bind_some, if_true]
      · simp only [if_neg d, Option.bind_some, Bool.false_eq_true, if_false]
    have nn := nextB_nn f2 e2 st2 s2 (tat f e st i s)
    by_cases d : nextB f2 e2 st2 s2 (tat f e st i s) < c2
    · by_cases z : tat f2 e2 st2 (nextB f2 e2 st2 s2 (tat f e st i s)) s2 = tat f e st i s
      · obtain ⟨r, a1, a2, a3⟩ := ih (acc ++ [tat f e st i s]) (by simp; omega)
        refine ⟨r, Ev.step sp2 (Ev.bind (buNext_ev G2 _ hs2) ?_), Ev.step (fun k => by rw [im, if_pos d, if_pos z, if_pos (by omega), z]) a2, a3⟩
        simp only [if_pos d, if_pos nn, buTime_eq G2 ⟨nn, d⟩ hs2, Option.bind_some, if_pos z, if_pos (show acc.length < 17592186044416 by omega)]
        exact a1
      · obtain ⟨r, a1, a2, a3⟩ := ih acc (by omega)
        refine ⟨r, Ev.step sp2 (Ev.bind (buNext_ev G2 _ hs2) ?_), Ev.step (fun k => by rw [im, if_pos d, if_neg z]) a2, a3⟩
        simp only [if_pos d, if_pos nn, buTime_eq G2 ⟨nn, d⟩ hs2, Option.bind_some, if_neg z]
        exact a1
    · obtain ⟨r, a1, a2, a3⟩ := ih acc (by omega)
      refine ⟨r, Ev.step sp2 (Ev.bind (buNext_ev G2 _ hs2) ?_), Ev.step (fun k => by rw [im, if_neg d]) a2, a3⟩
      simp only [if_neg d, if_neg (show ¬ (-1 : Int) ≥ 0 by omega)]
      exact a1
theorem together_told (f e c : Int) (st : List Int) (s : Int) (f2 e2 c2 : Int) (st2 : List Int) (s2 : Int) : ∃ (r : List Int) (q : Bool), Ev (fun k => spec_TimesTogether.f k f e c st s f2 e2 c2 st2 s2) (r, q) ∧ Ev (fun k => impl_TimesTogether.f k f e c st s f2 e2 c2 st2 s2) (r, q) ∧ r.length ≤ 60 := by
  by_cases g : GoodLine f e c st ∧ StopOf st s
  · by_cases g2 : GoodLine f2 e2 c2 st2 ∧ StopOf st2 s2
    · have h3 := g.1.count
      obtain ⟨r, a1, a2, a3⟩ := together_l0_ev g.1 g.2 g2.1 g2.2 0 (by omega) (by omega) [] (by simp)
      refine ⟨r, true, Ev.bind (buStop_ev f e c st s) ?_, Ev.bind (hasStops1_ev f e c st s) ?_, by omega⟩
      · rw [dec_true g]
        simp only [if_true]
        refine Ev.bind (buStop_ev f2 e2 c2 st2 s2) ?_
        rw [dec_true g2]
        exact Ev.step (fun k => by simp only [spec_TimesTogether.j0]; rw [if_neg (by simp)]) a1
      · rw [dec_true g]
        simp only [if_true]
        refine Ev.bind (hasStops1_ev f2 e2 c2 st2 s2) ?_
        rw [dec_true g2]
        exact Ev.step (fun k => by simp only [impl_TimesTogether.j0]; rw [if_neg (by simp)]) a2
    · refine ⟨[], false, Ev.bind (buStop_ev f e c st s) ?_, Ev.bind (hasStops1_ev f e c st s) ?_, by simp⟩
      · rw [dec_true g]
        simp only [if_true]
        refine Ev.bind (buStop_ev f2 e2 c2 st2 s2) ?_
        rw [dec_false g2]
        exact Ev.step (fun k => by simp only [spec_TimesTogether.j0]; rw [if_pos (by simp)]) (Ev.now _)
      · rw [dec_true g]
        simp only [if_true]
        refine Ev.bind (hasStops1_ev f2 e2 c2 st2 s2) ?_
        rw [dec_false g2]
        exact Ev.step (fun k => by simp only [impl_TimesTogether.j0]; rw [if_pos (by simp)]) (Ev.now _)
  · refine ⟨[], false, Ev.bind (buStop_ev f e c st s) ?_, Ev.bind (hasStops1_ev f e c st s) ?_, by simp⟩
    · rw [dec_false g]
      simp only [Bool.false_eq_true, if_false]
      exact Ev.step (fun k => by simp only [spec_TimesTogether.j0]; rw [if_pos (by simp)]) (Ev.now _)
    · rw [dec_false g]
      simp only [Bool.false_eq_true, if_false]
      exact Ev.step (fun k => by simp only [impl_TimesTogether.j0]; rw [if_pos (by simp)]) (Ev.now _)
theorem markLine_ev (f e c : Int) (l : List Int) (m : Int) (hl : l.length ≤ 1048576) (h0 : 0 ≤ m) (h1 : m ≤ 1000000000) : Ev (fun k => laws_markLine.f k f e c l m) (m + l.length, upFrom m l.length) := Ev.bind (markIntS_ev l m hl h0 h1) (Ev.now _)
theorem FnExactTimesTogether : laws_FnExactTimesTogether.Pure := by
  intro f e c l s f2 e2 c2 l2 s2 hl hl2 _ _
  refine Ev.rounds ?_
  unfold laws_FnExactTimesTogether.f
  rcases szLine_cases f e c l 1048576 (by omega) hl with ⟨hs, h⟩ | h
  · have hs' : l.length ≤ 1048576 := by omega
    simp only [h, Option.bind_some, if_neg (show ¬ ((1048576 : Int) - l.length < 0) by omega)]
    rcases szLine_cases f2 e2 c2 l2 (1048576 - l.length) (by omega) hl2 with ⟨hs2, h2⟩ | h2
    · have hs2' : l2.length ≤ 1048576 := by omega
      simp only [h2, Option.bind_some, if_neg (show ¬ ((1048576 : Int) - l.length - l2.length < 0) by omega)]
      obtain ⟨r, q, a1, a2, a3⟩ := together_told f e c l s f2 e2 c2 l2 s2
      refine Ev.bind (toLine_ev f e c l hs') (Ev.bind (toLine_ev f2 e2 c2 l2 hs2') (Ev.bind a1 (Ev.bind (toLine_ev f e c l hs') (Ev.bind (toLine_ev f2 e2 c2 l2 hs2') (Ev.bind a2 (Ev.bind (eqIntS_ev r (by omega)) ?_))))))
      simp only [bne_self_eq_false, if_true]
      refine Ev.step (fun k => by simp only [laws_FnExactTimesTogether.j0]; rw [if_neg (by simp)]) ?_
      refine Ev.bind (toLine_ev f e c l hs') (Ev.bind (eqLine_ev f e c l hs') ?_)
      simp only [if_true]
      refine Ev.bind (toLine_ev f2 e2 c2 l2 hs2') (Ev.bind (eqLine_ev f2 e2 c2 l2 hs2') ?_)
      simp only [if_true]
      refine Ev.bind (markLine_ev f e c l 1 hs' (by omega) (by omega)) (Ev.bind (markLine_ev f2 e2 c2 l2 (1 + l.length) hs2' (by omega) (by omega)) ?_)
      simp only [if_neg (show ¬ ((1 : Int) + l.length + l2.length < 0) by omega)]
      refine Ev.bind (eqIntS_ev r (by omega)) ?_
      simp only [bne_self_eq_false, if_true]
      refine Ev.step (fun k => by simp only [laws_FnExactTimesTogether.j1]; rw [if_neg (by simp)]) ?_
      refine Ev.bind (markIntS_ev r 1 (by omega) (by omega) (by omega)) (Ev.bind (heldIntS_ev r.length 1 (by omega) (by omega) (by omega)) ?_)
      simp only [if_neg (show ¬ ((1 : Int) + r.length < 0) by omega), if_true]
      refine Ev.bind (toLine_ev f e c l hs') (Ev.bind (toLine_ev f2 e2 c2 l2 hs2') (Ev.bind a2 (Ev.bind (eqIntS_ev r (by omega)) ?_)))
      simp only [bne_self_eq_false, if_true]
      refine Ev.step (fun k => by simp only [laws_FnExactTimesTogether.j2]; rw [if_neg (by simp)]) ?_
      refine Ev.bind (heldIntS_ev r.length 1 (by omega) (by omega) (by omega)) ?_
      simp only [if_neg (show ¬ ((1 : Int) + r.length < 0) by omega), if_true]
      exact Ev.now _
    · simp only [h2, Option.bind_some]
      exact Ev.now _
  · simp only [h, Option.bind_some]
    exact Ev.now _
end Go.Proofs.Ytomgfijlnfljpaa.Pure
