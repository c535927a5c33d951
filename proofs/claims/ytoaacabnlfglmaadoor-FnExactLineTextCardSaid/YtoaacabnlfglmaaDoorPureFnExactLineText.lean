/- The program's LineText returns what the reference's LineText returns, for all arguments. No conditions. -/
import Derived.Test.YtoaacabnlfglmaaDoorQUx8
import Derived.Test.YtoaacabnlfglmaaDoorPlain
set_option linter.unusedVariables false
set_option linter.unusedSimpArgs false
namespace Go.Proofs.YtoaacabnlfglmaaDoor.Pure
open Go.RowKit Go.Proofs.YtoaacabnlfglmaaDoor.QU Go.Proofs.YtoaacabnlfglmaaDoorW.PrintWords Go.Proofs.YtoaacabnlfglmaaDoorW.PrintLast Go.Proofs.YtoaacabnlfglmaaDoorW.PrintMore Go.Proofs.YtoaacabnlfglmaaDoor.Plain
theorem w64 {x : Int} (h1 : -9223372036854775808 ≤ x) (h2 : x ≤ 9223372036854775807) : wrap64 x = x := by unfold wrap64; omega
theorem toIntS_l0_ev (l : List Int) (hl : l.length ≤ 1048576) : ∀ i : Int, 0 ≤ i → i ≤ l.length → ∀ acc : List Int, acc.length = l.length → Ev (fun k => laws_toIntS.l0 k l acc i) (acc.take i.toNat ++ l.drop i.toNat) := by
  refine downI (fun acc ha => ?_) (fun i h0 h1 ih acc ha => ?_)
  · refine Ev.step (fun k => by simp only [laws_toIntS.l0]; rw [if_neg (by omega)]) ?_
    rw [List.take_of_length_le (by omega), List.drop_of_length_le (by omega), List.append_nil]
    exact Ev.now _
  · refine Ev.step (fun k => by simp only [laws_toIntS.l0]; rw [if_pos h1, if_pos h0, if_pos (by omega), w64 (x := i + 1) (by omega) (by omega)]) ?_
    have hi := ih (acc.set i.toNat (rd l i)) (by simpa using ha)
    rw [drop_get l 0 i h0 h1]
    rw [show (i + 1).toNat = i.toNat + 1 by omega] at hi ⊢
    rw [set_fill acc _ i.toNat _ (by omega)] at hi
    exact hi
theorem toIntS_ev (l : List Int) (hl : l.length ≤ 1048576) : Ev (fun k => laws_toIntS.f k l) l := by
  refine Ev.congr (fun k => by unfold laws_toIntS.f; rw [if_pos (by omega), if_pos (by omega)]) ?_
  have h := toIntS_l0_ev l hl 0 (by omega) (by omega) (List.replicate ((l.length : Int)).toNat 0) (by simp)
  simpa using h
theorem eqIntS_l0_ev (l : List Int) (hl : l.length ≤ 1048576) : ∀ i : Int, 0 ≤ i → i ≤ l.length → Ev (fun k => laws_eqIntS.l0 k l l i) true := by
  refine downI ?_ (fun i h0 h1 ih => ?_)
  · exact Ev.step (fun k => by simp only [laws_eqIntS.l0]; rw [if_neg (by omega)]) (Ev.now _)
  · refine Ev.step (fun k => by simp only [laws_eqIntS.l0, if_true]; rw [if_pos h1, if_pos h0, if_pos h1, w64 (x := i + 1) (by omega) (by omega)]) ih
theorem eqIntS_ev (l : List Int) (hl : l.length ≤ 1048576) : Ev (fun k => laws_eqIntS.f k l l) true := by
  refine Ev.congr (fun k => by unfold laws_eqIntS.f; rw [if_pos rfl]) ?_
  exact eqIntS_l0_ev l hl 0 (by omega) (by omega)
theorem toLine_ev (f e c : Int) (l : List Int) (hl : l.length ≤ 1048576) : Ev (fun k => laws_toLine.f k f e c l) (f, e, c, l) := by
  unfold laws_toLine.f
  exact Ev.bind (toIntS_ev l hl) (Ev.now _)
theorem eqLine_ev (f e c : Int) (l : List Int) (hl : l.length ≤ 1048576) : Ev (fun k => laws_eqLine.f k f e c l f e c l) true := by
  unfold laws_eqLine.f
  simp only [if_true]
  refine Ev.bind (eqIntS_ev l hl) ?_
  simp only [if_true]
  exact Ev.now _
theorem szLine_cases (f e c : Int) (l : List Int) (m : Int) (hm : 0 ≤ m ∧ m ≤ 1048576) (hl : l.length ≤ maxLen) : ((l.length : Int) ≤ m ∧ laws_szLine.f f e c l m = some (m - (l.length : Int))) ∨ laws_szLine.f f e c l m = some (-1) := by
  unfold maxLen at hl
  unfold laws_szLine.f laws_szIntS.f
  rw [w64 (x := m - (l.length : Int)) (by omega) (by omega)]
  by_cases h : m - (l.length : Int) < 0
  · right; rw [if_pos h]; rfl
  · left; rw [if_neg h]; simp only [Option.bind_some]; rw [if_neg h]; exact ⟨by omega, rfl⟩
theorem in_eq (a b c : Int) : spec_l1In.f a b c = some (decide (b ≤ a ∧ a ≤ c)) := by
  unfold spec_l1In.f
  by_cases h : a ≥ b
  · rw [if_pos h]; congr 1; simp; omega
  · rw [if_neg h]; congr 1; simp; omega
theorem within_eq (a b c : Int) : impl_within.f a b c = some (decide (b ≤ a ∧ a ≤ c)) := by
  unfold impl_within.f
  by_cases h : a ≥ b
  · rw [if_pos h]; congr 1; simp; omega
  · rw [if_neg h]; congr 1; simp; omega
structure GoodLine (f e c : Int) (st : List Int) : Prop where
  first : 0 ≤ f ∧ f ≤ 2000
  every : 1 ≤ e ∧ e ≤ 2000
  count : 1 ≤ c ∧ c ≤ 60
  last : f + (c - 1) * e ≤ 2000
  stops : 2 ≤ (st.length : Int) ∧ (st.length : Int) ≤ 12
  zero : rd st 0 = 0
  rise : ∀ i : Int, 1 ≤ i → i < st.length → rd st (i - 1) < rd st i
  top : rd st (st.length - 1) ≤ 500
theorem GoodLine.range {f e c : Int} {st : List Int} (h : GoodLine f e c st) : ∀ i : Int, 0 ≤ i → i < st.length → 0 ≤ rd st i ∧ rd st i ≤ 500 := by
  have up : ∀ n : Nat, (n : Int) < st.length → 0 ≤ rd st n := by
    intro n
    induction n with
    | zero => intro _; have := h.zero; simp at this ⊢; omega
    | succ n ih =>
      intro hn
      have := h.rise ((n + 1 : Nat) : Int) (by omega) hn
      have := ih (by omega)
      rw [show (((n + 1 : Nat) : Int) - 1) = (n : Int) by omega] at *
      omega
  have dn : ∀ i : Int, 0 ≤ i → i ≤ st.length - 1 → rd st i ≤ 500 := by
    refine downI h.top (fun i h0 h1 ih => ?_)
    have := h.rise (i + 1) (by omega) (by omega)
    rw [show i + 1 - 1 = i by omega] at this
    omega
  intro i h0 h1
  have := up i.toNat (by omega)
  rw [show ((i.toNat : Nat) : Int) = i by omega] at this
  exact ⟨this, dn i h0 (by omega)⟩
theorem rising_ev (st : List Int) (hs : st.length ≤ 12) : ∀ i : Int, 0 ≤ i → i ≤ st.length → ∃ b : Bool, Ev (fun k => spec_l1Rising.l0 k st 0 500 st st.length i) b ∧ (b = true ↔ ∀ j : Int, i ≤ j → j < st.length → (0 ≤ rd st j ∧ rd st j ≤ 500) ∧ (0 < j → rd st (j - 1) < rd st j)) := by
  refine downI ?_ (fun i h0 h1 ih => ?_)
  · exact ⟨true, Ev.step (fun k => by simp only [spec_l1Rising.l0]; rw [if_neg (by omega)]) (Ev.now _), by simp; intro j hj hj2; omega⟩
  · obtain ⟨b, hb, hiff⟩ := ih
    have st0 : ∀ k, spec_l1Rising.l0 (k + 1) st 0 500 st st.length i = if decide (0 ≤ rd st i ∧ rd st i ≤ 500) = true then (if i > 0 then (if 0 ≤ i - 1 then (if i - 1 < (st.length : Int) then (if rd st (i - 1) ≥ rd st i then some false else spec_l1Rising.l0 k st 0 500 st st.length (i + 1)) else none) else none) else spec_l1Rising.l0 k st 0 500 st st.length (i + 1)) else some false := fun k => by
      simp only [spec_l1Rising.l0, in_eq, Option.bind_some]
      rw [if_pos h1, if_pos h0, if_pos h1, w64 (x := i + 1) (by omega) (by omega), w64 (x := i - 1) (by omega) (by omega)]
    by_cases a : 0 ≤ rd st i ∧ rd st i ≤ 500
    · by_cases z : i > 0
      · by_cases r : rd st (i - 1) ≥ rd st i
        · refine ⟨false, Ev.step (fun k => by rw [st0, if_pos (decide_eq_true a), if_pos z, if_pos (by omega), if_pos (by omega), if_pos r]) (Ev.now _), ?_⟩
          refine ⟨fun h => (by cases h), fun h => ?_⟩
          have := (h i (Int.le_refl _) h1).2 z
          omega
        · refine ⟨b, Ev.step (fun k => by rw [st0, if_pos (decide_eq_true a), if_pos z, if_pos (by omega), if_pos (by omega), if_neg r]) hb, ?_⟩
          rw [hiff]
          refine ⟨fun h j hj hj2 => ?_, fun h j hj hj2 => h j (by omega) hj2⟩
          by_cases e : j = i
          · subst e; exact ⟨a, fun _ => by omega⟩
          · exact h j (by omega) hj2
      · refine ⟨b, Ev.step (fun k => by rw [st0, if_pos (decide_eq_true a), if_neg z]) hb, ?_⟩
        rw [hiff]
        refine ⟨fun h j hj hj2 => ?_, fun h j hj hj2 => h j (by omega) hj2⟩
        by_cases e : j = i
        · subst e; exact ⟨a, fun q => absurd q z⟩
        · exact h j (by omega) hj2
    · refine ⟨false, Ev.step (fun k => by rw [st0, if_neg (by simpa using a)]) (Ev.now _), ?_⟩
      exact ⟨fun h => (by cases h), fun h => absurd (h i (Int.le_refl _) h1).1 a⟩
theorem increasing_ev (st : List Int) (hs : st.length ≤ 12) : ∀ i : Int, 1 ≤ i → i ≤ st.length → ∃ b : Bool, Ev (fun k => impl_increasing.l0 k st i) b ∧ (b = true ↔ ∀ j : Int, i ≤ j → j < st.length → rd st (j - 1) < rd st j) := by
  refine downA ?_ (fun i h0 h1 ih => ?_)
  · exact ⟨true, Ev.step (fun k => by simp only [impl_increasing.l0]; rw [if_neg (by omega)]) (Ev.now _), by simp; intro j hj hj2; omega⟩
  · obtain ⟨b, hb, hiff⟩ := ih
    have st0 : ∀ k, impl_increasing.l0 (k + 1) st i = if rd st (i - 1) ≥ rd st i then some false else impl_increasing.l0 k st (i + 1) := fun k => by
      simp only [impl_increasing.l0]
      rw [w64 (x := i + 1) (by omega) (by omega), w64 (x := i - 1) (by omega) (by omega), if_pos h1, if_pos (by omega), if_pos (by omega), if_pos (by omega)]
    by_cases r : rd st (i - 1) ≥ rd st i
    · refine ⟨false, Ev.step (fun k => by rw [st0, if_pos r]) (Ev.now _), ?_⟩
      refine ⟨fun h => (by cases h), fun h => ?_⟩
      have := h i (Int.le_refl _) h1
      omega
    · refine ⟨b, Ev.step (fun k => by rw [st0, if_neg r]) hb, ?_⟩
      rw [hiff]
      refine ⟨fun h j hj hj2 => ?_, fun h j hj hj2 => h j (by omega) hj2⟩
      by_cases e : j = i
      · subst e; omega
      · exact h j (by omega) hj2
theorem line_sum {f e c : Int} (hf : 0 ≤ f ∧ f ≤ 2000) (he : 1 ≤ e ∧ e ≤ 2000) (hc : 1 ≤ c ∧ c ≤ 60) : wrap64 (f + wrap64 (wrap64 (c - 1) * e)) = f + (c - 1) * e := by
  have b := mul_bd (A := 60) (B := 2000) (by omega : 0 ≤ c - 1) (by omega) (by omega : 0 ≤ e) (by omega)
  rw [w64 (x := c - 1) (by omega) (by omega), w64 (x := (c - 1) * e) (by omega) (by omega), w64 (by omega) (by omega)]
theorem buGood_ev (f e c : Int) (st : List Int) : Ev (fun k => spec_buGood.f k f e c st) (dec (GoodLine f e c st)) := by
  have bad : ∀ {x : Bool}, ¬ GoodLine f e c st → x = true → Ev (fun k => spec_buGood.j0 k x f e c st) (dec (GoodLine f e c st)) := by
    intro x hn hx
    subst hx
    rw [dec_false hn]
    exact Ev.step (fun k => by simp only [spec_buGood.j0]; rw [if_pos trivial]) (Ev.now _)
  unfold spec_buGood.f
  simp only [in_eq, Option.bind_some, decide_eq_true_eq]
  by_cases h1 : 0 ≤ f ∧ f ≤ 2000
  · by_cases h2 : 1 ≤ e ∧ e ≤ 2000
    · simp only [if_pos h1, if_pos h2]
      by_cases h3 : 1 ≤ c ∧ c ≤ 60
      · have e3 : (!decide (1 ≤ c ∧ c ≤ 60)) = false := by rw [decide_eq_true h3]; rfl
        rw [e3]
        refine Ev.step (fun k => by simp only [spec_buGood.j0]; rw [if_neg (by simp), line_sum h1 h2 h3, in_eq, Option.bind_some]) ?_
        by_cases h4 : f + (c - 1) * e > 2000
        · rw [dec_false (fun g => by have := g.last; omega)]
          simp only [if_pos h4]; exact Ev.now _
        · simp only [if_neg h4]
          by_cases h5 : 2 ≤ (st.length : Int) ∧ (st.length : Int) ≤ 12
          · simp only [if_pos (decide_eq_true h5), if_pos (show 0 < (st.length : Int) by omega)]
            by_cases h6 : rd st 0 = 0
            · simp only [if_pos h6]
              obtain ⟨b, hb, hiff⟩ := rising_ev st (by omega) 0 (by omega) (by omega)
              have : b = dec (GoodLine f e c st) := dec_of (by
                rw [hiff]
                refine ⟨fun h => ⟨h1, h2, h3, by omega, h5, h6, fun i hi hi2 => (h i (by omega) hi2).2 (by omega), (h (st.length - 1) (by omega) (by omega)).1.2⟩, fun g j hj hj2 => ⟨g.range j hj hj2, fun hp => g.rise j (by omega) hj2⟩⟩)
              rw [← this]
              exact Ev.bind hb (Ev.now _)
            · rw [dec_false (fun g => h6 g.zero)]
              simp only [if_neg h6]; exact Ev.now _
          · rw [dec_false (fun g => h5 g.stops)]
            have : decide (2 ≤ (st.length : Int) ∧ (st.length : Int) ≤ 12) = false := decide_eq_false h5
            simp only [this, Bool.false_eq_true, if_false]; exact Ev.now _
      · exact bad (fun g => h3 g.count) (by rw [decide_eq_false h3]; rfl)
    · simp only [if_pos h1, if_neg h2]
      exact bad (fun g => h2 g.every) rfl
  · simp only [if_neg h1]
    exact bad (fun g => h1 g.first) rfl
theorem isLine_ev (f e c : Int) (st : List Int) : Ev (fun k => impl_IsLine.f k f e c st) (dec (GoodLine f e c st)) := by
  have bad : ∀ {x : Bool}, ¬ GoodLine f e c st → x = true → Ev (fun k => impl_IsLine.j0 k x f e c st) (dec (GoodLine f e c st)) := by
    intro x hn hx
    subst hx
    rw [dec_false hn]
    exact Ev.step (fun k => by simp only [impl_IsLine.j0]; rw [if_pos trivial]) (Ev.now _)
  unfold impl_IsLine.f impl_isMinute.f
  simp only [within_eq, Option.bind_some, decide_eq_true_eq]
  by_cases h1 : 0 ≤ f ∧ f ≤ 2000
  · by_cases h2 : 1 ≤ e ∧ e ≤ 2000
    · by_cases h3 : 1 ≤ c ∧ c ≤ 60
      · simp only [if_pos h1, if_pos h2, if_pos h3, line_sum h1 h2 h3]
        by_cases h4 : f + (c - 1) * e > 2000
        · exact bad (fun g => by have := g.last; omega) (decide_eq_true h4)
        · rw [decide_eq_false h4]
          refine Ev.step (fun k => by simp only [impl_IsLine.j0]; rw [if_neg (by simp), within_eq, Option.bind_some]) ?_
          by_cases h5 : 2 ≤ (st.length : Int) ∧ (st.length : Int) ≤ 12
          · simp only [if_pos (decide_eq_true h5), if_pos (show 0 < (st.length : Int) by omega)]
            by_cases h6 : rd st 0 = 0
            · simp only [if_pos h6]
              obtain ⟨b, hb, hiff⟩ := increasing_ev st (by omega) 1 (by omega) (by omega)
              refine Ev.bind (g := fun k => impl_increasing.f k st) hb ?_
              rw [w64 (x := (st.length : Int) - 1) (by omega) (by omega)]
              simp only [if_pos (show 0 ≤ (st.length : Int) - 1 by omega), if_pos (show (st.length : Int) - 1 < st.length by omega)]
              by_cases hb2 : b = true
              · simp only [if_pos hb2]
                have : decide (rd st ((st.length : Int) - 1) ≤ 500) = dec (GoodLine f e c st) := dec_of (by
                  rw [decide_eq_true_iff]
                  exact ⟨fun h => ⟨h1, h2, h3, by omega, h5, h6, hiff.1 hb2, h⟩, fun g => g.top⟩)
                rw [← this]
                exact Ev.now _
              · rw [dec_false (fun g => hb2 (hiff.2 g.rise))]
                simp only [if_neg hb2]; exact Ev.now _
            · rw [dec_false (fun g => h6 g.zero)]
              simp only [if_neg h6]; exact Ev.now _
          · rw [dec_false (fun g => h5 g.stops)]
            have : decide (2 ≤ (st.length : Int) ∧ (st.length : Int) ≤ 12) = false := decide_eq_false h5
            simp only [this, Bool.false_eq_true, if_false]; exact Ev.now _
      · simp only [if_pos h1, if_pos h2, if_neg h3]
        exact bad (fun g => h3 g.count) rfl
    · simp only [if_pos h1, if_neg h2]
      exact bad (fun g => h2 g.every) rfl
  · simp only [if_neg h1]
    exact bad (fun g => h1 g.first) rfl
theorem decDigits_len : ∀ n : Nat, (Lib.decDigits n).length ≤ n + 1 := by
  intro n
  induction n using Nat.strongRecOn with
  | ind n ih =>
    rw [Lib.decDigits]
    split
    · simp
    · next h =>
      have := ih (n / 10) (by omega)
      simp
      omega
theorem ba_append (a b : List UInt8) : (⟨a.toArray⟩ : ByteArray) ++ ⟨b.toArray⟩ = ⟨(a ++ b).toArray⟩ := by
  apply ByteArray.ext
  simp
theorem ba_size (a : List UInt8) : (⟨a.toArray⟩ : ByteArray).size = a.length := by
  simp [ByteArray.size]
theorem digit_str (d : Nat) (h : d < 10) : strOfNums [(wrap64 (48 + (d : Int))) % 256] = ⟨([UInt8.ofNat (48 + d)] : List UInt8).toArray⟩ := by
  unfold strOfNums
  rw [w64 (by omega) (by omega), show (48 + (d : Int)) % 256 = ((48 + d : Nat) : Int) by omega]
  rw [List.map_cons, List.map_nil, Int.toNat_natCast]
theorem l1Num_ev : ∀ n : Nat, n ≤ 1000000000000000 → Ev (fun k => spec_l1Num.f k (n : Int)) (⟨(Lib.decDigits n).toArray⟩ : ByteArray) := by
  intro n
  induction n using Nat.strongRecOn with
  | ind n ih =>
    intro hn
    rw [Lib.decDigits]
    split
    · next h =>
      refine Ev.step (fun k => by simp only [spec_l1Num.f]; rw [if_pos (by omega), digit_str n h]) (Ev.now _)
    · next h =>
      have e1 : wrap64 (Int.tdiv (n : Int) 10) = ((n / 10 : Nat) : Int) := by
        have h1 : Int.tdiv (n : Int) 10 = ((n / 10 : Nat) : Int) := by rw [Int.tdiv_eq_ediv_of_nonneg (by omega)]; omega
        rw [h1, w64 (by omega) (by omega)]
      have e2 : Int.tmod (n : Int) 10 = ((n % 10 : Nat) : Int) := by rw [Int.tmod_eq_emod_of_nonneg (by omega)]; omega
      have hl := decDigits_len (n / 10)
      refine Ev.step (f := fun k => (spec_l1Num.f k ((n / 10 : Nat) : Int)).bind fun t107 => (if t107.size + ((⟨([UInt8.ofNat (48 + n % 10)] : List UInt8).toArray⟩ : ByteArray)).size ≤ 9223372036854775807 then (some (t107 ++ (⟨([UInt8.ofNat (48 + n % 10)] : List UInt8).toArray⟩ : ByteArray))) else none)) (fun k => by simp only [spec_l1Num.f, Option.bind_some]; rw [if_neg (by omega), e1, e2, digit_str (n % 10) (by omega)]) ?_
      refine Ev.bind (ih (n / 10) (by omega) (by omega)) ?_
      refine Ev.congr (fun k => by rw [ba_size, ba_size, if_pos (by simp; omega), ba_append]) (Ev.now _)
theorem itoa_nat (n : Nat) : Lib.itoa (n : Int) = Lib.decDigits n := by
  unfold Lib.itoa
  rw [if_neg (by omega), Int.toNat_natCast]
/-- A number's text, as both tell it. -/
def txt (n : Int) : ByteArray := ⟨(Lib.itoa n).toArray⟩
theorem l1Num_txt (n : Int) (h0 : 0 ≤ n) (h1 : n ≤ 1000000000000000) : Ev (fun k => spec_l1Num.f k n) (txt n) := by
  obtain ⟨m, rfl⟩ := Int.eq_ofNat_of_zero_le h0
  unfold txt
  rw [itoa_nat]
  exact l1Num_ev m (by omega)
theorem txt_size (n : Int) (h0 : 0 ≤ n) : (txt n).size ≤ n.toNat + 1 := by
  obtain ⟨m, rfl⟩ := Int.eq_ofNat_of_zero_le h0
  unfold txt
  rw [itoa_nat, ba_size]
  exact decDigits_len m
theorem itoa_len (n : Int) (h0 : 0 ≤ n) : (Lib.itoa n).length ≤ n.toNat + 1 := by
  have := txt_size n h0
  unfold txt at this
  rwa [ba_size] at this
theorem itoa_ev (n : Int) (h0 : -9223372036854775808 ≤ n) (h1 : n ≤ 9223372036854775807) : strconv_Itoa.f n = some (txt n) := by
  unfold strconv_Itoa.f
  rw [if_pos ⟨h0, h1⟩]
  rfl
theorem joinNums_l0_ev (s : ByteArray) (l : List Int) (hl : l.length ≤ 1048576) (hr : ∀ x, x ∈ l → 0 ≤ x ∧ x ≤ 1000000000) (hj : (Lib.join (l.map Lib.itoa) s.data.toList).length ≤ 140737488355328) : ∀ i : Int, 0 ≤ i → i ≤ l.length → ∀ acc : List ByteArray, acc.length = l.length → acc.take i.toNat = (l.map txt).take i.toNat → Ev (fun k => impl_joinNumbers.l0 k s acc l l.length i) (⟨(Lib.join (l.map Lib.itoa) s.data.toList).toArray⟩ : ByteArray) := by
  refine downI (fun acc ha ht => ?_) (fun i h0 h1 ih acc ha ht => ?_)
  · have e : acc = l.map txt := by
      rw [List.take_of_length_le (by omega), List.take_of_length_le (by simp)] at ht
      exact ht
    have e2 : (l.map txt).map (fun (x : ByteArray) => x.data.toList) = l.map Lib.itoa := by
      rw [List.map_map]
      rfl
    refine Ev.step (fun k => by simp only [impl_joinNumbers.l0]; rw [if_neg (by omega), strings_Join.f, e, e2, if_pos ⟨by simp; omega, hj⟩]; rfl) (Ev.now _)
  · have hx := hr _ (get_mem l 0 i h0 h1)
    change 0 ≤ rd l i ∧ rd l i ≤ 1000000000 at hx
    refine Ev.step (fun k => by simp only [impl_joinNumbers.l0]; rw [if_pos h1, if_pos h0, if_pos h1, itoa_ev _ (by omega) (by omega), Option.bind_some, if_pos (by omega), w64 (x := i + 1) (by omega) (by omega)]) (ih (acc.set i.toNat (txt (rd l i))) (by simpa using ha) ?_)
    have hg : (l.map txt)[i.toNat]? = some (txt (rd l i)) := by
      rw [List.getElem?_map, List.getElem?_eq_getElem (show i.toNat < l.length by omega)]
      unfold rd
      rw [List.getD_eq_getElem?_getD, List.getElem?_eq_getElem (show i.toNat < l.length by omega)]
      rfl
    rw [show (i + 1).toNat = i.toNat + 1 by omega, List.take_succ_eq_append_getElem (by rw [List.length_set]; omega), List.getElem_set_self, List.take_set_of_le (Nat.le_refl _), ht, List.take_add_one, hg]
    rfl
theorem joinNums_ev (s : ByteArray) (l : List Int) (hl : l.length ≤ 1048576) (hr : ∀ x, x ∈ l → 0 ≤ x ∧ x ≤ 1000000000) (hj : (Lib.join (l.map Lib.itoa) s.data.toList).length ≤ 140737488355328) : Ev (fun k => impl_joinNumbers.f k l s) (⟨(Lib.join (l.map Lib.itoa) s.data.toList).toArray⟩ : ByteArray) := by
  unfold impl_joinNumbers.f
  refine Ev.congr (fun k => by rw [if_pos (by omega), if_pos (by omega)]) ?_
  exact joinNums_l0_ev s l hl hr hj 0 (by omega) (by omega) _ (by simp) (by simp)
/-- Two numbers with a text between them. -/
def txt2 (s : List UInt8) (a b : Int) : List UInt8 := Lib.itoa a ++ (s ++ Lib.itoa b)
theorem joinNums2_ev (s : ByteArray) (hs : s.size ≤ 1000) (a b : Int) (ha : 0 ≤ a ∧ a ≤ 1000000000) (hb : 0 ≤ b ∧ b ≤ 1000000000) : Ev (fun k => impl_joinNumbers.f k [a, b] s) (⟨(txt2 s.data.toList a b).toArray⟩ : ByteArray) := by
  have e : Lib.join ([a, b].map Lib.itoa) s.data.toList = txt2 s.data.toList a b := by
    unfold txt2
    rw [List.map_cons, List.map_cons, List.map_nil, Lib.join_cons]
    simp [Lib.joinTail]
  have la := itoa_len a ha.1
  have lb := itoa_len b hb.1
  have ls : s.data.toList.length = s.size := Array.length_toList
  have h := joinNums_ev s [a, b] (by simp) (fun x hx => by
    rcases List.mem_cons.1 hx with rfl | hx
    · exact ha
    · rw [List.mem_singleton.1 hx]; exact hb) (by rw [e]; unfold txt2; simp only [List.length_append]; omega)
  rw [e] at h
  exact h
theorem join_snoc (xs : List (List UInt8)) (x sep : List UInt8) (h : xs ≠ []) : Lib.join (xs ++ [x]) sep = Lib.join xs sep ++ sep ++ x := by
  cases xs with
  | nil => exact absurd rfl h
  | cons y ys =>
    rw [List.cons_append, Lib.join_cons, Lib.join_cons]
    simp [Lib.joinTail, List.append_assoc]
theorem joinTail_len (M : Nat) (sep : List UInt8) : ∀ xs : List (List UInt8), (∀ x, x ∈ xs → x.length ≤ M) → (Lib.joinTail sep xs).length ≤ xs.length * (M + sep.length) := by
  intro xs
  induction xs with
  | nil => intro _; simp [Lib.joinTail]
  | cons y ys ih =>
    intro h
    have h1 := ih (fun x hx => h x (List.mem_cons_of_mem _ hx))
    have h2 := h y List.mem_cons_self
    have e : Lib.joinTail sep (y :: ys) = sep ++ y ++ Lib.joinTail sep ys := by simp [Lib.joinTail]
    rw [e, List.length_append, List.length_append, List.length_cons, Nat.succ_mul]
    omega
theorem join_len (M : Nat) (sep : List UInt8) (xs : List (List UInt8)) (h : ∀ x, x ∈ xs → x.length ≤ M) : (Lib.join xs sep).length ≤ xs.length * (M + sep.length) := by
  cases xs with
  | nil => simp [Lib.join_nil]
  | cons y ys =>
    have h1 := joinTail_len M sep ys (fun x hx => h x (List.mem_cons_of_mem _ hx))
    have h2 := h y List.mem_cons_self
    rw [Lib.join_cons, List.length_append, List.length_cons, Nat.succ_mul]
    omega
theorem nums_take (l : List Int) (i : Int) (h0 : 0 ≤ i) (h1 : i < l.length) : (l.map Lib.itoa).take (i + 1).toNat = (l.map Lib.itoa).take i.toNat ++ [Lib.itoa (rd l i)] := by
  rw [show (i + 1).toNat = i.toNat + 1 by omega, List.take_add_one]
  have hg : (l.map Lib.itoa)[i.toNat]? = some (Lib.itoa (rd l i)) := by
    rw [List.getElem?_map, List.getElem?_eq_getElem (show i.toNat < l.length by omega)]
    unfold rd
    rw [List.getD_eq_getElem?_getD, List.getElem?_eq_getElem (show i.toNat < l.length by omega)]
    rfl
  rw [hg]
  rfl
/-- The head of a line's text. -/
def headT (f e c : Int) : List UInt8 := Lib.itoa f ++ [43] ++ Lib.itoa e ++ [120] ++ Lib.itoa c ++ [58]
def lineT (f e c : Int) (st : List Int) : List UInt8 := headT f e c ++ Lib.join (st.map Lib.itoa) [44]
theorem GoodLine.mem {f e c : Int} {st : List Int} (h : GoodLine f e c st) (x : Int) (hx : x ∈ st) : 0 ≤ x ∧ x ≤ 500 := by
  obtain ⟨j, hj, rfl⟩ := List.getElem_of_mem hx
  have := h.range (j : Int) (by omega) (by omega)
  unfold rd at this
  rw [Int.toNat_natCast, List.getD_eq_getElem?_getD, List.getElem?_eq_getElem hj] at this
  exact this
theorem GoodLine.head_len {f e c : Int} {st : List Int} (h : GoodLine f e c st) : (headT f e c).length ≤ 4070 := by
  have a := h.first
  have b := h.every
  have d := h.count
  have l1 := itoa_len f a.1
  have l2 := itoa_len e (by omega)
  have l3 := itoa_len c (by omega)
  unfold headT
  simp only [List.length_append, List.length_cons, List.length_nil]
  omega
theorem GoodLine.joinT_len {f e c : Int} {st : List Int} (h : GoodLine f e c st) (n : Nat) : (Lib.join ((st.map Lib.itoa).take n) [44]).length ≤ 6024 := by
  have h1 := join_len 501 [44] ((st.map Lib.itoa).take n) (fun x hx => by
    obtain ⟨y, hy, rfl⟩ := List.mem_map.1 (List.mem_of_mem_take hx)
    have hm := h.mem y hy
    have := itoa_len y hm.1
    omega)
  have h2 : ((st.map Lib.itoa).take n).length ≤ 12 := by
    have := h.stops
    rw [List.length_take, List.length_map]; omega
  have h3 : ((st.map Lib.itoa).take n).length * (501 + ([44] : List UInt8).length) ≤ 12 * (501 + ([44] : List UInt8).length) := Nat.mul_le_mul_right _ h2
  simp only [List.length_cons, List.length_nil] at h1 h3
  omega
theorem buText_l0_ev {f e c : Int} {st : List Int} (g : GoodLine f e c st) : ∀ i : Int, 0 ≤ i → i ≤ st.length → Ev (fun k => spec_buText.l0 k (⟨(headT f e c ++ Lib.join ((st.map Lib.itoa).take i.toNat) [44]).toArray⟩ : ByteArray) st st.length i) (⟨(lineT f e c st).toArray⟩ : ByteArray) := by
  have hst := g.stops
  have hh := g.head_len
  refine downI ?_ (fun i h0 h1 ih => ?_)
  · refine Ev.step (fun k => by simp only [spec_buText.l0]; rw [if_neg (by omega)]) ?_
    rw [List.take_of_length_le (by simp)]
    exact Ev.now _
  · have hr := g.range i h0 h1
    have lj := g.joinT_len i.toNat
    have n1 := l1Num_txt (rd st i) (by omega) (by omega)
    have la := txt_size (rd st i) (by omega)
    by_cases z : i > 0
    · have hne : (st.map Lib.itoa).take i.toNat ≠ [] := by
        intro h
        have := congrArg List.length h
        rw [List.length_take, List.length_map, List.length_nil] at this
        omega
      have e44 : (⟨#[44]⟩ : ByteArray).size = 1 := rfl
      have e : (⟨(headT f e c ++ Lib.join ((st.map Lib.itoa).take i.toNat) [44]).toArray⟩ : ByteArray) ++ (⟨#[44]⟩ : ByteArray) ++ txt (rd st i) = ⟨(headT f e c ++ Lib.join ((st.map Lib.itoa).take (i + 1).toNat) [44]).toArray⟩ := by
        unfold txt
        rw [nums_take st i h0 h1, join_snoc _ _ _ hne, show (⟨#[44]⟩ : ByteArray) = ⟨([44] : List UInt8).toArray⟩ from rfl, ba_append, ba_append]
        simp only [List.append_assoc]
      refine Ev.step (fun k => by simp only [spec_buText.l0]; rw [if_pos h1, if_pos h0, if_pos h1, if_pos z, if_pos (by rw [ba_size, List.length_append]; omega), w64 (x := i + 1) (by omega) (by omega)]) ?_
      refine Ev.bind n1 (Ev.congr (fun k => by rw [if_pos (by rw [ByteArray.size_append, ba_size, List.length_append]; omega), e]) ih)
    · obtain rfl : i = 0 := by omega
      have e : (⟨(headT f e c ++ Lib.join ((st.map Lib.itoa).take (0 : Int).toNat) [44]).toArray⟩ : ByteArray) ++ txt (rd st 0) = ⟨(headT f e c ++ Lib.join ((st.map Lib.itoa).take (0 + 1 : Int).toNat) [44]).toArray⟩ := by
        unfold txt
        rw [nums_take st 0 h0 h1, ba_append]
        simp [Lib.join_nil, Lib.join_one]
      refine Ev.step (fun k => by simp only [spec_buText.l0]; rw [if_pos h1, if_pos h0, if_pos h1, if_neg z, w64 (x := 0 + 1) (by omega) (by omega)]) ?_
      refine Ev.bind n1 (Ev.congr (fun k => by rw [if_pos (by rw [ba_size, List.length_append]; omega), e]) ih)
theorem headTxt (f e c : Int) : txt f ++ (⟨#[43]⟩ : ByteArray) ++ txt e ++ (⟨#[120]⟩ : ByteArray) ++ txt c ++ (⟨#[58]⟩ : ByteArray) = ⟨(headT f e c).toArray⟩ := by
  unfold txt headT
  rw [show (⟨#[43]⟩ : ByteArray) = ⟨([43] : List UInt8).toArray⟩ from rfl, show (⟨#[120]⟩ : ByteArray) = ⟨([120] : List UInt8).toArray⟩ from rfl, show (⟨#[58]⟩ : ByteArray) = ⟨([58] : List UInt8).toArray⟩ from rfl, ba_append, ba_append, ba_append, ba_append, ba_append]
theorem buText_ev {f e c : Int} {st : List Int} (g : GoodLine f e c st) : Ev (fun k => spec_buText.f k f e c st) (⟨(lineT f e c st).toArray⟩ : ByteArray) := by
  have a := g.first
  have b := g.every
  have d := g.count
  have l1 := txt_size f a.1
  have l2 := txt_size e (by omega)
  have l3 := txt_size c (by omega)
  have e43 : (⟨#[43]⟩ : ByteArray).size = 1 := rfl
  have e120 : (⟨#[120]⟩ : ByteArray).size = 1 := rfl
  have e58 : (⟨#[58]⟩ : ByteArray).size = 1 := rfl
  unfold spec_buText.f
  refine Ev.bind (l1Num_txt f a.1 (by omega)) ?_
  refine Ev.congr (fun k => by rw [if_pos (by omega)]) ?_
  refine Ev.bind (l1Num_txt e (by omega) (by omega)) ?_
  refine Ev.congr (fun k => by rw [if_pos (by simp only [ByteArray.size_append]; omega), if_pos (by simp only [ByteArray.size_append]; omega)]) ?_
  refine Ev.bind (l1Num_txt c (by omega) (by omega)) ?_
  refine Ev.congr (fun k => by rw [if_pos (by simp only [ByteArray.size_append]; omega), if_pos (by simp only [ByteArray.size_append]; omega), headTxt]) ?_
  have h := buText_l0_ev g 0 (by omega) (by omega)
  simp only [Int.toNat_zero, List.take_zero, Lib.join_nil, List.append_nil] at h
  exact h
theorem lineText_ev {f e c : Int} {st : List Int} (g : GoodLine f e c st) : Ev (fun k => impl_lineText.f k f e c st) (⟨(lineT f e c st).toArray⟩ : ByteArray) := by
  have a := g.first
  have b := g.every
  have d := g.count
  have hst := g.stops
  have l1 := txt_size f a.1
  have l2 := txt_size e (by omega)
  have l3 := txt_size c (by omega)
  have e43 : (⟨#[43]⟩ : ByteArray).size = 1 := rfl
  have e120 : (⟨#[120]⟩ : ByteArray).size = 1 := rfl
  have e58 : (⟨#[58]⟩ : ByteArray).size = 1 := rfl
  have lj := g.joinT_len st.length
  rw [List.take_of_length_le (by simp)] at lj
  have hh := g.head_len
  have hj := joinNums_ev (⟨#[44]⟩ : ByteArray) st (by omega) (fun x hx => by have := g.mem x hx; omega) (show (Lib.join (st.map Lib.itoa) [44]).length ≤ 140737488355328 by omega)
  unfold impl_lineText.f
  simp only [itoa_ev f (by omega) (by omega), itoa_ev e (by omega) (by omega), itoa_ev c (by omega) (by omega), Option.bind_some]
  refine Ev.congr (fun k => by rw [if_pos (by omega), if_pos (by simp only [ByteArray.size_append]; omega), if_pos (by simp only [ByteArray.size_append]; omega), if_pos (by simp only [ByteArray.size_append]; omega), if_pos (by simp only [ByteArray.size_append]; omega), headTxt]) ?_
  refine Ev.bind hj ?_
  refine Ev.congr (fun k => by rw [if_pos (by rw [ba_size, ba_size]; change _ + (Lib.join (st.map Lib.itoa) [44]).length ≤ _; omega), ba_append]; rfl) (Ev.now _)
theorem lineText_spec_ev (f e c : Int) (st : List Int) : Ev (fun k => spec_LineText.f k f e c st) (if dec (GoodLine f e c st) = true then ((⟨(lineT f e c st).toArray⟩ : ByteArray), true) else ((⟨#[]⟩ : ByteArray), false)) := by
  unfold spec_LineText.f
  refine Ev.bind (buGood_ev f e c st) ?_
  cases h : dec (GoodLine f e c st)
  · exact Ev.now _
  · simp only [if_true]
    exact Ev.bind (buText_ev (dec_iff.1 h)) (Ev.now _)
theorem lineText_impl_ev (f e c : Int) (st : List Int) : Ev (fun k => impl_LineText.f k f e c st) (if dec (GoodLine f e c st) = true then ((⟨(lineT f e c st).toArray⟩ : ByteArray), true) else ((⟨#[]⟩ : ByteArray), false)) := by
  unfold impl_LineText.f
  refine Ev.bind (isLine_ev f e c st) ?_
  cases h : dec (GoodLine f e c st)
  · exact Ev.now _
  · simp only [if_true]
    exact Ev.bind (lineText_ev (dec_iff.1 h)) (Ev.now _)
theorem FnExactLineText : laws_FnExactLineText.Pure := by
  intro f e c l hl
  refine Ev.rounds ?_
  unfold laws_FnExactLineText.f
  rcases szLine_cases f e c l 1048576 (by omega) hl with ⟨hs, h⟩ | h
  · have hs' : l.length ≤ 1048576 := by omega
    simp only [h, Option.bind_some, if_neg (show ¬ ((1048576 : Int) - l.length < 0) by omega)]
    refine Ev.bind (toLine_ev f e c l hs') (Ev.bind (lineText_spec_ev f e c l) (Ev.bind (toLine_ev f e c l hs') (Ev.bind (lineText_impl_ev f e c l) ?_)))
    simp only [bne_self_eq_false, if_true]
    refine Ev.step (fun k => by simp only [laws_FnExactLineText.j0]; rw [if_neg (by simp)]) ?_
    refine Ev.bind (toLine_ev f e c l hs') (Ev.bind (eqLine_ev f e c l hs') ?_)
    simp only [if_true]
    exact Ev.now _
  · simp only [h, Option.bind_some]
    exact Ev.now _
end Go.Proofs.YtoaacabnlfglmaaDoor.Pure
