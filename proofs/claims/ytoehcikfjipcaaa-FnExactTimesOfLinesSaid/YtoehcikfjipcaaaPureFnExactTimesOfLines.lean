/- The program's TimesOfLines returns what the reference's TimesOfLines returns, for all arguments. No conditions. -/
import Derived.Test.YtoehcikfjipcaaaQKx7
import Derived.Test.YtoehcikfjipcaaaPlain
set_option linter.unusedVariables false
set_option linter.unusedSimpArgs false
namespace Go.Proofs.Ytoehcikfjipcaaa.Pure
open Go.RowKit Go.Proofs.Ytoehcikfjipcaaa.QK Go.Proofs.YtoehcikfjipcaaaW.PrintWords Go.Proofs.YtoehcikfjipcaaaW.PrintLast Go.Proofs.YtoehcikfjipcaaaW.PrintMore Go.Proofs.Ytoehcikfjipcaaa.Plain
theorem w64 {x : Int} (h1 : -9223372036854775808 ≤ x) (h2 : x ≤ 9223372036854775807) : wrap64 x = x := by unfold wrap64; omega
theorem toIntS_l0_ev (l : List Int) (hl : l.length ≤ 1048576) : ∀ i : Int, 0 ≤ i → i ≤ l.length → ∀ acc : List Int, acc.length = l.length → Ev (fun k => laws_toIntS.l0 k l acc i) (acc.take i.toNat ++ l.drop i.toNat) := by
  refine downI (fun acc ha => ?_) (fun i h0 h1 ih acc ha => ?_)
  · refine Ev.step (fun k => by simp only [laws_toIntS.l0]; rw [if_neg (by omega)]) ?_
    rw [List.take_of_length_le (by omega), List.drop_of_length_le (by omega), List.append_nil]
    exact Ev.now _
  · refine Ev.step (fun k => by simp only [laws_toIntS.l0]; rw [if_pos h1, if_pos h0, if_pos (by omega), w64 (x := i + 1) (by omega) (by omega)]) ?_
    have hi := ih (acc.set i.toNat (rd l i)) (by simpa using ha)
    rw [drop_get l 0 i h0 h1]
    rw [show (i + 1).toNat = i.toNat + 1 by omega] at hi ⊢
    rw [set_fill acc _ i.toNat _ (by omega)] at hi
    exact hi
theorem toIntS_ev (l : List Int) (hl : l.length ≤ 1048576) : Ev (fun k => laws_toIntS.f k l) l := by
  refine Ev.congr (fun k => by unfold laws_toIntS.f; rw [if_pos (by omega), if_pos (by omega)]) ?_
  have h := toIntS_l0_ev l hl 0 (by omega) (by omega) (List.replicate ((l.length : Int)).toNat 0) (by simp)
  simpa using h
theorem eqIntS_l0_ev (l : List Int) (hl : l.length ≤ 1048576) : ∀ i : Int, 0 ≤ i → i ≤ l.length → Ev (fun k => laws_eqIntS.l0 k l l i) true := by
  refine downI ?_ (fun i h0 h1 ih => ?_)
  · exact Ev.step (fun k => by simp only [laws_eqIntS.l0]; rw [if_neg (by omega)]) (Ev.now _)
  · refine Ev.step (fun k => by simp only [laws_eqIntS.l0, if_true]; rw [if_pos h1, if_pos h0, if_pos h1, w64 (x := i + 1) (by omega) (by omega)]) ih
theorem eqIntS_ev (l : List Int) (hl : l.length ≤ 1048576) : Ev (fun k => laws_eqIntS.f k l l) true := by
  refine Ev.congr (fun k => by unfold laws_eqIntS.f; rw [if_pos rfl]) ?_
  exact eqIntS_l0_ev l hl 0 (by omega) (by omega)
theorem toLine_ev (f e c : Int) (l : List Int) (hl : l.length ≤ 1048576) : Ev (fun k => laws_toLine.f k f e c l) (f, e, c, l) := by
  unfold laws_toLine.f
  exact Ev.bind (toIntS_ev l hl) (Ev.now _)
theorem eqLine_ev (f e c : Int) (l : List Int) (hl : l.length ≤ 1048576) : Ev (fun k => laws_eqLine.f k f e c l f e c l) true := by
  unfold laws_eqLine.f
  simp only [if_true]
  refine Ev.bind (eqIntS_ev l hl) ?_
  simp only [if_true]
  exact Ev.now _
theorem szLine_cases (f e c : Int) (l : List Int) (m : Int) (hm : 0 ≤ m ∧ m ≤ 1048576) (hl : l.length ≤ maxLen) : ((l.length : Int) ≤ m ∧ laws_szLine.f f e c l m = some (m - (l.length : Int))) ∨ laws_szLine.f f e c l m = some (-1) := by
  unfold maxLen at hl
  unfold laws_szLine.f laws_szIntS.f
  rw [w64 (x := m - (l.length : Int)) (by omega) (by omega)]
  by_cases h : m - (l.length : Int) < 0
  · right; rw [if_pos h]; rfl
  · left; rw [if_neg h]; simp only [Option.bind_some]; rw [if_neg h]; exact ⟨by omega, rfl⟩
def cvLine (x : S24) : S30 := ⟨x.f0, x.f1, x.f2, x.f3⟩
theorem toLineS_l0_ev (l : List S24) (hl : l.length ≤ 1048576) (hx : ∀ x, x ∈ l → x.f3.length ≤ 1048576) : ∀ i : Int, 0 ≤ i → i ≤ l.length → ∀ acc : List S30, acc.length = l.length → Ev (fun k => laws_toLineS.l0 k l acc i) (acc.take i.toNat ++ (l.drop i.toNat).map cvLine) := by
  refine downI (fun acc ha => ?_) (fun i h0 h1 ih acc ha => ?_)
  · refine Ev.step (fun k => by simp only [laws_toLineS.l0]; rw [if_neg (by omega)]) ?_
    rw [List.take_of_length_le (by omega), List.drop_of_length_le (by omega), List.map_nil, List.append_nil]
    exact Ev.now _
  · have hxi : (rd_T24 l i).f3.length ≤ 1048576 := hx _ (get_mem l z24 i h0 h1)
    refine Ev.step (fun k => by simp only [laws_toLineS.l0]; rw [if_pos h1, if_pos h0]) ?_
    refine Ev.bind (toLine_ev _ _ _ _ hxi) ?_
    have hi := ih (acc.set i.toNat (cvLine (rd_T24 l i))) (by simpa using ha)
    refine Ev.congr (fun k => by rw [if_pos (by omega), w64 (x := i + 1) (by omega) (by omega)]) ?_
    rw [drop_get l z24 i h0 h1, List.map_cons]
    rw [show (i + 1).toNat = i.toNat + 1 by omega] at hi ⊢
    rw [set_fill acc _ i.toNat _ (by omega)] at hi
    exact hi
theorem toLineS_ev (l : List S24) (hl : l.length ≤ 1048576) (hx : ∀ x, x ∈ l → x.f3.length ≤ 1048576) : Ev (fun k => laws_toLineS.f k l) (l.map cvLine) := by
  refine Ev.congr (fun k => by unfold laws_toLineS.f; rw [if_pos (by omega), if_pos (by omega)]) ?_
  have h := toLineS_l0_ev l hl hx 0 (by omega) (by omega) (List.replicate ((l.length : Int)).toNat z30) (by simp)
  simpa using h
theorem eqLineS_l0_ev (l : List S30) (hl : l.length ≤ 1048576) (hx : ∀ x, x ∈ l → x.f3.length ≤ 1048576) : ∀ i : Int, 0 ≤ i → i ≤ l.length → Ev (fun k => laws_eqLineS.l0 k l l i) true := by
  refine downI ?_ (fun i h0 h1 ih => ?_)
  · exact Ev.step (fun k => by simp only [laws_eqLineS.l0]; rw [if_neg (by omega)]) (Ev.now _)
  · have hxi : (rd_T30 l i).f3.length ≤ 1048576 := hx _ (get_mem l z30 i h0 h1)
    refine Ev.step (fun k => by simp only [laws_eqLineS.l0]; rw [if_pos h1, if_pos h0, if_pos h1]) ?_
    refine Ev.bind (eqLine_ev _ _ _ _ hxi) ?_
    exact Ev.congr (fun k => by rw [if_pos rfl, w64 (x := i + 1) (by omega) (by omega)]) ih
theorem eqLineS_ev (l : List S30) (hl : l.length ≤ 1048576) (hx : ∀ x, x ∈ l → x.f3.length ≤ 1048576) : Ev (fun k => laws_eqLineS.f k l l) true := by
  refine Ev.congr (fun k => by unfold laws_eqLineS.f; rw [if_pos rfl]) ?_
  exact eqLineS_l0_ev l hl hx 0 (by omega) (by omega)
/-- All stops of the lines. -/
def lenL : List S24 → Int
  | [] => 0
  | x :: xs => x.f3.length + lenL xs
theorem lenL_nn : ∀ l : List S24, 0 ≤ lenL l := by
  intro l
  induction l with
  | nil => simp [lenL]
  | cons x xs ih => simp only [lenL]; omega
theorem lenL_mem : ∀ (l : List S24) (x : S24), x ∈ l → (x.f3.length : Int) ≤ lenL l := by
  intro l
  induction l with
  | nil => intro x hx; simp at hx
  | cons y ys ih =>
    intro x hx
    have := lenL_nn ys
    simp only [lenL]
    rcases List.mem_cons.1 hx with rfl | hx
    · omega
    · have := ih x hx; omega
theorem szLineS_l0_ev (l : List S24) (hl : l.length ≤ 1048576) (hx : ∀ x, x ∈ l → x.f3.length ≤ maxLen) : ∀ i : Int, 0 ≤ i → i ≤ l.length → ∀ m : Int, 0 ≤ m → m ≤ 1048576 → ∃ v : Int, Ev (fun k => laws_szLineS.l0 k l m i) v ∧ (v < 0 ∨ (0 ≤ v ∧ v = m - lenL (l.drop i.toNat))) := by
  refine downI (fun m h0 h1 => ?_) (fun i h0 h1 ih m hm0 hm1 => ?_)
  · refine ⟨m, Ev.step (fun k => by simp only [laws_szLineS.l0]; rw [if_neg (by omega)]) (Ev.now _), .inr ⟨h0, ?_⟩⟩
    rw [List.drop_of_length_le (by omega)]
    simp [lenL]
  · rcases szLine_cases (rd_T24 l i).f0 (rd_T24 l i).f1 (rd_T24 l i).f2 (rd_T24 l i).f3 m ⟨hm0, hm1⟩ (hx _ (get_mem l z24 i h0 h1)) with ⟨a, b⟩ | b
    · obtain ⟨v, a1, a2⟩ := ih (m - ((rd_T24 l i).f3.length : Int)) (by omega) (by omega)
      refine ⟨v, Ev.step (fun k => by simp only [laws_szLineS.l0]; rw [if_pos h1, if_pos h0, b, Option.bind_some, if_neg (by omega), w64 (x := i + 1) (by omega) (by omega)]) a1, ?_⟩
      rcases a2 with a2 | ⟨a2, a3⟩
      · exact .inl a2
      · refine .inr ⟨a2, ?_⟩
        rw [drop_get l z24 i h0 h1]
        change v = m - (((rd_T24 l i).f3.length : Int) + lenL (l.drop (i + 1).toNat))
        omega
    · exact ⟨-1, Ev.step (fun k => by simp only [laws_szLineS.l0]; rw [if_pos h1, if_pos h0, b, Option.bind_some, if_pos (by omega)]) (Ev.now _), .inl (by omega)⟩
theorem szLineS_ev (l : List S24) (hl : l.length ≤ maxLen) (hx : ∀ x, x ∈ l → x.f3.length ≤ maxLen) : ∃ v : Int, Ev (fun k => laws_szLineS.f k l 1048576) v ∧ (v < 0 ∨ (0 ≤ v ∧ l.length ≤ 1048576 ∧ (∀ x, x ∈ l → x.f3.length ≤ 1048576) ∧ lenL l ≤ 1048576)) := by
  unfold maxLen at hl
  by_cases h : (1048576 : Int) - l.length < 0
  · exact ⟨-1, Ev.congr (fun k => by unfold laws_szLineS.f; rw [w64 (x := 1048576 - (l.length : Int)) (by omega) (by omega), if_pos h]) (Ev.now _), .inl (by omega)⟩
  · obtain ⟨v, a1, a2⟩ := szLineS_l0_ev l (by omega) hx 0 (by omega) (by omega) (1048576 - (l.length : Int)) (by omega) (by omega)
    refine ⟨v, Ev.congr (fun k => by unfold laws_szLineS.f; rw [w64 (x := 1048576 - (l.length : Int)) (by omega) (by omega), if_neg h]) a1, ?_⟩
    rcases a2 with a2 | ⟨a2, a3⟩
    · exact .inl a2
    · simp only [Int.toNat_zero, List.drop_zero] at a3
      exact .inr ⟨a2, by omega, fun x hx2 => by have := lenL_mem l x hx2; omega, by omega⟩
/-- m, m + 1, m + 2, ..: n of them. -/
def upFrom (m : Int) : Nat → List Int
  | 0 => []
  | n + 1 => m :: upFrom (m + 1) n
theorem upFrom_length : ∀ (n : Nat) (m : Int), (upFrom m n).length = n := by
  intro n
  induction n with
  | zero => intro m; rfl
  | succ n ih => intro m; simp [upFrom, ih]
theorem markIntS_l0_ev : ∀ (d : Nat) (x : List Int) (m i : Int), 0 ≤ i → (x.length : Int) - i = d → x.length ≤ 1048576 → -1000000000 ≤ m → m + d ≤ 1000000000000 → Ev (fun k => laws_markIntS.l0 k x m i) (m + d, x.take i.toNat ++ upFrom m d) := by
  intro d
  induction d with
  | zero =>
    intro x m i h0 hd hl _ _
    refine Ev.step (fun k => by simp only [laws_markIntS.l0]; rw [if_neg (by omega)]) ?_
    rw [List.take_of_length_le (by omega)]
    simp only [upFrom, List.append_nil]
    have : m + ((0 : Nat) : Int) = m := by omega
    rw [this]
    exact Ev.now _
  | succ d ih =>
    intro x m i h0 hd hl hm hm2
    refine Ev.step (fun k => by simp only [laws_markIntS.l0]; rw [if_pos (by omega), if_pos h0, w64 (x := m + 1) (by omega) (by omega), w64 (x := i + 1) (by omega) (by omega)]) ?_
    have h := ih (x.set i.toNat m) (m + 1) (i + 1) (by omega) (by simp; omega) (by simpa using hl) (by omega) (by omega)
    rw [show (i + 1).toNat = i.toNat + 1 by omega, set_fill x (upFrom (m + 1) d) i.toNat m (by omega)] at h
    rw [show m + ((d + 1 : Nat) : Int) = m + 1 + (d : Int) by omega]
    exact h
theorem heldIntS_l0_ev : ∀ (d : Nat) (x : List Int) (m i : Int), 0 ≤ i → x.length ≤ 1048576 → x.drop i.toNat = upFrom m d → (x.length : Int) - i = d → -1000000000 ≤ m → m + d ≤ 1000000000000 → Ev (fun k => laws_heldIntS.l0 k x m i) (m + d) := by
  intro d
  induction d with
  | zero =>
    intro x m i h0 hl hx hd _ _
    refine Ev.step (fun k => by simp only [laws_heldIntS.l0]; rw [if_neg (by omega)]) ?_
    have : m + ((0 : Nat) : Int) = m := by omega
    rw [this]
    exact Ev.now _
  | succ d ih =>
    intro x m i h0 hl hx hd hm hm2
    have hi : i < (x.length : Int) := by omega
    rw [drop_get x 0 i h0 hi] at hx
    simp only [upFrom, List.cons.injEq] at hx
    have e : rd x i = m := hx.1
    refine Ev.step (fun k => by simp only [laws_heldIntS.l0]; rw [if_pos hi, if_pos h0, if_pos e, w64 (x := m + 1) (by omega) (by omega), w64 (x := i + 1) (by omega) (by omega)]) ?_
    rw [show m + ((d + 1 : Nat) : Int) = m + 1 + (d : Int) by omega]
    exact ih x (m + 1) (i + 1) (by omega) hl hx.2 (by omega) (by omega) (by omega)
theorem markIntS_ev (x : List Int) (m : Int) (hl : x.length ≤ 1048576) (h0 : 0 ≤ m) (h1 : m ≤ 1000000000) : Ev (fun k => laws_markIntS.f k x m) (m + x.length, upFrom m x.length) := by
  unfold laws_markIntS.f
  have h := markIntS_l0_ev x.length x m 0 (by omega) (by omega) hl (by omega) (by omega)
  simpa using h
theorem heldIntS_ev (n : Nat) (m : Int) (hl : n ≤ 1048576) (h0 : 0 ≤ m) (h1 : m ≤ 1000000000) : Ev (fun k => laws_heldIntS.f k (upFrom m n) m) (m + n) := by
  unfold laws_heldIntS.f
  have h := heldIntS_l0_ev n (upFrom m n) m 0 (by omega) (by rw [upFrom_length]; exact hl) (by simp) (by rw [upFrom_length]; omega) (by omega) (by omega)
  simpa using h
def lenI : List S30 → Int
  | [] => 0
  | x :: xs => x.f3.length + lenI xs
theorem lenI_nn : ∀ l : List S30, 0 ≤ lenI l := by
  intro l
  induction l with
  | nil => simp [lenI]
  | cons x xs ih => simp only [lenI]; omega
theorem lenI_map : ∀ l : List S24, lenI (l.map cvLine) = lenL l := by
  intro l
  induction l with
  | nil => rfl
  | cons x xs ih => simp only [List.map_cons, lenI, lenL, ih]; rfl
theorem markLineS_l0_ev : ∀ (d : Nat) (x : List S30) (m i : Int), 0 ≤ i → (x.length : Int) - i = d → x.length ≤ 1048576 → 0 ≤ m → m + 3 * d + lenI (x.drop i.toNat) ≤ 1000000000 → lenI (x.drop i.toNat) ≤ 1048576 → ∃ r, Ev (fun k => laws_markLineS.l0 k x m i) (m + 3 * d + lenI (x.drop i.toNat), r) := by
  intro d
  induction d with
  | zero =>
    intro x m i h0 hd hl hm hs hs2
    refine ⟨x, Ev.step (fun k => by simp only [laws_markLineS.l0]; rw [if_neg (by omega)]) ?_⟩
    rw [List.drop_of_length_le (by omega)]
    simp only [lenI, Int.add_zero]
    have : m + 3 * ((0 : Nat) : Int) = m := by omega
    rw [this]
    exact Ev.now _
  | succ d ih =>
    intro x m i h0 hd hl hm hs hs2
    have h1 : i < (x.length : Int) := by omega
    have hdr := drop_get x z30 i h0 h1
    rw [hdr] at hs hs2 ⊢
    change (((rd_T30 x i).f3.length : Int) + lenI (x.drop (i + 1).toNat)) ≤ 1048576 at hs2
    change m + 3 * ((d + 1 : Nat) : Int) + (((rd_T30 x i).f3.length : Int) + lenI (x.drop (i + 1).toNat)) ≤ 1000000000 at hs
    change ∃ r, Ev _ (m + 3 * ((d + 1 : Nat) : Int) + (((rd_T30 x i).f3.length : Int) + lenI (x.drop (i + 1).toNat)), r)
    have nn := lenI_nn (x.drop (i + 1).toNat)
    by_cases hb : (rd_T30 x i).f3.length ≤ 1048576
    · have e : (x.set i.toNat ⟨m, m + 1, m + 1 + 1, upFrom (m + 1 + 1 + 1) (rd_T30 x i).f3.length⟩).drop (i + 1).toNat = x.drop (i + 1).toNat := by
        rw [List.drop_set_of_lt (by omega)]
      obtain ⟨r, a⟩ := ih (x.set i.toNat ⟨m, m + 1, m + 1 + 1, upFrom (m + 1 + 1 + 1) (rd_T30 x i).f3.length⟩) (m + 1 + 1 + 1 + (rd_T30 x i).f3.length) (i + 1) (by omega) (by simp; omega) (by simpa using hl) (by omega) (by rw [e]; omega) (by rw [e]; omega)
      rw [e] at a
      refine ⟨r, Ev.step (fun k => by simp only [laws_markLineS.l0]; rw [if_pos h1, if_pos h0, w64 (x := m + 1) (by omega) (by omega), w64 (x := m + 1 + 1) (by omega) (by omega), w64 (x := m + 1 + 1 + 1) (by omega) (by omega)]) ?_⟩
      refine Ev.bind (markIntS_ev (rd_T30 x i).f3 (m + 1 + 1 + 1) hb (by omega) (by omega)) ?_
      rw [show m + 3 * ((d + 1 : Nat) : Int) + (((rd_T30 x i).f3.length : Int) + lenI (x.drop (i + 1).toNat)) = m + 1 + 1 + 1 + ((rd_T30 x i).f3.length : Int) + 3 * (d : Int) + lenI (x.drop (i + 1).toNat) by omega]
      exact Ev.congr (fun k => by rw [w64 (x := i + 1) (by omega) (by omega)]) a
    · exfalso; omega
theorem markLineS_ev (x : List S30) (hl : x.length ≤ 1048576) (hs : lenI x ≤ 1048576) : ∃ r, Ev (fun k => laws_markLineS.f k x 1) (1 + 3 * x.length + lenI x, r) := by
  unfold laws_markLineS.f
  have h := markLineS_l0_ev x.length x 1 0 (by omega) (by omega) hl (by omega) (by simp only [Int.toNat_zero, List.drop_zero]; omega) (by simpa using hs)
  simpa using h
theorem in_eq (a b c : Int) : spec_l1In.f a b c = some (decide (b ≤ a ∧ a ≤ c)) := by
  unfold spec_l1In.f
  by_cases h : a ≥ b
  · rw [if_pos h]; congr 1; simp; omega
  · rw [if_neg h]; congr 1; simp; omega
theorem within_eq (a b c : Int) : impl_within.f a b c = some (decide (b ≤ a ∧ a ≤ c)) := by
  unfold impl_within.f
  by_cases h : a ≥ b
  · rw [if_pos h]; congr 1; simp; omega
  · rw [if_neg h]; congr 1; simp; omega
structure GoodLine (f e c : Int) (st : List Int) : Prop where
  first : 0 ≤ f ∧ f ≤ 2000
  every : 1 ≤ e ∧ e ≤ 2000
  count : 1 ≤ c ∧ c ≤ 60
  last : f + (c - 1) * e ≤ 2000
  stops : 2 ≤ (st.length : Int) ∧ (st.length : Int) ≤ 12
  zero : rd st 0 = 0
  rise : ∀ i : Int, 1 ≤ i → i < st.length → rd st (i - 1) < rd st i
  top : rd st (st.length - 1) ≤ 500
theorem GoodLine.range {f e c : Int} {st : List Int} (h : GoodLine f e c st) : ∀ i : Int, 0 ≤ i → i < st.length → 0 ≤ rd st i ∧ rd st i ≤ 500 := by
  have up : ∀ n : Nat, (n : Int) < st.length → 0 ≤ rd st n := by
    intro n
    induction n with
    | zero => intro _; have := h.zero; simp at this ⊢; omega
    | succ n ih =>
      intro hn
      have := h.rise ((n + 1 : Nat) : Int) (by omega) hn
      have := ih (by omega)
      rw [show (((n + 1 : Nat) : Int) - 1) = (n : Int) by omega] at *
      omega
  have dn : ∀ i : Int, 0 ≤ i → i ≤ st.length - 1 → rd st i ≤ 500 := by
    refine downI h.top (fun i h0 h1 ih => ?_)
    have := h.rise (i + 1) (by omega) (by omega)
    rw [show i + 1 - 1 = i by omega] at this
    omega
  intro i h0 h1
  have := up i.toNat (by omega)
  rw [show ((i.toNat : Nat) : Int) = i by omega] at this
  exact ⟨this, dn i h0 (by omega)⟩
theorem rising_ev (st : List Int) (hs : st.length ≤ 12) : ∀ i : Int, 0 ≤ i → i ≤ st.length → ∃ b : Bool, Ev (fun k => spec_l1Rising.l0 k st 0 500 st st.length i) b ∧ (b = true ↔ ∀ j : Int, i ≤ j → j < st.length → (0 ≤ rd st j ∧ rd st j ≤ 500) ∧ (0 < j → rd st (j - 1) < rd st j)) := by
  refine downI ?_ (fun i h0 h1 ih => ?_)
  · exact ⟨true, Ev.step (fun k => by simp only [spec_l1Rising.l0]; rw [if_neg (by omega)]) (Ev.now _), by simp; intro j hj hj2; omega⟩
  · obtain ⟨b, hb, hiff⟩ := ih
    have st0 : ∀ k, spec_l1Rising.l0 (k + 1) st 0 500 st st.length i = if decide (0 ≤ rd st i ∧ rd st i ≤ 500) = true then (if i > 0 then (if 0 ≤ i - 1 then (if i - 1 < (st.length : Int) then (if rd st (i - 1) ≥ rd st i then some false else spec_l1Rising.l0 k st 0 500 st st.length (i + 1)) else none) else none) else spec_l1Rising.l0 k st 0 500 st st.length (i + 1)) else some false := fun k => by
      simp only [spec_l1Rising.l0, in_eq, Option.bind_some]
      rw [if_pos h1, if_pos h0, if_pos h1, w64 (x := i + 1) (by omega) (by omega), w64 (x := i - 1) (by omega) (by omega)]
    by_cases a : 0 ≤ rd st i ∧ rd st i ≤ 500
    · by_cases z : i > 0
      · by_cases r : rd st (i - 1) ≥ rd st i
        · refine ⟨false, Ev.step (fun k => by rw [st0, if_pos (decide_eq_true a), if_pos z, if_pos (by omega), if_pos (by omega), if_pos r]) (Ev.now _), ?_⟩
          refine ⟨fun h => (by cases h), fun h => ?_⟩
          have := (h i (Int.le_refl _) h1).2 z
          omega
        · refine ⟨b, Ev.step (fun k => by rw [st0, if_pos (decide_eq_true a), if_pos z, if_pos (by omega), if_pos (by omega), if_neg r]) hb, ?_⟩
          rw [hiff]
          refine ⟨fun h j hj hj2 => ?_, fun h j hj hj2 => h j (by omega) hj2⟩
          by_cases e : j = i
          · subst e; exact ⟨a, fun _ => by omega⟩
          · exact h j (by omega) hj2
      · refine ⟨b, Ev.step (fun k => by rw [st0, if_pos (decide_eq_true a), if_neg z]) hb, ?_⟩
        rw [hiff]
        refine ⟨fun h j hj hj2 => ?_, fun h j hj hj2 => h j (by omega) hj2⟩
        by_cases e : j = i
        · subst e; exact ⟨a, fun q => absurd q z⟩
        · exact h j (by omega) hj2
    · refine ⟨false, Ev.step (fun k => by rw [st0, if_neg (by simpa using a)]) (Ev.now _), ?_⟩
      exact ⟨fun h => (by cases h), fun h => absurd (h i (Int.le_refl _) h1).1 a⟩
theorem increasing_ev (st : List Int) (hs : st.length ≤ 12) : ∀ i : Int, 1 ≤ i → i ≤ st.length → ∃ b : Bool, Ev (fun k => impl_increasing.l0 k st i) b ∧ (b = true ↔ ∀ j : Int, i ≤ j → j < st.length → rd st (j - 1) < rd st j) := by
  refine downA ?_ (fun i h0 h1 ih => ?_)
  · exact ⟨true, Ev.step (fun k => by simp only [impl_increasing.l0]; rw [if_neg (by omega)]) (Ev.now _), by simp; intro j hj hj2; omega⟩
  · obtain ⟨b, hb, hiff⟩ := ih
    have st0 : ∀ k, impl_increasing.l0 (k + 1) st i = if rd st (i - 1) ≥ rd st i then some false else impl_increasing.l0 k st (i + 1) := fun k => by
      simp only [impl_increasing.l0]
      rw [w64 (x := i + 1) (by omega) (by omega), w64 (x := i - 1) (by omega) (by omega), if_pos h1, if_pos (by omega), if_pos (by omega), if_pos (by omega)]
    by_cases r : rd st (i - 1) ≥ rd st i
    · refine ⟨false, Ev.step (fun k => by rw [st0, if_pos r]) (Ev.now _), ?_⟩
      refine ⟨fun h => (by cases h), fun h => ?_⟩
      have := h i (Int.le_refl _) h1
      omega
    · refine ⟨b, Ev.step (fun k => by rw [st0, if_neg r]) hb, ?_⟩
      rw [hiff]
      refine ⟨fun h j hj hj2 => ?_, fun h j hj hj2 => h j (by omega) hj2⟩
      by_cases e : j = i
      · subst e; omega
      · exact h j (by omega) hj2
theorem line_sum {f e c : Int} (hf : 0 ≤ f ∧ f ≤ 2000) (he : 1 ≤ e ∧ e ≤ 2000) (hc : 1 ≤ c ∧ c ≤ 60) : wrap64 (f + wrap64 (wrap64 (c - 1) * e)) = f + (c - 1) * e := by
  have b := mul_bd (A := 60) (B := 2000) (by omega : 0 ≤ c - 1) (by omega) (by omega : 0 ≤ e) (by omega)
  rw [w64 (x := c - 1) (by omega) (by omega), w64 (x := (c - 1) * e) (by omega) (by omega), w64 (by omega) (by omega)]
theorem buGood_ev (f e c : Int) (st : List Int) : Ev (fun k => spec_buGood.f k f e c st) (dec (GoodLine f e c st)) := by
  have bad : ∀ {x : Bool}, ¬ GoodLine f e c st → x = true → Ev (fun k => spec_buGood.j0 k x f e c st) (dec (GoodLine f e c st)) := by
    intro x hn hx
    subst hx
    rw [dec_false hn]
    exact Ev.step (fun k => by simp only [spec_buGood.j0]; rw [if_pos trivial]) (Ev.now _)
  unfold spec_buGood.f
  simp only [in_eq, Option.bind_some, decide_eq_true_eq]
  by_cases h1 : 0 ≤ f ∧ f ≤ 2000
  · by_cases h2 : 1 ≤ e ∧ e ≤ 2000
    · simp only [if_pos h1, if_pos h2]
      by_cases h3 : 1 ≤ c ∧ c ≤ 60
      · have e3 : (!decide (1 ≤ c ∧ c ≤ 60)) = false := by rw [decide_eq_true h3]; rfl
        rw [e3]
        refine Ev.step (fun k => by simp only [spec_buGood.j0]; rw [if_neg (by simp), line_sum h1 h2 h3, in_eq, Option.bind_some]) ?_
        by_cases h4 : f + (c - 1) * e > 2000
        · rw [dec_false (fun g => by have := g.last; omega)]
          simp only [if_pos h4]; exact Ev.now _
        · simp only [if_neg h4]
          by_cases h5 : 2 ≤ (st.length : Int) ∧ (st.length : Int) ≤ 12
          · simp only [if_pos (decide_eq_true h5), if_pos (show 0 < (st.length : Int) by omega)]
            by_cases h6 : rd st 0 = 0
            · simp only [if_pos h6]
              obtain ⟨b, hb, hiff⟩ := rising_ev st (by omega) 0 (by omega) (by omega)
              have : b = dec (GoodLine f e c st) := dec_of (by
                rw [hiff]
                refine ⟨fun h => ⟨h1, h2, h3, by omega, h5, h6, fun i hi hi2 => (h i (by omega) hi2).2 (by omega), (h (st.length - 1) (by omega) (by omega)).1.2⟩, fun g j hj hj2 => ⟨g.range j hj hj2, fun hp => g.rise j (by omega) hj2⟩⟩)
              rw [← this]
              exact Ev.bind hb (Ev.now _)
            · rw [dec_false (fun g => h6 g.zero)]
              simp only [if_neg h6]; exact Ev.now _
          · rw [dec_false (fun g => h5 g.stops)]
            have : decide (2 ≤ (st.length : Int) ∧ (st.length : Int) ≤ 12) = false := decide_eq_false h5
            simp only [this, Bool.false_eq_true, if_false]; exact Ev.now _
      · exact bad (fun g => h3 g.count) (by rw [decide_eq_false h3]; rfl)
    · simp only [if_pos h1, if_neg h2]
      exact bad (fun g => h2 g.every) rfl
  · simp only [if_neg h1]
    exact bad (fun g => h1 g.first) rfl
theorem isLine_ev (f e c : Int) (st : List Int) : Ev (fun k => impl_IsLine.f k f e c st) (dec (GoodLine f e c st)) := by
  have bad : ∀ {x : Bool}, ¬ GoodLine f e c st → x = true → Ev (fun k => impl_IsLine.j0 k x f e c st) (dec (GoodLine f e c st)) := by
    intro x hn hx
    subst hx
    rw [dec_false hn]
    exact Ev.step (fun k => by simp only [impl_IsLine.j0]; rw [if_pos trivial]) (Ev.now _)
  unfold impl_IsLine.f impl_isMinute.f
  simp only [within_eq, Option.bind_some, decide_eq_true_eq]
  by_cases h1 : 0 ≤ f ∧ f ≤ 2000
  · by_cases h2 : 1 ≤ e ∧ e ≤ 2000
    · by_cases h3 : 1 ≤ c ∧ c ≤ 60
      · simp only [if_pos h1, if_pos h2, if_pos h3, line_sum h1 h2 h3]
        by_cases h4 : f + (c - 1) * e > 2000
        · exact bad (fun g => by have := g.last; omega) (decide_eq_true h4)
        · rw [decide_eq_false h4]
          refine Ev.step (fun k => by simp only [impl_IsLine.j0]; rw [if_neg (by simp), within_eq, Option.bind_some]) ?_
          by_cases h5 : 2 ≤ (st.length : Int) ∧ (st.length : Int) ≤ 12
          · simp only [if_pos (decide_eq_true h5), if_pos (show 0 < (st.length : Int) by omega)]
            by_cases h6 : rd st 0 = 0
            · simp only [if_pos h6]
              obtain ⟨b, hb, hiff⟩ := increasing_ev st (by omega) 1 (by omega) (by omega)
              refine Ev.bind (g := fun k => impl_increasing.f k st) hb ?_
              rw [w64 (x := (st.length : Int) - 1) (by omega) (by omega)]
              simp only [if_pos (show 0 ≤ (st.length : Int) - 1 by omega), if_pos (show (st.length : Int) - 1 < st.length by omega)]
              by_cases hb2 : b = true
              · simp only [if_pos hb2]
                have : decide (rd st ((st.length : Int) - 1) ≤ 500) = dec (GoodLine f e c st) := dec_of (by
                  rw [decide_eq_true_iff]
                  exact ⟨fun h => ⟨h1, h2, h3, by omega, h5, h6, hiff.1 hb2, h⟩, fun g => g.top⟩)
                rw [← this]
                exact Ev.now _
              · rw [dec_false (fun g => hb2 (hiff.2 g.rise))]
                simp only [if_neg hb2]; exact Ev.now _
            · rw [dec_false (fun g => h6 g.zero)]
              simp only [if_neg h6]; exact Ev.now _
          · rw [dec_false (fun g => h5 g.stops)]
            have : decide (2 ≤ (st.length : Int) ∧ (st.length : Int) ≤ 12) = false := decide_eq_false h5
            simp only [this, Bool.false_eq_true, if_false]; exact Ev.now _
      · simp only [if_pos h1, if_pos h2, if_neg h3]
        exact bad (fun g => h3 g.count) rfl
    · simp only [if_pos h1, if_neg h2]
      exact bad (fun g => h2 g.every) rfl
  · simp only [if_neg h1]
    exact bad (fun g => h1 g.first) rfl
def inB (lo hi : Int) (x : Int) : Bool := decide (lo ≤ x ∧ x ≤ hi)
theorem allWithin_l0_ev (l : List Int) (lo hi : Int) (hl : l.length ≤ 1048576) : ∀ i : Int, 0 ≤ i → i ≤ l.length → Ev (fun k => impl_allWithin.l0 k lo hi l l.length i) ((l.drop i.toNat).all (inB lo hi)) := by
  refine downI ?_ (fun i h0 h1 ih => ?_)
  · refine Ev.step (fun k => by simp only [impl_allWithin.l0]; rw [if_neg (by omega)]) ?_
    rw [List.drop_of_length_le (by omega)]
    exact Ev.now _
  · rw [drop_get l 0 i h0 h1, List.all_cons]
    refine Ev.step (f := fun k => if inB lo hi (rd l i) = true then impl_allWithin.l0 k lo hi l l.length (i + 1) else some false) (fun k => by simp only [impl_allWithin.l0, within_eq, Option.bind_some]; rw [if_pos h1, if_pos h0, if_pos h1, w64 (x := i + 1) (by omega) (by omega)]; rfl) ?_
    show Ev _ (inB lo hi (rd l i) && _)
    cases inB lo hi (rd l i)
    · simp only [Bool.false_and, Bool.false_eq_true, if_false]; exact Ev.now _
    · simp only [Bool.true_and, if_true]; exact ih
theorem allWithin_ev (l : List Int) (lo hi : Int) (hl : l.length ≤ 1048576) : Ev (fun k => impl_allWithin.f k l lo hi) (l.all (inB lo hi)) := by
  unfold impl_allWithin.f
  exact allWithin_l0_ev l lo hi hl 0 (by omega) (by omega)
/-- The minute at which the bus b is at the stop s. -/
def tat (f e : Int) (st : List Int) (b s : Int) : Int := f + b * e + rd st s
def StopOf (st : List Int) (s : Int) : Prop := 0 ≤ s ∧ s < st.length
theorem tat_bd {f e c : Int} {st : List Int} (G : GoodLine f e c st) {b s : Int} (hb : 0 ≤ b ∧ b < c) (hs : StopOf st s) : 0 ≤ tat f e st b s ∧ tat f e st b s ≤ 2500 ∧ 0 ≤ b * e ∧ b * e ≤ (c - 1) * e ∧ (c - 1) * e ≤ 2000 := by
  have r := G.range s hs.1 hs.2
  have h1 := G.first
  have h2 := G.every
  have h4 := G.last
  have m1 := mul_le_r (c := e) (by omega) (show b ≤ c - 1 by omega)
  have m2 := Int.mul_nonneg hb.1 (show 0 ≤ e by omega)
  unfold tat
  omega
theorem tat_w {f e c : Int} {st : List Int} (G : GoodLine f e c st) {b s : Int} (hb : 0 ≤ b ∧ b < c) (hs : StopOf st s) : wrap64 (wrap64 (f + wrap64 (b * e)) + rd st s) = tat f e st b s := by
  have t := tat_bd G hb hs
  have r := G.range s hs.1 hs.2
  have h1 := G.first
  rw [w64 (x := b * e) (by omega) (by omega), w64 (x := f + b * e) (by omega) (by omega), w64 (by omega) (by omega)]
  rfl
theorem buTime_eq {f e c : Int} {st : List Int} (G : GoodLine f e c st) {b s : Int} (hb : 0 ≤ b ∧ b < c) (hs : StopOf st s) : spec_buTime.f f e c st b s = some (tat f e st b s) := by
  unfold spec_buTime.f
  rw [if_pos hs.1, if_pos hs.2, tat_w G hb hs]
theorem timeAt_eq {f e c : Int} {st : List Int} (G : GoodLine f e c st) {b s : Int} (hb : 0 ≤ b ∧ b < c) (hs : StopOf st s) : impl_timeAt.f f e c st b s = some (tat f e st b s) := by
  unfold impl_timeAt.f
  rw [if_pos hs.1, if_pos hs.2, tat_w G hb hs]
theorem tat_mono {f e c : Int} {st : List Int} (G : GoodLine f e c st) (b : Int) : ∀ s : Int, 0 ≤ s → s ≤ st.length - 1 → ∀ s', s ≤ s' → s' ≤ st.length - 1 → tat f e st b s ≤ tat f e st b s' := by
  have up : ∀ n : Nat, ∀ s : Int, 0 ≤ s → s + n ≤ st.length - 1 → rd st s ≤ rd st (s + n) := by
    intro n
    induction n with
    | zero => intro s _ _; simp
    | succ n ih =>
      intro s h0 h1
      have a := ih s h0 (by omega)
      have b := G.rise (s + ((n + 1 : Nat) : Int)) (by omega) (by omega)
      rw [show s + ((n + 1 : Nat) : Int) - 1 = s + (n : Int) by omega] at b
      omega
  intro s h0 _ s' h2 h3
  have := up (s' - s).toNat s h0 (by omega)
  rw [show s + ((s' - s).toNat : Int) = s' by omega] at this
  unfold tat
  omega
theorem hasStops_ev (f e c : Int) (st stops : List Int) (hl : stops.length ≤ 1048576) : Ev (fun k => impl_hasStops.f k f e c st stops) (dec (GoodLine f e c st ∧ ∀ s, s ∈ stops → StopOf st s)) := by
  unfold impl_hasStops.f
  refine Ev.bind (isLine_ev f e c st) ?_
  by_cases g : GoodLine f e c st
  · rw [dec_true g]
    simp only [if_true]
    have h5 := g.stops
    rw [w64 (x := (st.length : Int) - 1) (by omega) (by omega)]
    have : stops.all (inB 0 ((st.length : Int) - 1)) = dec (GoodLine f e c st ∧ ∀ s, s ∈ stops → StopOf st s) := dec_of (by
      rw [List.all_eq_true]
      refine ⟨fun h => ⟨g, fun s hs => ?_⟩, fun h s hs => ?_⟩
      · have := h s hs
        unfold inB at this
        have := of_decide_eq_true this
        exact ⟨by omega, by omega⟩
      · have := h.2 s hs
        unfold inB
        exact decide_eq_true ⟨this.1, by have := this.2; omega⟩)
    rw [← this]
    exact Ev.bind (allWithin_ev stops _ _ hl) (Ev.now _)
  · rw [dec_false g, dec_false (fun h => g h.1)]
    simp only [Bool.false_eq_true, if_false]
    exact Ev.now _
theorem hasStops0_ev (f e c : Int) (st : List Int) : Ev (fun k => impl_hasStops.f k f e c st []) (dec (GoodLine f e c st)) := by
  have h := hasStops_ev f e c st [] (by simp)
  have : dec (GoodLine f e c st ∧ ∀ s, s ∈ ([] : List Int) → StopOf st s) = dec (GoodLine f e c st) := dec_of (by rw [dec_iff]; simp)
  rw [this] at h
  exact h
theorem hasStops1_ev (f e c : Int) (st : List Int) (s : Int) : Ev (fun k => impl_hasStops.f k f e c st [s]) (dec (GoodLine f e c st ∧ StopOf st s)) := by
  have h := hasStops_ev f e c st [s] (by simp)
  have : dec (GoodLine f e c st ∧ ∀ x, x ∈ [s] → StopOf st x) = dec (GoodLine f e c st ∧ StopOf st s) := dec_of (by rw [dec_iff]; simp)
  rw [this] at h
  exact h
theorem hasStops2_ev (f e c : Int) (st : List Int) (s t : Int) : Ev (fun k => impl_hasStops.f k f e c st [s, t]) (dec (GoodLine f e c st ∧ StopOf st s ∧ StopOf st t)) := by
  have h := hasStops_ev f e c st [s, t] (by simp)
  have : dec (GoodLine f e c st ∧ ∀ x, x ∈ [s, t] → StopOf st x) = dec (GoodLine f e c st ∧ StopOf st s ∧ StopOf st t) := dec_of (by rw [dec_iff]; simp)
  rw [this] at h
  exact h
theorem buStop_ev (f e c : Int) (st : List Int) (s : Int) : Ev (fun k => spec_buStop.f k f e c st s) (dec (GoodLine f e c st ∧ StopOf st s)) := by
  unfold spec_buStop.f
  refine Ev.bind (buGood_ev f e c st) ?_
  by_cases g : GoodLine f e c st
  · rw [dec_true g]
    have h5 := g.stops
    simp only [if_true, in_eq, Option.bind_some]
    rw [w64 (x := (st.length : Int) - 1) (by omega) (by omega)]
    have : decide (0 ≤ s ∧ s ≤ (st.length : Int) - 1) = dec (GoodLine f e c st ∧ StopOf st s) := dec_of (by
      rw [decide_eq_true_iff]
      exact ⟨fun h => ⟨g, h.1, by omega⟩, fun h => ⟨h.2.1, by have := h.2.2; omega⟩⟩)
    rw [← this]
    exact Ev.now _
  · rw [dec_false g, dec_false (fun h => g h.1)]
    simp only [Bool.false_eq_true, if_false]
    exact Ev.now _
/-- Two strictly increasing lists with the same members are one. -/
theorem strict_ext : ∀ {l m : List Int}, l.Pairwise (· < ·) → m.Pairwise (· < ·) → (∀ x, x ∈ l ↔ x ∈ m) → l = m := by
  intro l
  induction l with
  | nil =>
    intro m _ _ h
    cases m with
    | nil => rfl
    | cons b m => exact absurd ((h b).2 List.mem_cons_self) (by simp)
  | cons a l ih =>
    intro m hl hm h
    cases m with
    | nil => exact absurd ((h a).1 List.mem_cons_self) (by simp)
    | cons b m =>
      obtain ⟨hl1, hl2⟩ := List.pairwise_cons.1 hl
      obtain ⟨hm1, hm2⟩ := List.pairwise_cons.1 hm
      have e : a = b := by
        rcases List.mem_cons.1 ((h a).1 List.mem_cons_self) with e | e
        · exact e
        · rcases List.mem_cons.1 ((h b).2 List.mem_cons_self) with e2 | e2
          · exact e2.symm
          · have := hl1 _ e2
            have := hm1 _ e
            omega
      subst e
      rw [ih hl2 hm2 (fun x => ?_)]
      constructor
      · intro hx
        rcases List.mem_cons.1 ((h x).1 (List.mem_cons_of_mem _ hx)) with e | e
        · have := hl1 _ hx; omega
        · exact e
      · intro hx
        rcases List.mem_cons.1 ((h x).2 (List.mem_cons_of_mem _ hx)) with e | e
        · have := hm1 _ hx; omega
        · exact e
theorem arr_get (zs : List Int) (j : Nat) (h : j < zs.length) : zs.toArray[j]! = zs[j] := by simp [h]
theorem compact_mem (zs : List Int) (x : Int) : x ∈ Lib.compact zs ↔ x ∈ zs := by
  unfold Lib.compact Lib.compactUpTo
  rw [List.mem_map]
  constructor
  · rintro ⟨j, hj, rfl⟩
    have h1 := List.mem_range.1 (List.mem_filter.1 hj).1
    rw [arr_get zs j h1]
    exact List.getElem_mem h1
  · intro hx
    obtain ⟨j, hj, rfl⟩ := List.getElem_of_mem hx
    have key : ∀ j (h : j < zs.length), ∃ a, a ∈ (List.range zs.length).filter (Lib.keeps zs.toArray) ∧ zs.toArray[a]! = zs[j] := by
      intro j
      induction j with
      | zero => intro h; exact ⟨0, List.mem_filter.2 ⟨List.mem_range.2 h, by simp [Lib.keeps]⟩, arr_get zs 0 h⟩
      | succ j ih =>
        intro h
        by_cases e : zs[j + 1] = zs[j]
        · rw [e]; exact ih (by omega)
        · refine ⟨j + 1, List.mem_filter.2 ⟨List.mem_range.2 h, ?_⟩, arr_get zs _ h⟩
          unfold Lib.keeps
          rw [decide_eq_true_iff]
          right
          rw [arr_get zs _ h, show j + 1 - 1 = j by omega, arr_get zs j (by omega)]
          exact e
    exact key j hj
theorem compact_strict (zs : List Int) (h : zs.Pairwise (· ≤ ·)) : (Lib.compact zs).Pairwise (· < ·) := by
  unfold Lib.compact Lib.compactUpTo
  rw [List.pairwise_map]
  have le : ∀ i j (hi : i < zs.length) (hj : j < zs.length), i ≤ j → zs[i] ≤ zs[j] := by
    intro i j hi hj hij
    by_cases e : i = j
    · subst e; omega
    · exact List.pairwise_iff_getElem.1 h i j hi hj (by omega)
  refine List.Pairwise.imp_of_mem ?_ (List.Pairwise.filter _ (List.pairwise_lt_range (n := zs.length)))
  intro a b ha hb hab
  obtain ⟨hb1, hb2⟩ := List.mem_filter.1 hb
  have ha1 := List.mem_range.1 (List.mem_filter.1 ha).1
  have hb1 := List.mem_range.1 hb1
  unfold Lib.keeps at hb2
  rw [decide_eq_true_iff] at hb2
  rw [arr_get zs a ha1, arr_get zs b hb1]
  rcases hb2 with hb2 | hb2
  · omega
  · rw [arr_get zs b hb1, arr_get zs (b - 1) (by omega)] at hb2
    have h1 := le a (b - 1) ha1 (by omega) (by omega)
    have h2 := le (b - 1) b (by omega) hb1 (by omega)
    omega
/-- Sorted, each once: the one strictly increasing list with these members. -/
def sorted1 (l : List Int) : List Int := Lib.compact (l.mergeSort fun x y => decide (x ≤ y))
theorem sorted1_strict (l : List Int) : (sorted1 l).Pairwise (· < ·) := by
  refine compact_strict _ ?_
  have h := List.pairwise_mergeSort (le := fun (x y : Int) => decide (x ≤ y)) (fun a b c h1 h2 => by simp at *; omega) (fun a b => by simp; omega) l
  exact h.imp (fun h => by simpa using h)
theorem sorted1_mem (l : List Int) (x : Int) : x ∈ sorted1 l ↔ x ∈ l := by
  unfold sorted1
  rw [compact_mem]
  exact (List.mergeSort_perm l _).mem_iff
theorem sorted1_len (l : List Int) : (sorted1 l).length ≤ l.length := by
  unfold sorted1 Lib.compact Lib.compactUpTo
  rw [List.length_map]
  refine Nat.le_trans (List.length_filter_le _ _) ?_
  rw [List.length_range, List.length_mergeSort]
  exact Nat.le_refl _
theorem l1Has_l0_ev (l : List Int) (x : Int) (hl : l.length ≤ 1048576) : ∀ i : Int, 0 ≤ i → i ≤ l.length → Ev (fun k => spec_l1Has.l0 k x l l.length i) (decide (x ∈ l.drop i.toNat)) := by
  refine downI ?_ (fun i h0 h1 ih => ?_)
  · refine Ev.step (fun k => by simp only [spec_l1Has.l0]; rw [if_neg (by omega)]) ?_
    rw [List.drop_of_length_le (by omega)]
    exact Ev.now _
  · rw [drop_get l 0 i h0 h1]
    by_cases e : rd l i = x
    · rw [decide_eq_true (show x ∈ l.getD i.toNat 0 :: l.drop (i + 1).toNat from by rw [List.mem_cons]; exact .inl e.symm)]
      exact Ev.step (fun k => by simp only [spec_l1Has.l0]; rw [if_pos h1, if_pos h0, if_pos h1, if_pos e]) (Ev.now _)
    · have e2 : decide (x ∈ l.getD i.toNat 0 :: l.drop (i + 1).toNat) = decide (x ∈ l.drop (i + 1).toNat) := by
        rw [decide_eq_decide, List.mem_cons]
        exact ⟨fun h => h.resolve_left (fun h => e h.symm), .inr⟩
      rw [e2]
      exact Ev.step (fun k => by simp only [spec_l1Has.l0]; rw [if_pos h1, if_pos h0, if_pos h1, if_neg e, w64 (x := i + 1) (by omega) (by omega)]) ih
theorem l1Has_ev (l : List Int) (x : Int) (hl : l.length ≤ 1048576) : Ev (fun k => spec_l1Has.f k l x) (decide (x ∈ l)) := by
  have h := l1Has_l0_ev l x hl 0 (by omega) (by omega)
  simp only [Int.toNat_zero, List.drop_zero] at h
  exact h
theorem l1Put_l0_ev (l : List Int) (x : Int) (hl : l.length ≤ 1048576) (hs : l.Pairwise (· < ·)) (hx : x ∉ l) : ∀ i : Int, 0 ≤ i → i ≤ l.length → (∀ y, y ∈ l.take i.toNat → y < x) → ∃ r : List Int, Ev (fun k => spec_l1Put.l0 k l x i) r ∧ r.Pairwise (· < ·) ∧ (∀ y, y ∈ r ↔ y = x ∨ y ∈ l) ∧ r.length = l.length + 1 := by
  have fin : ∀ i : Nat, i ≤ l.length → (∀ y, y ∈ l.take i → y < x) → (∀ y, y ∈ l.drop i → x < y) → (l.take i ++ [x] ++ l.drop i).Pairwise (· < ·) ∧ (∀ y, y ∈ l.take i ++ [x] ++ l.drop i ↔ y = x ∨ y ∈ l) ∧ (l.take i ++ [x] ++ l.drop i).length = l.length + 1 := by
    intro i hi h1 h2
    refine ⟨?_, fun y => ?_, ?_⟩
    · rw [List.pairwise_append, List.pairwise_append]
      refine ⟨⟨hs.sublist (List.take_sublist _ _), by simp, fun a ha b hb => ?_⟩, hs.sublist (List.drop_sublist _ _), fun a ha b hb => ?_⟩
      · rw [List.mem_singleton.1 hb]; exact h1 a ha
      · have hbx := h2 b hb
        rcases List.mem_append.1 ha with ha | ha
        · have := h1 a ha; omega
        · rw [List.mem_singleton.1 ha]; exact hbx
    · have e : y ∈ l ↔ y ∈ l.take i ∨ y ∈ l.drop i := by
        rw [← List.mem_append, List.take_append_drop]
      rw [e, List.mem_append, List.mem_append, List.mem_singleton]
      constructor
      · rintro ((h | h) | h)
        · exact .inr (.inl h)
        · exact .inl h
        · exact .inr (.inr h)
      · rintro (h | h | h)
        · exact .inl (.inr h)
        · exact .inl (.inl h)
        · exact .inr h
    · simp only [List.length_append, List.length_take, List.length_drop, List.length_singleton]
      omega
  refine downI (fun h => ?_) (fun i h0 h1 ih h => ?_)
  · have e : ((l.length : Int)).toNat = l.length := by omega
    refine ⟨l.take l.length ++ [x] ++ l.drop l.length, ?_, fin l.length (Nat.le_refl _) (by rw [e] at h; exact h) (by simp)⟩
    refine Ev.step (fun k => by simp only [spec_l1Put.l0, Option.bind_some]; rw [if_neg (by omega), if_pos (by omega), if_pos (by omega), if_pos (by simp; omega), if_pos (by simp; omega), if_pos (by simp; omega), e]) ?_
    exact Ev.now _
  · have hd := drop_get l 0 i h0 h1
    have hge : rd l i ≠ x := fun e => hx (by rw [← e]; exact get_mem l 0 i h0 h1)
    by_cases c : rd l i < x
    · obtain ⟨r, a1, a2⟩ := ih (by
        intro y hy
        rw [show (i + 1).toNat = i.toNat + 1 by omega, List.take_add_one, List.mem_append] at hy
        rcases hy with hy | hy
        · exact h y hy
        · have hg : l[i.toNat]? = some (rd l i) := by
            unfold rd
            rw [List.getD_eq_getElem?_getD, List.getElem?_eq_getElem (show i.toNat < l.length by omega)]
            rfl
          rw [hg] at hy
          simp at hy
          rw [hy]; exact c)
      exact ⟨r, Ev.step (fun k => by simp only [spec_l1Put.l0]; rw [if_pos h1, if_pos h0, if_pos c, w64 (x := i + 1) (by omega) (by omega)]) a1, a2⟩
    · have hgt : ∀ y, y ∈ l.drop i.toNat → x < y := by
        intro y hy
        have hp := hs.sublist (List.drop_sublist i.toNat l)
        rw [hd] at hp hy
        have hr : l.getD i.toNat 0 = rd l i := rfl
        rw [hr] at hp hy
        obtain ⟨p1, _⟩ := List.pairwise_cons.1 hp
        rcases List.mem_cons.1 hy with rfl | hy
        · omega
        · have := p1 y hy; omega
      refine ⟨l.take i.toNat ++ [x] ++ l.drop i.toNat, ?_, fin i.toNat (by omega) h hgt⟩
      refine Ev.step (fun k => by simp only [spec_l1Put.l0, Option.bind_some]; rw [if_pos h1, if_pos h0, if_neg c, if_neg hge, if_pos (by omega), if_pos (by simp; omega), if_pos (by simp; omega), if_pos (by simp; omega)]) ?_
      exact Ev.now _
theorem l1Put_ev (l : List Int) (x : Int) (hl : l.length ≤ 1048576) (hs : l.Pairwise (· < ·)) (hx : x ∉ l) : ∃ r : List Int, Ev (fun k => spec_l1Put.f k l x) r ∧ r.Pairwise (· < ·) ∧ (∀ y, y ∈ r ↔ y = x ∨ y ∈ l) ∧ r.length = l.length + 1 :=
  l1Put_l0_ev l x hl hs hx 0 (by omega) (by omega) (by simp)
abbrev rdL (ls : List S30) (i : Int) : S30 := rd_T30 ls i
abbrev GoodAt (ls : List S30) (ss : List Int) (j : Int) : Prop := GoodLine (rdL ls j).f0 (rdL ls j).f1 (rdL ls j).f2 (rdL ls j).f3 ∧ StopOf (rdL ls j).f3 (rd ss j)
/-- A minute at which a bus of the line i, or of one behind it, is at its stop. -/
def TimesFrom (ls : List S30) (ss : List Int) (i x : Int) : Prop := ∃ j b, i ≤ j ∧ j < ls.length ∧ 0 ≤ b ∧ b < (rdL ls j).f2 ∧ x = tat (rdL ls j).f0 (rdL ls j).f1 (rdL ls j).f3 b (rd ss j)
structure Lines (ls : List S30) (ss : List Int) : Prop where
  many : 1 ≤ (ls.length : Int) ∧ (ls.length : Int) ≤ 5
  same : ss.length = ls.length
  good : ∀ j : Int, 0 ≤ j → j < ls.length → GoodAt ls ss j
theorem times_bd {ls : List S30} {ss : List Int} (L : Lines ls ss) {i x : Int} (h0 : 0 ≤ i) (h : TimesFrom ls ss i x) : 0 ≤ x ∧ x ≤ 2500 := by
  obtain ⟨j, b, a1, a2, a3, a4, rfl⟩ := h
  have g := L.good j (by omega) a2
  have t := tat_bd g.1 ⟨a3, a4⟩ g.2
  exact ⟨t.1, t.2.1⟩
/-- The loops over the lines: what is put in. -/
theorem specTimes_ev {ls : List S30} {ss : List Int} (L : Lines ls ss) : ∀ i : Int, 0 ≤ i → i ≤ ls.length → ∀ acc : List Int, acc.Pairwise (· < ·) → (acc.length : Int) ≤ 60 * i →
    ∃ r : List Int, Ev (fun k => spec_buTimes.l1 k ss acc ls ls.length i) (r, true) ∧ r.Pairwise (· < ·) ∧ (∀ x, x ∈ r ↔ x ∈ acc ∨ TimesFrom ls ss i x) ∧ (r.length : Int) ≤ 300 := by
  have hm := L.many
  refine downI (fun acc hs hl => ?_) (fun i h0 h1 ih acc hs hl => ?_)
  · refine ⟨acc, Ev.step (fun k => by simp only [spec_buTimes.l1]; rw [if_neg (by omega)]) (Ev.now _), hs, fun x => ⟨.inl, ?_⟩, by omega⟩
    rintro (h | ⟨j, b, a1, a2, _⟩)
    · exact h
    · omega
  · have g := L.good i h0 h1
    have hc := g.1.count
    have hss : i < (ss.length : Int) := by rw [L.same]; exact h1
    have inner : ∀ b : Int, 0 ≤ b → b ≤ (rdL ls i).f2 → ∀ acc : List Int, acc.Pairwise (· < ·) → (acc.length : Int) ≤ 60 * i + b →
        ∃ r : List Int, Ev (fun k => spec_buTimes.l2 k ss acc i b ls ls.length i (rdL ls i).f0 (rdL ls i).f1 (rdL ls i).f2 (rdL ls i).f3) (r, true) ∧ r.Pairwise (· < ·) ∧ (∀ x, x ∈ r ↔ x ∈ acc ∨ (∃ b', b ≤ b' ∧ b' < (rdL ls i).f2 ∧ x = tat (rdL ls i).f0 (rdL ls i).f1 (rdL ls i).f3 b' (rd ss i)) ∨ TimesFrom ls ss (i + 1) x) ∧ (r.length : Int) ≤ 300 := by
      refine downI (fun acc hs hl => ?_) (fun b b0 b1 ihb acc hs hl => ?_)
      · obtain ⟨r, a1, a2, a3, a4⟩ := ih acc hs (by omega)
        refine ⟨r, Ev.step (fun k => by simp only [spec_buTimes.l2]; rw [if_neg (by omega), w64 (x := i + 1) (by omega) (by omega)]) a1, a2, fun x => ?_, a4⟩
        rw [a3]
        constructor
        · rintro (h | h)
          · exact .inl h
          · exact .inr (.inr h)
        · rintro (h | ⟨b', h2, h3, _⟩ | h)
          · exact .inl h
          · omega
          · exact .inr h
      · have t := buTime_eq g.1 ⟨b0, b1⟩ g.2
        have hl2 : acc.length ≤ 1048576 := by omega
        by_cases c : tat (rdL ls i).f0 (rdL ls i).f1 (rdL ls i).f3 b (rd ss i) ∈ acc
        · obtain ⟨r, a1, a2, a3, a4⟩ := ihb acc hs (by omega)
          refine ⟨r, Ev.step (fun k => by simp only [spec_buTimes.l2]; rw [if_pos b1, if_pos h0, if_pos hss, t, Option.bind_some]) (Ev.bind (l1Has_ev acc _ hl2) ?_), a2, fun x => ?_, a4⟩
          · exact Ev.congr (fun k => by rw [if_pos (decide_eq_true c), w64 (x := b + 1) (by omega) (by omega)]) a1
          · rw [a3]
            constructor
            · rintro (h | ⟨b', h2, h3, h4⟩ | h)
              · exact .inl h
              · exact .inr (.inl ⟨b', by omega, h3, h4⟩)
              · exact .inr (.inr h)
            · rintro (h | ⟨b', h2, h3, h4⟩ | h)
              · exact .inl h
              · by_cases e : b' = b
                · subst e; rw [h4]; exact .inl c
                · exact .inr (.inl ⟨b', by omega, h3, h4⟩)
              · exact .inr (.inr h)
        · obtain ⟨q, p1, p2, p3, p4⟩ := l1Put_ev acc _ hl2 hs c
          obtain ⟨r, a1, a2, a3, a4⟩ := ihb q p2 (by omega)
          refine ⟨r, Ev.step (fun k => by simp only [spec_buTimes.l2]; rw [if_pos b1, if_pos h0, if_pos hss, t, Option.bind_some]) (Ev.bind (l1Has_ev acc _ hl2) ?_), a2, fun x => ?_, a4⟩
          · refine Ev.congr (fun k => by rw [if_neg (by rw [decide_eq_false c]; simp)]) (Ev.bind p1 ?_)
            exact Ev.congr (fun k => by rw [w64 (x := b + 1) (by omega) (by omega)]) a1
          · rw [a3, p3]
            constructor
            · rintro ((h | h) | ⟨b', h2, h3, h4⟩ | h)
              · exact .inr (.inl ⟨b, by omega, b1, h⟩)
              · exact .inl h
              · exact .inr (.inl ⟨b', by omega, h3, h4⟩)
              · exact .inr (.inr h)
            · rintro (h | ⟨b', h2, h3, h4⟩ | h)
              · exact .inl (.inr h)
              · by_cases e : b' = b
                · subst e; exact .inl (.inl h4)
                · exact .inr (.inl ⟨b', by omega, h3, h4⟩)
              · exact .inr (.inr h)
    obtain ⟨r, a1, a2, a3, a4⟩ := inner 0 (by omega) (by omega) acc hs (by omega)
    refine ⟨r, Ev.step (fun k => by simp only [spec_buTimes.l1]; rw [if_pos h1, if_pos h0, if_pos h1]) a1, a2, fun x => ?_, a4⟩
    rw [a3]
    constructor
    · rintro (h | ⟨b', h2, h3, h4⟩ | ⟨j, b, h2, h3⟩)
      · exact .inl h
      · exact .inr ⟨i, b', by omega, h1, h2, h3, h4⟩
      · exact .inr ⟨j, b, by omega, h3⟩
    · rintro (h | ⟨j, b, h2, h3, h4, h5, h6⟩)
      · exact .inl h
      · by_cases e : j = i
        · subst e; exact .inr (.inl ⟨b, h4, h5, h6⟩)
        · exact .inr (.inr ⟨j, b, by omega, h3, h4, h5, h6⟩)
theorem implTimes_ev {ls : List S30} {ss : List Int} (L : Lines ls ss) : ∀ i : Int, 0 ≤ i → i ≤ ls.length → ∀ acc : List Int, (acc.length : Int) ≤ 60 * i →
    ∃ q : List Int, Ev (fun k => impl_timesOfLines.l0 k ss acc ls ls.length i) (sorted1 q) ∧ (∀ x, x ∈ q ↔ x ∈ acc ∨ TimesFrom ls ss i x) ∧ (q.length : Int) ≤ 300 := by
  have hm := L.many
  refine downI (fun acc hl => ?_) (fun i h0 h1 ih acc hl => ?_)
  · refine ⟨acc, Ev.step (fun k => by simp only [impl_timesOfLines.l0, slices_Sort_int_int.f, slices_Compact_int_int.f]; rw [if_neg (by omega), if_pos (by omega), Option.bind_some, Option.bind_some]; rfl) (Ev.now _), fun x => ⟨.inl, ?_⟩, by omega⟩
    rintro (h | ⟨j, b, a1, a2, _⟩)
    · exact h
    · omega
  · have g := L.good i h0 h1
    have hc := g.1.count
    have hss : i < (ss.length : Int) := by rw [L.same]; exact h1
    have inner : ∀ b : Int, 0 ≤ b → b ≤ (rdL ls i).f2 → ∀ acc : List Int, (acc.length : Int) ≤ 60 * i + b →
        ∃ q : List Int, Ev (fun k => impl_timesOfLines.l1 k ss acc i ls ls.length i (rdL ls i).f2 b (rdL ls i).f0 (rdL ls i).f1 (rdL ls i).f2 (rdL ls i).f3) (sorted1 q) ∧ (∀ x, x ∈ q ↔ x ∈ acc ∨ (∃ b', b ≤ b' ∧ b' < (rdL ls i).f2 ∧ x = tat (rdL ls i).f0 (rdL ls i).f1 (rdL ls i).f3 b' (rd ss i)) ∨ TimesFrom ls ss (i + 1) x) ∧ (q.length : Int) ≤ 300 := by
      refine downI (fun acc hl => ?_) (fun b b0 b1 ihb acc hl => ?_)
      · obtain ⟨r, a1, a3, a4⟩ := ih acc (by omega)
        refine ⟨r, Ev.step (fun k => by simp only [impl_timesOfLines.l1]; rw [if_neg (by omega), w64 (x := i + 1) (by omega) (by omega)]) a1, fun x => ?_, a4⟩
        rw [a3]
        constructor
        · rintro (h | h)
          · exact .inl h
          · exact .inr (.inr h)
        · rintro (h | ⟨b', h2, h3, _⟩ | h)
          · exact .inl h
          · omega
          · exact .inr h
      · have t := timeAt_eq g.1 ⟨b0, b1⟩ g.2
        obtain ⟨r, a1, a3, a4⟩ := ihb (acc ++ [tat (rdL ls i).f0 (rdL ls i).f1 (rdL ls i).f3 b (rd ss i)]) (by simp; omega)
        refine ⟨r, Ev.step (fun k => by simp only [impl_timesOfLines.l1]; rw [if_pos b1, if_pos h0, if_pos hss, t, Option.bind_some, if_pos (by omega), w64 (x := b + 1) (by omega) (by omega)]) a1, fun x => ?_, a4⟩
        rw [a3, List.mem_append, List.mem_singleton]
        constructor
        · rintro ((h | h) | ⟨b', h2, h3, h4⟩ | h)
          · exact .inl h
          · exact .inr (.inl ⟨b, by omega, b1, h⟩)
          · exact .inr (.inl ⟨b', by omega, h3, h4⟩)
          · exact .inr (.inr h)
        · rintro (h | ⟨b', h2, h3, h4⟩ | h)
          · exact .inl (.inl h)
          · by_cases e : b' = b
            · subst e; exact .inl (.inr h4)
            · exact .inr (.inl ⟨b', by omega, h3, h4⟩)
          · exact .inr (.inr h)
    obtain ⟨r, a1, a3, a4⟩ := inner 0 (by omega) (by omega) acc (by omega)
    refine ⟨r, Ev.step (fun k => by simp only [impl_timesOfLines.l0]; rw [if_pos h1, if_pos h0, if_pos h1]) a1, fun x => ?_, a4⟩
    rw [a3]
    constructor
    · rintro (h | ⟨b', h2, h3, h4⟩ | ⟨j, b, h2, h3⟩)
      · exact .inl h
      · exact .inr ⟨i, b', by omega, h1, h2, h3, h4⟩
      · exact .inr ⟨j, b, by omega, h3⟩
    · rintro (h | ⟨j, b, h2, h3, h4, h5, h6⟩)
      · exact .inl h
      · by_cases e : j = i
        · subst e; exact .inr (.inl ⟨b, h4, h5, h6⟩)
        · exact .inr (.inr ⟨j, b, by omega, h3, h4, h5, h6⟩)
/-- The times of good lines: one list for both. -/
theorem times_good {ls : List S30} {ss : List Int} (L : Lines ls ss) : ∃ r : List Int, Ev (fun k => spec_buTimes.l1 k ss [] ls ls.length 0) (r, true) ∧ Ev (fun k => impl_timesOfLines.f k ls ss) r ∧ (∀ x, x ∈ r → 0 ≤ x ∧ x ≤ 2500) ∧ (r.length : Int) ≤ 300 := by
  have hm := L.many
  obtain ⟨r, a1, a2, a3, a4⟩ := specTimes_ev L 0 (by omega) (by omega) [] (by simp) (by simp)
  obtain ⟨q, b1, b2, b3⟩ := implTimes_ev L 0 (by omega) (by omega) [] (by simp)
  have e : sorted1 q = r := strict_ext (sorted1_strict q) a2 (fun x => by rw [sorted1_mem, b2, a3])
  rw [e] at b1
  refine ⟨r, a1, b1, fun x hx => ?_, a4⟩
  rcases (a3 x).1 hx with h | h
  · simp at h
  · exact times_bd L (by omega) h
theorem areLines_l0_ev {ls : List S30} {ss : List Int} (hm : (ls.length : Int) ≤ 5) (hs : ss.length = ls.length) : ∀ i : Int, 0 ≤ i → i ≤ ls.length → ∃ b : Bool, Ev (fun k => impl_areLines.l0 k ss ls ls.length i) b ∧ (b = true ↔ ∀ j : Int, i ≤ j → j < ls.length → GoodAt ls ss j) := by
  refine downI ?_ (fun i h0 h1 ih => ?_)
  · exact ⟨true, Ev.step (fun k => by simp only [impl_areLines.l0]; rw [if_neg (by omega)]) (Ev.now _), by simp; intro j hj hj2; omega⟩
  · have hss : i < (ss.length : Int) := by omega
    obtain ⟨b, a1, a2⟩ := ih
    by_cases g : GoodAt ls ss i
    · refine ⟨b, Ev.step (fun k => by simp only [impl_areLines.l0]; rw [if_pos h1, if_pos h0, if_pos h1, if_pos hss]) (Ev.bind (hasStops1_ev _ _ _ _ _) ?_), ?_⟩
      · exact Ev.congr (fun k => by rw [dec_true g, if_pos rfl, w64 (x := i + 1) (by omega) (by omega)]) a1
      · rw [a2]
        refine ⟨fun h j j0 j1 => ?_, fun h j j0 j1 => h j (by omega) j1⟩
        by_cases e : j = i
        · subst e; exact g
        · exact h j (by omega) j1
    · refine ⟨false, Ev.step (fun k => by simp only [impl_areLines.l0]; rw [if_pos h1, if_pos h0, if_pos h1, if_pos hss]) (Ev.bind (hasStops1_ev _ _ _ _ _) ?_), ⟨fun h => (by cases h), fun h => absurd (h i (by omega) h1) g⟩⟩
      exact Ev.congr (fun k => by rw [dec_false g, if_neg (by simp)]) (Ev.now _)
theorem specGood_l0_ev {ls : List S30} {ss : List Int} (hm : (ls.length : Int) ≤ 5) (hs : ss.length = ls.length) : ∀ i : Int, 0 ≤ i → i ≤ ls.length → ((∀ j : Int, i ≤ j → j < ls.length → GoodAt ls ss j) → ∀ r, Ev (fun k => spec_buTimes.l1 k ss [] ls ls.length 0) r → Ev (fun k => spec_buTimes.l0 k ls ss ls ls.length i) r) ∧ (¬ (∀ j : Int, i ≤ j → j < ls.length → GoodAt ls ss j) → Ev (fun k => spec_buTimes.l0 k ls ss ls ls.length i) ([], false)) := by
  refine downI ?_ (fun i h0 h1 ih => ?_)
  · refine ⟨fun _ r hr => Ev.step (fun k => by simp only [spec_buTimes.l0]; rw [if_neg (by omega)]) hr, fun h => absurd (fun j j0 j1 => ?_) h⟩
    omega
  · have hss : i < (ss.length : Int) := by omega
    obtain ⟨a1, a2⟩ := ih
    by_cases g : GoodAt ls ss i
    · refine ⟨fun h r hr => Ev.step (fun k => by simp only [spec_buTimes.l0]; rw [if_pos h1, if_pos h0, if_pos h1, if_pos hss]) (Ev.bind (buStop_ev _ _ _ _ _) ?_), fun h => Ev.step (fun k => by simp only [spec_buTimes.l0]; rw [if_pos h1, if_pos h0, if_pos h1, if_pos hss]) (Ev.bind (buStop_ev _ _ _ _ _) ?_)⟩
      · exact Ev.congr (fun k => by rw [dec_true g, if_pos rfl, w64 (x := i + 1) (by omega) (by omega)]) (a1 (fun j j0 j1 => h j (by omega) j1) r hr)
      · refine Ev.congr (fun k => by rw [dec_true g, if_pos rfl, w64 (x := i + 1) (by omega) (by omega)]) (a2 (fun h2 => h (fun j j0 j1 => ?_)))
        by_cases e : j = i
        · subst e; exact g
        · exact h2 j (by omega) j1
    · refine ⟨fun h => absurd (h i (by omega) h1) g, fun h => Ev.step (fun k => by simp only [spec_buTimes.l0]; rw [if_pos h1, if_pos h0, if_pos h1, if_pos hss]) (Ev.bind (buStop_ev _ _ _ _ _) ?_)⟩
      exact Ev.congr (fun k => by rw [dec_false g, if_neg (by simp)]) (Ev.now _)
/-- The times of whatever lines. -/
theorem times_told (ls : List S30) (ss : List Int) (hl : ls.length ≤ 1048576) (hss : ss.length ≤ 1048576) : ∃ (r : List Int) (q : Bool), Ev (fun k => spec_buTimes.f k ls ss) (r, q) ∧ Ev (fun k => impl_areLines.f k ls ss) q ∧ (q = true → Ev (fun k => impl_timesOfLines.f k ls ss) r) ∧ (q = false → r = []) ∧ (∀ x, x ∈ r → 0 ≤ x ∧ x ≤ 2500) ∧ (r.length : Int) ≤ 300 := by
  by_cases hm : 1 ≤ (ls.length : Int) ∧ (ls.length : Int) ≤ 5
  · by_cases hs : ss.length = ls.length
    · obtain ⟨b, a1, a2⟩ := areLines_l0_ev (ls := ls) (ss := ss) hm.2 hs 0 (by omega) (by omega)
      have c := specGood_l0_ev (ls := ls) (ss := ss) hm.2 hs 0 (by omega) (by omega)
      have im : Ev (fun k => impl_areLines.f k ls ss) b := by
        unfold impl_areLines.f
        refine Ev.congr (fun k => by rw [within_eq, Option.bind_some, decide_eq_true hm, if_pos rfl]) ?_
        exact Ev.step (fun k => by simp only [impl_areLines.j0]; rw [if_neg (by simp [hs])]) a1
      have sp : ∀ {r}, Ev (fun k => spec_buTimes.l0 k ls ss ls ls.length 0) r → Ev (fun k => spec_buTimes.f k ls ss) r := by
        intro r hr
        unfold spec_buTimes.f
        refine Ev.congr (fun k => by rw [in_eq, Option.bind_some, decide_eq_true hm, if_pos rfl]) ?_
        exact Ev.step (fun k => by simp only [spec_buTimes.j0]; rw [if_neg (by simp [hs])]) hr
      cases b with
      | true =>
        have g := a2.1 rfl
        obtain ⟨r, b1, b2, b3, b4⟩ := times_good (ls := ls) (ss := ss) ⟨hm, hs, g⟩
        exact ⟨r, true, sp (c.1 g _ b1), im, fun _ => b2, fun h => (by cases h), b3, b4⟩
      | false =>
        have g : ¬ ∀ j : Int, 0 ≤ j → j < ls.length → GoodAt ls ss j := fun h => by have := a2.2 h; cases this
        exact ⟨[], false, sp (c.2 g), im, fun h => (by cases h), fun _ => rfl, by simp, by simp⟩
    · have hs2 : (((ss.length : Int)) != (ls.length : Int)) = true := by simp; omega
      refine ⟨[], false, ?_, ?_, fun h => (by cases h), fun _ => rfl, by simp, by simp⟩
      · unfold spec_buTimes.f
        refine Ev.congr (fun k => by rw [in_eq, Option.bind_some, decide_eq_true hm, if_pos rfl]) ?_
        exact Ev.step (fun k => by simp only [spec_buTimes.j0]; rw [if_pos hs2]) (Ev.now _)
      · unfold impl_areLines.f
        refine Ev.congr (fun k => by rw [within_eq, Option.bind_some, decide_eq_true hm, if_pos rfl]) ?_
        exact Ev.step (fun k => by simp only [impl_areLines.j0]; rw [if_pos hs2]) (Ev.now _)
  · refine ⟨[], false, ?_, ?_, fun h => (by cases h), fun _ => rfl, by simp, by simp⟩
    · unfold spec_buTimes.f
      refine Ev.congr (fun k => by rw [in_eq, Option.bind_some, decide_eq_false hm, if_neg (by simp)]) ?_
      exact Ev.step (fun k => by simp only [spec_buTimes.j0]; rw [if_pos trivial]) (Ev.now _)
    · unfold impl_areLines.f
      refine Ev.congr (fun k => by rw [within_eq, Option.bind_some, decide_eq_false hm, if_neg (by simp)]) ?_
      exact Ev.step (fun k => by simp only [impl_areLines.j0]; rw [if_pos trivial]) (Ev.now _)
theorem FnExactTimesOfLines : laws_FnExactTimesOfLines.Pure := by
  intro l ss hl hx hss
  refine Ev.rounds ?_
  unfold laws_FnExactTimesOfLines.f
  by_cases c : (ss.length : Int) > 1048576
  · exact Ev.congr (fun k => by rw [if_pos c]) (Ev.now _)
  have hs' : ss.length ≤ 1048576 := by omega
  refine Ev.congr (fun k => by rw [if_neg c]) ?_
  obtain ⟨v, a1, a2⟩ := szLineS_ev l hl hx
  refine Ev.bind a1 ?_
  rcases a2 with a2 | ⟨a2, b1, b2, b3⟩
  · exact Ev.congr (fun k => by rw [if_pos a2]) (Ev.now _)
  · refine Ev.congr (fun k => by rw [if_neg (by omega)]) ?_
    have hb1 : (l.map cvLine).length ≤ 1048576 := by simpa using b1
    have hb2 : ∀ x, x ∈ l.map cvLine → x.f3.length ≤ 1048576 := fun x hx => by
      obtain ⟨y, hy, rfl⟩ := List.mem_map.1 hx
      exact b2 y hy
    obtain ⟨r, q, g1, g2, g3, g4, g5, g6⟩ := times_told (l.map cvLine) ss hb1 hs'
    have gi : Ev (fun k => impl_TimesOfLines.f k (l.map cvLine) ss) (r, q) := by
      unfold impl_TimesOfLines.f
      refine Ev.bind g2 ?_
      cases q with
      | true =>
        refine Ev.congr (fun k => by rw [if_pos rfl]) (Ev.bind (g3 rfl) (Ev.now _))
      | false =>
        rw [g4 rfl]
        exact Ev.congr (fun k => by rw [if_neg (by simp)]) (Ev.now _)
    have gs : Ev (fun k => spec_TimesOfLines.f k (l.map cvLine) ss) (r, q) := by
      unfold spec_TimesOfLines.f
      exact Ev.bind g1 (Ev.now _)
    obtain ⟨x', hm⟩ := markLineS_ev (l.map cvLine) hb1 (by rw [lenI_map]; exact b3)
    rw [lenI_map] at hm
    have hn := lenL_nn l
    refine Ev.bind (toLineS_ev l b1 b2) (Ev.bind (toIntS_ev ss hs') (Ev.bind gs (Ev.bind gi ?_)))
    refine Ev.congr (fun k => by rw [if_pos rfl]) (Ev.bind (eqIntS_ev r (by omega)) ?_)
    refine Ev.congr (fun k => by rw [if_pos rfl]) (Ev.bind (eqLineS_ev _ hb1 hb2) ?_)
    refine Ev.congr (fun k => by rw [if_pos rfl]) (Ev.bind (eqIntS_ev ss hs') ?_)
    refine Ev.congr (fun k => by rw [if_pos rfl]) (Ev.bind hm (Ev.bind (markIntS_ev ss (1 + 3 * ((l.map cvLine).length : Int) + lenL l) hs' (by omega) (by omega)) ?_))
    refine Ev.congr (fun k => by rw [if_pos (by simp only; omega)]) (Ev.bind (markIntS_ev r 1 (by omega) (by omega) (by omega)) ?_)
    refine Ev.congr (fun k => by rw [if_pos (by simp only; omega)]) (Ev.bind (heldIntS_ev r.length 1 (by omega) (by omega) (by omega)) ?_)
    refine Ev.congr (fun k => by rw [if_pos rfl]) (Ev.now _)
end Go.Proofs.Ytoehcikfjipcaaa.Pure
