/- The program's BestChange returns what the reference's BestChange returns, for all arguments. No conditions. -/
import Derived.Test.YthdnodmidbcgpaaQCx8
import Derived.Test.YthdnodmidbcgpaaPlain
set_option linter.unusedVariables false
set_option linter.unusedSimpArgs false
namespace Go.Proofs.Ythdnodmidbcgpaa.Pure
open Go.RowKit Go.Proofs.Ythdnodmidbcgpaa.QC Go.Proofs.YthdnodmidbcgpaaW.PrintWords Go.Proofs.YthdnodmidbcgpaaW.PrintLast Go.Proofs.YthdnodmidbcgpaaW.PrintMore Go.Proofs.Ythdnodmidbcgpaa.Plain
theorem w64 {x : Int} (h1 : -9223372036854775808 ≤ x) (h2 : x ≤ 9223372036854775807) : wrap64 x = x := by unfold wrap64; omega
theorem toIntS_l0_ev (l : List Int) (hl : l.length ≤ 1048576) : ∀ i : Int, 0 ≤ i → i ≤ l.length → ∀ acc : List Int, acc.length = l.length → Ev (fun k => laws_toIntS.l0 k l acc i) (acc.take i.toNat ++ l.drop i.toNat) := by
  refine downI (fun acc ha => ?_) (fun i h0 h1 ih acc ha => ?_)
  · refine Ev.step (fun k => by simp only [laws_toIntS.l0]; rw [if_neg (by omega)]) ?_
    rw [List.take_of_length_le (by omega), List.drop_of_length_le (by omega), List.append_nil]
    exact Ev.now _
  · refine Ev.step (fun k => by simp only [laws_toIntS.l0]; rw [if_pos h1, if_pos h0, if_pos (by omega), w64 (x := i + 1) (by omega) (by omega)]) ?_
    have hi := ih (acc.set i.toNat (rd l i)) (by simpa using ha)
    rw [drop_get l 0 i h0 h1]
    rw [show (i + 1).toNat = i.toNat + 1 by omega] at hi ⊢
    rw [set_fill acc _ i.toNat _ (by omega)] at hi
    exact hi
theorem toIntS_ev (l : List Int) (hl : l.length ≤ 1048576) : Ev (fun k => laws_toIntS.f k l) l := by
  refine Ev.congr (fun k => by unfold laws_toIntS.f; rw [if_pos (by omega), if_pos (by omega)]) ?_
  have h := toIntS_l0_ev l hl 0 (by omega) (by omega) (List.replicate ((l.length : Int)).toNat 0) (by simp)
  simpa using h
theorem eqIntS_l0_ev (l : List Int) (hl : l.length ≤ 1048576) : ∀ i : Int, 0 ≤ i → i ≤ l.length → Ev (fun k => laws_eqIntS.l0 k l l i) true := by
  refine downI ?_ (fun i h0 h1 ih => ?_)
  · exact Ev.step (fun k => by simp only [laws_eqIntS.l0]; rw [if_neg (by omega)]) (Ev.now _)
  · refine Ev.step (fun k => by simp only [laws_eqIntS.l0, if_true]; rw [if_pos h1, if_pos h0, if_pos h1, w64 (x := i + 1) (by omega) (by omega)]) ih
theorem eqIntS_ev (l : List Int) (hl : l.length ≤ 1048576) : Ev (fun k => laws_eqIntS.f k l l) true := by
  refine Ev.congr (fun k => by unfold laws_eqIntS.f; rw [if_pos rfl]) ?_
  exact eqIntS_l0_ev l hl 0 (by omega) (by omega)
theorem toLine_ev (f e c : Int) (l : List Int) (hl : l.length ≤ 1048576) : Ev (fun k => laws_toLine.f k f e c l) (f, e, c, l) := by
  unfold laws_toLine.f
  exact Ev.bind (toIntS_ev l hl) (Ev.now _)
theorem eqLine_ev (f e c : Int) (l : List Int) (hl : l.length ≤ 1048576) : Ev (fun k => laws_eqLine.f k f e c l f e c l) true := by
  unfold laws_eqLine.f
  simp only [if_true]
  refine Ev.bind (eqIntS_ev l hl) ?_
  simp only [if_true]
  exact Ev.now _
theorem szLine_cases (f e c : Int) (l : List Int) (m : Int) (hm : 0 ≤ m ∧ m ≤ 1048576) (hl : l.length ≤ maxLen) : ((l.length : Int) ≤ m ∧ laws_szLine.f f e c l m = some (m - (l.length : Int))) ∨ laws_szLine.f f e c l m = some (-1) := by
  unfold maxLen at hl
  unfold laws_szLine.f laws_szIntS.f
  rw [w64 (x := m - (l.length : Int)) (by omega) (by omega)]
  by_cases h : m - (l.length : Int) < 0
  · right; rw [if_pos h]; rfl
  · left; rw [if_neg h]; simp only [Option.bind_some]; rw [if_neg h]; exact ⟨by omega, rfl⟩
def upFrom (m : Int) : Nat → List Int
  | 0 => []
  | n + 1 => m :: upFrom (m + 1) n
theorem upFrom_length : ∀ (n : Nat) (m : Int), (upFrom m n).length = n := by
  intro n
  induction n with
  | zero => intro m; rfl
  | succ n ih => intro m; simp [upFrom, ih]
theorem markIntS_l0_ev : ∀ (d : Nat) (x : List Int) (m i : Int), 0 ≤ i → (x.length : Int) - i = d → x.length ≤ 1048576 → -1000000000 ≤ m → m + d ≤ 1000000000000 → Ev (fun k => laws_markIntS.l0 k x m i) (m + d, x.take i.toNat ++ upFrom m d) := by
  intro d
  induction d with
  | zero =>
    intro x m i h0 hd hl _ _
    refine Ev.step (fun k => by simp only [laws_markIntS.l0]; rw [if_neg (by omega)]) ?_
    rw [List.take_of_length_le (by omega)]
    simp only [upFrom, List.append_nil]
    have : m + ((0 : Nat) : Int) = m := by omega
    rw [this]
    exact Ev.now _
  | succ d ih =>
    intro x m i h0 hd hl hm hm2
    refine Ev.step (fun k => by simp only [laws_markIntS.l0]; rw [if_pos (by omega), if_pos h0, w64 (x := m + 1) (by omega) (by omega), w64 (x := i + 1) (by omega) (by omega)]) ?_
    have h := ih (x.set i.toNat m) (m + 1) (i + 1) (by omega) (by simp; omega) (by simpa using hl) (by omega) (by omega)
    rw [show (i + 1).toNat = i.toNat + 1 by omega, set_fill x (upFrom (m + 1) d) i.toNat m (by omega)] at h
    rw [show m + ((d + 1 : Nat) : Int) = m + 1 + (d : Int) by omega]
    exact h
theorem heldIntS_l0_ev : ∀ (d : Nat) (x : List Int) (m i : Int), 0 ≤ i → x.length ≤ 1048576 → x.drop i.toNat = upFrom m d → (x.length : Int) - i = d → -1000000000 ≤ m → m + d ≤ 1000000000000 → Ev (fun k => laws_heldIntS.l0 k x m i) (m + d) := by
  intro d
  induction d with
  | zero =>
    intro x m i h0 hl hx hd _ _
    refine Ev.step (fun k => by simp only [laws_heldIntS.l0]; rw [if_neg (by omega)]) ?_
    have : m + ((0 : Nat) : Int) = m := by omega
    rw [this]
    exact Ev.now _
  | succ d ih =>
    intro x m i h0 hl hx hd hm hm2
    have hi : i < (x.length : Int) := by omega
    rw [drop_get x 0 i h0 hi] at hx
    simp only [upFrom, List.cons.injEq] at hx
    have e : rd x i = m := hx.1
    refine Ev.step (fun k => by simp only [laws_heldIntS.l0]; rw [if_pos hi, if_pos h0, if_pos e, w64 (x := m + 1) (by omega) (by omega), w64 (x := i + 1) (by omega) (by omega)]) ?_
    rw [show m + ((d + 1 : Nat) : Int) = m + 1 + (d : Int) by omega]
    exact ih x (m + 1) (i + 1) (by omega) hl hx.2 (by omega) (by omega) (by omega)
theorem markIntS_ev (x : List Int) (m : Int) (hl : x.length ≤ 1048576) (h0 : 0 ≤ m) (h1 : m ≤ 1000000000) : Ev (fun k => laws_markIntS.f k x m) (m + x.length, upFrom m x.length) := by
  unfold laws_markIntS.f
  have h := markIntS_l0_ev x.length x m 0 (by omega) (by omega) hl (by omega) (by omega)
  simpa using h
theorem heldIntS_ev (n : Nat) (m : Int) (hl : n ≤ 1048576) (h0 : 0 ≤ m) (h1 : m ≤ 1000000000) : Ev (fun k => laws_heldIntS.f k (upFrom m n) m) (m + n) := by
  unfold laws_heldIntS.f
  have h := heldIntS_l0_ev n (upFrom m n) m 0 (by omega) (by rw [upFrom_length]; exact hl) (by simp) (by rw [upFrom_length]; omega) (by omega) (by omega)
  simpa using h
def marksS (m : Int) : List (List Int) → List (List Int)
  | [] => []
  | y :: ys => upFrom m y.length :: marksS (m + y.length) ys
def lenS : List (List Int) → Int
  | [] => 0
  | y :: ys => y.length + lenS ys
theorem lenS_nn : ∀ l : List (List Int), 0 ≤ lenS l := by
  intro l
  induction l with
  | nil => simp [lenS]
  | cons y ys ih => simp only [lenS]; omega
theorem markSS_l0_ev : ∀ (d : Nat) (x : List (List Int)) (m i : Int), 0 ≤ i → (x.length : Int) - i = d → x.length ≤ 1048576 → (∀ y, y ∈ x → y.length ≤ 1048576) → 0 ≤ m → m + lenS (x.drop i.toNat) ≤ 1000000000 → Ev (fun k => laws_markIntSS.l0 k x m i) (m + lenS (x.drop i.toNat), x.take i.toNat ++ marksS m (x.drop i.toNat)) := by
  intro d
  induction d with
  | zero =>
    intro x m i h0 hd hl hy hm hs
    refine Ev.step (fun k => by simp only [laws_markIntSS.l0]; rw [if_neg (by omega)]) ?_
    rw [List.drop_of_length_le (by omega), List.take_of_length_le (by omega)]
    simp only [lenS, marksS, List.append_nil, Int.add_zero]
    exact Ev.now _
  | succ d ih =>
    intro x m i h0 hd hl hy hm hs
    have h1 : i < (x.length : Int) := by omega
    have hyi : (rd_L1 x i).length ≤ 1048576 := hy _ (get_mem x [] i h0 h1)
    have hdr := drop_get x [] i h0 h1
    rw [hdr] at hs ⊢
    change m + (((rd_L1 x i).length : Int) + lenS (x.drop (i + 1).toNat)) ≤ 1000000000 at hs
    change Ev _ (m + (((rd_L1 x i).length : Int) + lenS (x.drop (i + 1).toNat)), x.take i.toNat ++ (upFrom m (rd_L1 x i).length :: marksS (m + (rd_L1 x i).length) (x.drop (i + 1).toNat)))
    have nn := lenS_nn (x.drop (i + 1).toNat)
    refine Ev.step (fun k => by simp only [laws_markIntSS.l0]; rw [if_pos h1, if_pos h0]) ?_
    refine Ev.bind (markIntS_ev (rd_L1 x i) m hyi hm (by omega)) ?_
    have e : (x.set i.toNat (upFrom m (rd_L1 x i).length)).drop (i + 1).toNat = x.drop (i + 1).toNat := by
      rw [List.drop_set_of_lt (by omega)]
    have h := ih (x.set i.toNat (upFrom m (rd_L1 x i).length)) (m + (rd_L1 x i).length) (i + 1) (by omega) (by simp; omega) (by simpa using hl) (fun y hy2 => by
      rcases List.mem_or_eq_of_mem_set hy2 with hy2 | rfl
      · exact hy y hy2
      · rw [upFrom_length]; exact hyi) (by omega) (by rw [e]; omega)
    rw [e, show (i + 1).toNat = i.toNat + 1 by omega, set_fill x _ i.toNat _ (by omega)] at h
    rw [show (i + 1).toNat = i.toNat + 1 by omega, ← Int.add_assoc]
    exact Ev.congr (fun k => by rw [w64 (x := i + 1) (by omega) (by omega)]) h
theorem markIntSS_ev (x : List (List Int)) (m : Int) (hl : x.length ≤ 1048576) (hy : ∀ y, y ∈ x → y.length ≤ 1048576) (hm : 0 ≤ m) (hs : m + lenS x ≤ 1000000000) : Ev (fun k => laws_markIntSS.f k x m) (m + lenS x, marksS m x) := by
  unfold laws_markIntSS.f
  have h := markSS_l0_ev x.length x m 0 (by omega) (by omega) hl hy hm (by simpa using hs)
  simpa using h
theorem eqIntSS_l0_ev (l : List (List Int)) (hl : l.length ≤ 1048576) (hy : ∀ y, y ∈ l → y.length ≤ 1048576) : ∀ i : Int, 0 ≤ i → i ≤ l.length → Ev (fun k => laws_eqIntSS.l0 k l l i) true := by
  refine downI ?_ (fun i h0 h1 ih => ?_)
  · exact Ev.step (fun k => by simp only [laws_eqIntSS.l0]; rw [if_neg (by omega)]) (Ev.now _)
  · have hyi : (rd_L1 l i).length ≤ 1048576 := hy _ (get_mem l [] i h0 h1)
    refine Ev.step (fun k => by simp only [laws_eqIntSS.l0]; rw [if_pos h1, if_pos h0, if_pos h1]) ?_
    refine Ev.bind (eqIntS_ev _ hyi) ?_
    exact Ev.congr (fun k => by rw [if_pos rfl, w64 (x := i + 1) (by omega) (by omega)]) ih
theorem eqIntSS_ev (l : List (List Int)) (hl : l.length ≤ 1048576) (hy : ∀ y, y ∈ l → y.length ≤ 1048576) : Ev (fun k => laws_eqIntSS.f k l l) true := by
  refine Ev.congr (fun k => by unfold laws_eqIntSS.f; rw [if_pos rfl]) ?_
  exact eqIntSS_l0_ev l hl hy 0 (by omega) (by omega)
theorem toIntSS_l0_ev (l : List (List Int)) (hl : l.length ≤ 1048576) (hx : ∀ x, x ∈ l → x.length ≤ 1048576) : ∀ i : Int, 0 ≤ i → i ≤ l.length → ∀ acc : List (List Int), acc.length = l.length → Ev (fun k => laws_toIntSS.l0 k l acc i) (acc.take i.toNat ++ l.drop i.toNat) := by
  refine downI (fun acc ha => ?_) (fun i h0 h1 ih acc ha => ?_)
  · refine Ev.step (fun k => by simp only [laws_toIntSS.l0]; rw [if_neg (by omega)]) ?_
    rw [List.take_of_length_le (by omega), List.drop_of_length_le (by omega), List.append_nil]
    exact Ev.now _
  · have hxi : (rd_L1 l i).length ≤ 1048576 := hx _ (get_mem l [] i h0 h1)
    refine Ev.step (fun k => by simp only [laws_toIntSS.l0]; rw [if_pos h1, if_pos h0]) ?_
    refine Ev.bind (toIntS_ev _ hxi) ?_
    have hi := ih (acc.set i.toNat (rd_L1 l i)) (by simpa using ha)
    refine Ev.congr (fun k => by rw [if_pos (by omega), w64 (x := i + 1) (by omega) (by omega)]) ?_
    rw [drop_get l [] i h0 h1]
    rw [show (i + 1).toNat = i.toNat + 1 by omega] at hi ⊢
    rw [set_fill acc _ i.toNat _ (by omega)] at hi
    exact hi
theorem toIntSS_ev (l : List (List Int)) (hl : l.length ≤ 1048576) (hx : ∀ x, x ∈ l → x.length ≤ 1048576) : Ev (fun k => laws_toIntSS.f k l) l := by
  refine Ev.congr (fun k => by unfold laws_toIntSS.f; rw [if_pos (by omega), if_pos (by omega)]) ?_
  have h := toIntSS_l0_ev l hl hx 0 (by omega) (by omega) (List.replicate ((l.length : Int)).toNat []) (by simp)
  simpa using h
theorem lenS_mem : ∀ (l : List (List Int)) (x : List Int), x ∈ l → (x.length : Int) ≤ lenS l := by
  intro l
  induction l with
  | nil => intro x h; cases h
  | cons y ys ih =>
    intro x h
    have := lenS_nn ys
    simp only [lenS]
    rcases List.mem_cons.1 h with rfl | h
    · omega
    · have := ih x h
      omega
theorem szIntS_cases (l : List Int) (m : Int) (hm : 0 ≤ m ∧ m ≤ 1048576) (hl : l.length ≤ maxLen) : ((l.length : Int) ≤ m ∧ laws_szIntS.f l m = some (m - (l.length : Int))) ∨ laws_szIntS.f l m = some (-1) := by
  unfold maxLen at hl
  unfold laws_szIntS.f
  rw [w64 (x := m - (l.length : Int)) (by omega) (by omega)]
  by_cases h : m - (l.length : Int) < 0
  · right; rw [if_pos h]
  · left; rw [if_neg h]; exact ⟨by omega, rfl⟩
theorem szIntSS_l0_ev (l : List (List Int)) (hl : l.length ≤ 1048576) (hx : ∀ x, x ∈ l → x.length ≤ maxLen) : ∀ i : Int, 0 ≤ i → i ≤ l.length → ∀ m : Int, 0 ≤ m → m ≤ 1048576 → ∃ v : Int, Ev (fun k => laws_szIntSS.l0 k l m i) v ∧ (v < 0 ∨ (0 ≤ v ∧ v = m - lenS (l.drop i.toNat))) := by
  refine downI (fun m h0 h1 => ?_) (fun i h0 h1 ih m hm0 hm1 => ?_)
  · refine ⟨m, Ev.step (fun k => by simp only [laws_szIntSS.l0]; rw [if_neg (by omega)]) (Ev.now _), .inr ⟨h0, ?_⟩⟩
    rw [List.drop_of_length_le (by omega)]
    simp [lenS]
  · rcases szIntS_cases (rd_L1 l i) m ⟨hm0, hm1⟩ (hx _ (get_mem l [] i h0 h1)) with ⟨a, b⟩ | b
    · obtain ⟨v, a1, a2⟩ := ih (m - ((rd_L1 l i).length : Int)) (by omega) (by omega)
      refine ⟨v, Ev.step (fun k => by simp only [laws_szIntSS.l0]; rw [if_pos h1, if_pos h0, b, Option.bind_some, if_neg (by omega), w64 (x := i + 1) (by omega) (by omega)]) a1, ?_⟩
      rcases a2 with a2 | ⟨a2, a3⟩
      · exact .inl a2
      · refine .inr ⟨a2, ?_⟩
        rw [drop_get l [] i h0 h1]
        change v = m - (((rd_L1 l i).length : Int) + lenS (l.drop (i + 1).toNat))
        omega
    · exact ⟨-1, Ev.step (fun k => by simp only [laws_szIntSS.l0]; rw [if_pos h1, if_pos h0, b, Option.bind_some, if_pos (by omega)]) (Ev.now _), .inl (by omega)⟩
theorem szIntSS_ev (l : List (List Int)) (m : Int) (hm : 0 ≤ m ∧ m ≤ 1048576) (hl : l.length ≤ maxLen) (hx : ∀ x, x ∈ l → x.length ≤ maxLen) : ∃ v : Int, Ev (fun k => laws_szIntSS.f k l m) v ∧ (v < 0 ∨ (0 ≤ v ∧ l.length ≤ 1048576 ∧ (∀ x, x ∈ l → x.length ≤ 1048576) ∧ lenS l ≤ 1048576)) := by
  unfold maxLen at hl
  by_cases h : m - (l.length : Int) < 0
  · exact ⟨-1, Ev.congr (fun k => by unfold laws_szIntSS.f; rw [w64 (x := m - (l.length : Int)) (by omega) (by omega), if_pos h]) (Ev.now _), .inl (by omega)⟩
  · obtain ⟨v, a1, a2⟩ := szIntSS_l0_ev l (by omega) hx 0 (by omega) (by omega) (m - (l.length : Int)) (by omega) (by omega)
    refine ⟨v, Ev.congr (fun k => by unfold laws_szIntSS.f; rw [w64 (x := m - (l.length : Int)) (by omega) (by omega), if_neg h]) a1, ?_⟩
    rcases a2 with a2 | ⟨a2, a3⟩
    · exact .inl a2
    · simp only [Int.toNat_zero, List.drop_zero] at a3
      exact .inr ⟨a2, by omega, fun x hx2 => by have := lenS_mem l x hx2; omega, by omega⟩
theorem in_eq (a b c : Int) : spec_l1In.f a b c = some (decide (b ≤ a ∧ a ≤ c)) := by
  unfold spec_l1In.f
  by_cases h : a ≥ b
  · rw [if_pos h]; congr 1; simp; omega
  · rw [if_neg h]; congr 1; simp; omega
theorem within_eq (a b c : Int) : impl_within.f a b c = some (decide (b ≤ a ∧ a ≤ c)) := by
  unfold impl_within.f
  by_cases h : a ≥ b
  · rw [if_pos h]; congr 1; simp; omega
  · rw [if_neg h]; congr 1; simp; omega
structure GoodLine (f e c : Int) (st : List Int) : Prop where
  first : 0 ≤ f ∧ f ≤ 2000
  every : 1 ≤ e ∧ e ≤ 2000
  count : 1 ≤ c ∧ c ≤ 60
  last : f + (c - 1) * e ≤ 2000
  stops : 2 ≤ (st.length : Int) ∧ (st.length : Int) ≤ 12
  zero : rd st 0 = 0
  rise : ∀ i : Int, 1 ≤ i → i < st.length → rd st (i - 1) < rd st i
  top : rd st (st.length - 1) ≤ 500
theorem GoodLine.range {f e c : Int} {st : List Int} (h : GoodLine f e c st) : ∀ i : Int, 0 ≤ i → i < st.length → 0 ≤ rd st i ∧ rd st i ≤ 500 := by
  have up : ∀ n : Nat, (n : Int) < st.length → 0 ≤ rd st n := by
    intro n
    induction n with
    | zero => intro _; have := h.zero; simp at this ⊢; omega
    | succ n ih =>
      intro hn
      have := h.rise ((n + 1 : Nat) : Int) (by omega) hn
      have := ih (by omega)
      rw [show (((n + 1 : Nat) : Int) - 1) = (n : Int) by omega] at *
      omega
  have dn : ∀ i : Int, 0 ≤ i → i ≤ st.length - 1 → rd st i ≤ 500 := by
    refine downI h.top (fun i h0 h1 ih => ?_)
    have := h.rise (i + 1) (by omega) (by omega)
    rw [show i + 1 - 1 = i by omega] at this
    omega
  intro i h0 h1
  have := up i.toNat (by omega)
  rw [show ((i.toNat : Nat) : Int) = i by omega] at this
  exact ⟨this, dn i h0 (by omega)⟩
theorem rising_ev (st : List Int) (hs : st.length ≤ 12) : ∀ i : Int, 0 ≤ i → i ≤ st.length → ∃ b : Bool, Ev (fun k => spec_l1Rising.l0 k st 0 500 st st.length i) b ∧ (b = true ↔ ∀ j : Int, i ≤ j → j < st.length → (0 ≤ rd st j ∧ rd st j ≤ 500) ∧ (0 < j → rd st (j - 1) < rd st j)) := by
  refine downI ?_ (fun i h0 h1 ih => ?_)
  · exact ⟨true, Ev.step (fun k => by simp only [spec_l1Rising.l0]; rw [if_neg (by omega)]) (Ev.now _), by simp; intro j hj hj2; omega⟩
  · obtain ⟨b, hb, hiff⟩ := ih
    have st0 : ∀ k, spec_l1Rising.l0 (k + 1) st 0 500 st st.length i = if decide (0 ≤ rd st i ∧ rd st i ≤ 500) = true then (if i > 0 then (if 0 ≤ i - 1 then (if i - 1 < (st.length : Int) then (if rd st (i - 1) ≥ rd st i then some false else spec_l1Rising.l0 k st 0 500 st st.length (i + 1)) else none) else none) else spec_l1Rising.l0 k st 0 500 st st.length (i + 1)) else some false := fun k => by
      simp only [spec_l1Rising.l0, in_eq, Option.bind_some]
      rw [if_pos h1, if_pos h0, if_pos h1, w64 (x := i + 1) (by omega) (by omega), w64 (x := i - 1) (by omega) (by omega)]
    by_cases a : 0 ≤ rd st i ∧ rd st i ≤ 500
    · by_cases z : i > 0
      · by_cases r : rd st (i - 1) ≥ rd st i
        · refine ⟨false, Ev.step (fun k => by rw [st0, if_pos (decide_eq_true a), if_pos z, if_pos (by omega), if_pos (by omega), if_pos r]) (Ev.now _), ?_⟩
          refine ⟨fun h => (by cases h), fun h => ?_⟩
          have := (h i (Int.le_refl _) h1).2 z
          omega
        · refine ⟨b, Ev.step (fun k => by rw [st0, if_pos (decide_eq_true a), if_pos z, if_pos (by omega), if_pos (by omega), if_neg r]) hb, ?_⟩
          rw [hiff]
          refine ⟨fun h j hj hj2 => ?_, fun h j hj hj2 => h j (by omega) hj2⟩
          by_cases e : j = i
          · subst e; exact ⟨a, fun _ => by omega⟩
          · exact h j (by omega) hj2
      · refine ⟨b, Ev.step (fun k => by rw [st0, if_pos (decide_eq_true a), if_neg z]) hb, ?_⟩
        rw [hiff]
        refine ⟨fun h j hj hj2 => ?_, fun h j hj hj2 => h j (by omega) hj2⟩
        by_cases e : j = i
        · subst e; exact ⟨a, fun q => absurd q z⟩
        · exact h j (by omega) hj2
    · refine ⟨false, Ev.step (fun k => by rw [st0, if_neg (by simpa using a)]) (Ev.now _), ?_⟩
      exact ⟨fun h => (by cases h), fun h => absurd (h i (Int.le_refl _) h1).1 a⟩
theorem increasing_ev (st : List Int) (hs : st.length ≤ 12) : ∀ i : Int, 1 ≤ i → i ≤ st.length → ∃ b : Bool, Ev (fun k => impl_increasing.l0 k st i) b ∧ (b = true ↔ ∀ j : Int, i ≤ j → j < st.length → rd st (j - 1) < rd st j) := by
  refine downA ?_ (fun i h0 h1 ih => ?_)
  · exact ⟨true, Ev.step (fun k => by simp only [impl_increasing.l0]; rw [if_neg (by omega)]) (Ev.now _), by simp; intro j hj hj2; omega⟩
  · obtain ⟨b, hb, hiff⟩ := ih
    have st0 : ∀ k, impl_increasing.l0 (k + 1) st i = if rd st (i - 1) ≥ rd st i then some false else impl_increasing.l0 k st (i + 1) := fun k => by
      simp only [impl_increasing.l0]
      rw [w64 (x := i + 1) (by omega) (by omega), w64 (x := i - 1) (by omega) (by omega), if_pos h1, if_pos (by omega), if_pos (by omega), if_pos (by omega)]
    by_cases r : rd st (i - 1) ≥ rd st i
    · refine ⟨false, Ev.step (fun k => by rw [st0, if_pos r]) (Ev.now _), ?_⟩
      refine ⟨fun h => (by cases h), fun h => ?_⟩
      have := h i (Int.le_refl _) h1
      omega
    · refine ⟨b, Ev.step (fun k => by rw [st0, if_neg r]) hb, ?_⟩
      rw [hiff]
      refine ⟨fun h j hj hj2 => ?_, fun h j hj hj2 => h j (by omega) hj2⟩
      by_cases e : j = i
      · subst e; omega
      · exact h j (by omega) hj2
theorem line_sum {f e c : Int} (hf : 0 ≤ f ∧ f ≤ 2000) (he : 1 ≤ e ∧ e ≤ 2000) (hc : 1 ≤ c ∧ c ≤ 60) : wrap64 (f + wrap64 (wrap64 (c - 1) * e)) = f + (c - 1) * e := by
  have b := mul_bd (A := 60) (B := 2000) (by omega : 0 ≤ c - 1) (by omega) (by omega : 0 ≤ e) (by omega)
  rw [w64 (x := c - 1) (by omega) (by omega), w64 (x := (c - 1) * e) (by omega) (by omega), w64 (by omega) (by omega)]
theorem buGood_ev (f e c : Int) (st : List Int) : Ev (fun k => spec_buGood.f k f e c st) (dec (GoodLine f e c st)) := by
  have bad : ∀ {x : Bool}, ¬ GoodLine f e c st → x = true → Ev (fun k => spec_buGood.j0 k x f e c st) (dec (GoodLine f e c st)) := by
    intro x hn hx
    subst hx
    rw [dec_false hn]
    exact Ev.step (fun k => by simp only [spec_buGood.j0]; rw [if_pos trivial]) (Ev.now _)
  unfold spec_buGood.f
  simp only [in_eq, Option.bind_some, decide_eq_true_eq]
  by_cases h1 : 0 ≤ f ∧ f ≤ 2000
  · by_cases h2 : 1 ≤ e ∧ e ≤ 2000
    · simp only [if_pos h1, if_pos h2]
      by_cases h3 : 1 ≤ c ∧ c ≤ 60
      · have e3 : (!decide (1 ≤ c ∧ c ≤ 60)) = false := by rw [decide_eq_true h3]; rfl
        rw [e3]
        refine Ev.step (fun k => by simp only [spec_buGood.j0]; rw [if_neg (by simp), line_sum h1 h2 h3, in_eq, Option.bind_some]) ?_
        by_cases h4 : f + (c - 1) * e > 2000
        · rw [dec_false (fun g => by have := g.last; omega)]
          simp only [if_pos h4]; exact Ev.now _
        · simp only [if_neg h4]
          by_cases h5 : 2 ≤ (st.length : Int) ∧ (st.length : Int) ≤ 12
          · simp only [if_pos (decide_eq_true h5), if_pos (show 0 < (st.length : Int) by omega)]
            by_cases h6 : rd st 0 = 0
            · simp only [if_pos h6]
              obtain ⟨b, hb, hiff⟩ := rising_ev st (by omega) 0 (by omega) (by omega)
              have : b = dec (GoodLine f e c st) := dec_of (by
                rw [hiff]
                refine ⟨fun h => ⟨h1, h2, h3, by omega, h5, h6, fun i hi hi2 => (h i (by omega) hi2).2 (by omega), (h (st.length - 1) (by omega) (by omega)).1.2⟩, fun g j hj hj2 => ⟨g.range j hj hj2, fun hp => g.rise j (by omega) hj2⟩⟩)
              rw [← this]
              exact Ev.bind hb (Ev.now _)
            · rw [dec_false (fun g => h6 g.zero)]
              simp only [if_neg h6]; exact Ev.now _
          · rw [dec_false (fun g => h5 g.stops)]
            have : decide (2 ≤ (st.length : Int) ∧ (st.length : Int) ≤ 12) = false := decide_eq_false h5
            simp only [this, Bool.false_eq_true, if_false]; exact Ev.now _
      · exact bad (fun g => h3 g.count) (by rw [decide_eq_false h3]; rfl)
    · simp only [if_pos h1, if_neg h2]
      exact bad (fun g => h2 g.every) rfl
  · simp only [if_neg h1]
    exact bad (fun g => h1 g.first) rfl
theorem isLine_ev (f e c : Int) (st : List Int) : Ev (fun k => impl_IsLine.f k f e c st) (dec (GoodLine f e c st)) := by
  have bad : ∀ {x : Bool}, ¬ GoodLine f e c st → x = true → Ev (fun k => impl_IsLine.j0 k x f e c st) (dec (GoodLine f e c st)) := by
    intro x hn hx
    subst hx
    rw [dec_false hn]
    exact Ev.step (fun k => by simp only [impl_IsLine.j0]; rw [if_pos trivial]) (Ev.now _)
  unfold impl_IsLine.f impl_isMinute.f
  simp only [within_eq, Option.bind_some, decide_eq_true_eq]
  by_cases h1 : 0 ≤ f ∧ f ≤ 2000
  · by_cases h2 : 1 ≤ e ∧ e ≤ 2000
    · by_cases h3 : 1 ≤ c ∧ c ≤ 60
      · simp only [if_pos h1, if_pos h2, if_pos h3, line_sum h1 h2 h3]
        by_cases h4 : f + (c - 1) * e > 2000
        · exact bad (fun g => by have := g.last; omega) (decide_eq_true h4)
        · rw [decide_eq_false h4]
          refine Ev.step (fun k => by simp only [impl_IsLine.j0]; rw [if_neg (by simp), within_eq, Option.bind_some]) ?_
          by_cases h5 : 2 ≤ (st.length : Int) ∧ (st.length : Int) ≤ 12
          · simp only [if_pos (decide_eq_true h5), if_pos (show 0 < (st.length : Int) by omega)]
            by_cases h6 : rd st 0 = 0
            · simp only [if_pos h6]
              obtain ⟨b, hb, hiff⟩ := increasing_ev st (by omega) 1 (by omega) (by omega)
              refine Ev.bind (g := fun k => impl_increasing.f k st) hb ?_
              rw [w64 (x := (st.length : Int) - 1) (by omega) (by omega)]
              simp only [if_pos (show 0 ≤ (st.length : Int) - 1 by omega), if_pos (show (st.length : Int) - 1 < st.length by omega)]
              by_cases hb2 : b = true
              · simp only [if_pos hb2]
                have : decide (rd st ((st.length : Int) - 1) ≤ 500) = dec (GoodLine f e c st) := dec_of (by
                  rw [decide_eq_true_iff]
                  exact ⟨fun h => ⟨h1, h2, h3, by omega, h5, h6, hiff.1 hb2, h⟩, fun g => g.top⟩)
                rw [← this]
                exact Ev.now _
              · rw [dec_false (fun g => hb2 (hiff.2 g.rise))]
                simp only [if_neg hb2]; exact Ev.now _
            · rw [dec_false (fun g => h6 g.zero)]
              simp only [if_neg h6]; exact Ev.now _
          · rw [dec_false (fun g => h5 g.stops)]
            have : decide (2 ≤ (st.length : Int) ∧ (st.length : Int) ≤ 12) = false := decide_eq_false h5
            simp only [this, Bool.false_eq_true, if_false]; exact Ev.now _
      · simp only [if_pos h1, if_pos h2, if_neg h3]
        exact bad (fun g => h3 g.count) rfl
    · simp only [if_pos h1, if_neg h2]
      exact bad (fun g => h2 g.every) rfl
  · simp only [if_neg h1]
    exact bad (fun g => h1 g.first) rfl
def inB (lo hi : Int) (x : Int) : Bool := decide (lo ≤ x ∧ x ≤ hi)
theorem allWithin_l0_ev (l : List Int) (lo hi : Int) (hl : l.length ≤ 1048576) : ∀ i : Int, 0 ≤ i → i ≤ l.length → Ev (fun k => impl_allWithin.l0 k lo hi l l.length i) ((l.drop i.toNat).all (inB lo hi)) := by
  refine downI ?_ (fun i h0 h1 ih => ?_)
  · refine Ev.step (fun k => by simp only [impl_allWithin.l0]; rw [if_neg (by omega)]) ?_
    rw [List.drop_of_length_le (by omega)]
    exact Ev.now _
  · rw [drop_get l 0 i h0 h1, List.all_cons]
    refine Ev.step (f := fun k => if inB lo hi (rd l i) = true then impl_allWithin.l0 k lo hi l l.length (i + 1) else some false) (fun k => by simp only [impl_allWithin.l0, within_eq, Option.bind_some]; rw [if_pos h1, if_pos h0, if_pos h1, w64 (x := i + 1) (by omega) (by omega)]; rfl) ?_
    show Ev _ (inB lo hi (rd l i) && _)
    cases inB lo hi (rd l i)
    · simp only [Bool.false_and, Bool.false_eq_true, if_false]; exact Ev.now _
    · simp only [Bool.true_and, if_true]; exact ih
theorem allWithin_ev (l : List Int) (lo hi : Int) (hl : l.length ≤ 1048576) : Ev (fun k => impl_allWithin.f k l lo hi) (l.all (inB lo hi)) := by
  unfold impl_allWithin.f
  exact allWithin_l0_ev l lo hi hl 0 (by omega) (by omega)
def tat (f e : Int) (st : List Int) (b s : Int) : Int := f + b * e + rd st s
def StopOf (st : List Int) (s : Int) : Prop := 0 ≤ s ∧ s < st.length
theorem tat_bd {f e c : Int} {st : List Int} (G : GoodLine f e c st) {b s : Int} (hb : 0 ≤ b ∧ b < c) (hs : StopOf st s) : 0 ≤ tat f e st b s ∧ tat f e st b s ≤ 2500 ∧ 0 ≤ b * e ∧ b * e ≤ (c - 1) * e ∧ (c - 1) * e ≤ 2000 := by
  have r := G.range s hs.1 hs.2
  have h1 := G.first
  have h2 := G.every
  have h4 := G.last
  have m1 := mul_le_r (c := e) (by omega) (show b ≤ c - 1 by omega)
  have m2 := Int.mul_nonneg hb.1 (show 0 ≤ e by omega)
  unfold tat
  omega
theorem tat_w {f e c : Int} {st : List Int} (G : GoodLine f e c st) {b s : Int} (hb : 0 ≤ b ∧ b < c) (hs : StopOf st s) : wrap64 (wrap64 (f + wrap64 (b * e)) + rd st s) = tat f e st b s := by
  have t := tat_bd G hb hs
  have r := G.range s hs.1 hs.2
  have h1 := G.first
  rw [w64 (x := b * e) (by omega) (by omega), w64 (x := f + b * e) (by omega) (by omega), w64 (by omega) (by omega)]
  rfl
theorem buTime_eq {f e c : Int} {st : List Int} (G : GoodLine f e c st) {b s : Int} (hb : 0 ≤ b ∧ b < c) (hs : StopOf st s) : spec_buTime.f f e c st b s = some (tat f e st b s) := by
  unfold spec_buTime.f
  rw [if_pos hs.1, if_pos hs.2, tat_w G hb hs]
theorem timeAt_eq {f e c : Int} {st : List Int} (G : GoodLine f e c st) {b s : Int} (hb : 0 ≤ b ∧ b < c) (hs : StopOf st s) : impl_timeAt.f f e c st b s = some (tat f e st b s) := by
  unfold impl_timeAt.f
  rw [if_pos hs.1, if_pos hs.2, tat_w G hb hs]
theorem hasStops_ev (f e c : Int) (st stops : List Int) (hl : stops.length ≤ 1048576) : Ev (fun k => impl_hasStops.f k f e c st stops) (dec (GoodLine f e c st ∧ ∀ s, s ∈ stops → StopOf st s)) := by
  unfold impl_hasStops.f
  refine Ev.bind (isLine_ev f e c st) ?_
  by_cases g : GoodLine f e c st
  · rw [dec_true g]
    simp only [if_true]
    have h5 := g.stops
    rw [w64 (x := (st.length : Int) - 1) (by omega) (by omega)]
    have : stops.all (inB 0 ((st.length : Int) - 1)) = dec (GoodLine f e c st ∧ ∀ s, s ∈ stops → StopOf st s) := dec_of (by
      rw [List.all_eq_true]
      refine ⟨fun h => ⟨g, fun s hs => ?_⟩, fun h s hs => ?_⟩
      · have := h s hs
        unfold inB at this
        have := of_decide_eq_true this
        exact ⟨by omega, by omega⟩
      · have := h.2 s hs
        unfold inB
        exact decide_eq_true ⟨this.1, by have := this.2; omega⟩)
    rw [← this]
    exact Ev.bind (allWithin_ev stops _ _ hl) (Ev.now _)
  · rw [dec_false g, dec_false (fun h => g h.1)]
    simp only [Bool.false_eq_true, if_false]
    exact Ev.now _
theorem hasStops1_ev (f e c : Int) (st : List Int) (s : Int) : Ev (fun k => impl_hasStops.f k f e c st [s]) (dec (GoodLine f e c st ∧ StopOf st s)) := by
  have h := hasStops_ev f e c st [s] (by simp)
  have : dec (GoodLine f e c st ∧ ∀ x, x ∈ [s] → StopOf st x) = dec (GoodLine f e c st ∧ StopOf st s) := dec_of (by rw [dec_iff]; simp)
  rw [this] at h
  exact h
theorem buStop_ev (f e c : Int) (st : List Int) (s : Int) : Ev (fun k => spec_buStop.f k f e c st s) (dec (GoodLine f e c st ∧ StopOf st s)) := by
  unfold spec_buStop.f
  refine Ev.bind (buGood_ev f e c st) ?_
  by_cases g : GoodLine f e c st
  · rw [dec_true g]
    have h5 := g.stops
    simp only [if_true, in_eq, Option.bind_some]
    rw [w64 (x := (st.length : Int) - 1) (by omega) (by omega)]
    have : decide (0 ≤ s ∧ s ≤ (st.length : Int) - 1) = dec (GoodLine f e c st ∧ StopOf st s) := dec_of (by
      rw [decide_eq_true_iff]
      exact ⟨fun h => ⟨g, h.1, by omega⟩, fun h => ⟨h.2.1, by have := h.2.2; omega⟩⟩)
    rw [← this]
    exact Ev.now _
  · rw [dec_false g, dec_false (fun h => g h.1)]
    simp only [Bool.false_eq_true, if_false]
    exact Ev.now _
theorem buMinute_eq (m : Int) : spec_buMinute.f m = some (decide (0 ≤ m ∧ m ≤ 2000)) := by unfold spec_buMinute.f; rw [in_eq]; rfl
theorem isMinute_eq (m : Int) : impl_isMinute.f m = some (decide (0 ≤ m ∧ m ≤ 2000)) := by unfold impl_isMinute.f; rw [within_eq]; rfl
def nextB (f e : Int) (st : List Int) (s m : Int) : Int := mx 0 (Int.tdiv (m - tat f e st 0 s + e - 1) e)
theorem nextB_nn (f e : Int) (st : List Int) (s m : Int) : 0 ≤ nextB f e st s m := by unfold nextB mx; split <;> omega
theorem nextB_iff {f e : Int} {st : List Int} {s m b : Int} (he : 1 ≤ e) (hb : 0 ≤ b) : m ≤ tat f e st b s ↔ nextB f e st s m ≤ b := by
  have e0 : tat f e st b s = tat f e st 0 s + b * e := by unfold tat; rw [Int.zero_mul]; omega
  rw [e0]
  unfold nextB
  generalize tat f e st 0 s = t
  have be := Int.mul_nonneg hb (show 0 ≤ e by omega)
  have key : mx 0 (Int.tdiv (m - t + e - 1) e) ≤ b ↔ Int.tdiv (m - t + e - 1) e ≤ b := by unfold mx; split <;> omega
  rw [key]
  by_cases h : 0 ≤ m - t + e - 1
  · rw [Int.tdiv_eq_ediv_of_nonneg h]
    rw [Int.ediv_le_iff_le_mul (show 0 < e by omega)]
    omega
  · have h1 : Int.tdiv (m - t + e - 1) e ≤ 0 := by
      have := Int.neg_tdiv (a := -(m - t + e - 1)) (b := e)
      rw [Int.neg_neg] at this
      rw [this]
      have := Int.tdiv_nonneg (a := -(m - t + e - 1)) (b := e) (by omega) (by omega)
      omega
    omega
theorem nextBus_eq {f e c : Int} {st : List Int} (G : GoodLine f e c st) {s m : Int} (hs : StopOf st s) (hm0 : -1000000 ≤ m) (hm : m ≤ 1000000) :
    impl_nextBus.f f e c st s m = some (if nextB f e st s m < c then (nextB f e st s m, tat f e st (nextB f e st s m) s, true) else (0, 0, false)) := by
  have r := G.range s hs.1 hs.2
  have h1 := G.first
  have h2 := G.every
  have h3 := G.count
  have t0 := tat_bd G (show 0 ≤ (0 : Int) ∧ 0 < c by omega) hs
  unfold impl_nextBus.f
  rw [timeAt_eq G (by omega) hs]
  simp only [Option.bind_some, if_neg (show ¬ e = 0 by omega)]
  rw [w64 (x := m - tat f e st 0 s) (by omega) (by omega), w64 (x := m - tat f e st 0 s + e) (by omega) (by omega), w64 (x := m - tat f e st 0 s + e - 1) (by omega) (by omega)]
  have hd : -9223372036854775808 ≤ Int.tdiv (m - tat f e st 0 s + e - 1) e ∧ Int.tdiv (m - tat f e st 0 s + e - 1) e ≤ 9223372036854775807 := by
    have := Int.natAbs_tdiv_le_natAbs (m - tat f e st 0 s + e - 1) e
    omega
  rw [w64 hd.1 hd.2]
  change (if nextB f e st s m ≥ c then _ else _) = _
  by_cases h : nextB f e st s m < c
  · rw [if_neg (by omega), if_pos h]
    have := nextB_nn f e st s m
    change (impl_timeAt.f f e c st (nextB f e st s m) s).bind _ = _
    rw [timeAt_eq G (by omega) hs]
    rfl
  · rw [if_pos (by omega), if_neg h]
theorem buNext_l0_ev {f e c : Int} {st : List Int} (G : GoodLine f e c st) {s : Int} (m : Int) (hs : StopOf st s) : ∀ i : Int, 0 ≤ i → i ≤ c → i ≤ nextB f e st s m → Ev (fun k => spec_buNext.l0 k s m i f e c st) (if nextB f e st s m < c then nextB f e st s m else -1) := by
  have h3 := G.count
  refine downI (fun h => ?_) (fun i h0 h1 ih h => ?_)
  · refine Ev.step (fun k => by simp only [spec_buNext.l0]; rw [if_neg (by omega)]) ?_
    rw [if_neg (by omega)]
    exact Ev.now _
  · have iff := nextB_iff (f := f) (st := st) (s := s) (m := m) (b := i) G.every.1 h0
    by_cases c1 : tat f e st i s ≥ m
    · have := iff.1 c1
      have e1 : nextB f e st s m = i := by omega
      rw [e1, if_pos h1]
      exact Ev.step (fun k => by simp only [spec_buNext.l0]; rw [if_pos h1, buTime_eq G ⟨h0, h1⟩ hs, Option.bind_some, if_pos c1]) (Ev.now _)
    · have : ¬ nextB f e st s m ≤ i := fun h => c1 (iff.2 h)
      refine Ev.step (fun k => by simp only [spec_buNext.l0]; rw [if_pos h1, buTime_eq G ⟨h0, h1⟩ hs, Option.bind_some, if_neg c1, w64 (x := i + 1) (by omega) (by omega)]) (ih (by omega))
theorem buNext_ev {f e c : Int} {st : List Int} (G : GoodLine f e c st) {s : Int} (m : Int) (hs : StopOf st s) : Ev (fun k => spec_buNext.f k f e c st s m) (if nextB f e st s m < c then nextB f e st s m else -1) :=
  buNext_l0_ev G m hs 0 (by omega) (by have := G.count; omega) (nextB_nn f e st s m)
theorem buRide_ev (f e c : Int) (st : List Int) (s t : Int) : Ev (fun k => spec_buRide.f k f e c st s t) (dec (GoodLine f e c st ∧ StopOf st s ∧ StopOf st t ∧ s < t)) := by
  unfold spec_buRide.f
  refine Ev.bind (buStop_ev f e c st s) ?_
  by_cases g : GoodLine f e c st ∧ StopOf st s
  · rw [dec_true g]
    simp only [if_true]
    refine Ev.bind (buStop_ev f e c st t) ?_
    by_cases g2 : GoodLine f e c st ∧ StopOf st t
    · rw [dec_true g2]
      simp only [if_true]
      have : decide (s < t) = dec (GoodLine f e c st ∧ StopOf st s ∧ StopOf st t ∧ s < t) := dec_of (by
        rw [decide_eq_true_iff]
        exact ⟨fun h => ⟨g.1, g.2, g2.2, h⟩, fun h => h.2.2.2⟩)
      rw [← this]
      exact Ev.now _
    · rw [dec_false g2, dec_false (fun h => g2 ⟨h.1, h.2.2.1⟩)]
      simp only [Bool.false_eq_true, if_false]
      exact Ev.now _
  · rw [dec_false g, dec_false (fun h => g ⟨h.1, h.2.1⟩)]
    simp only [Bool.false_eq_true, if_false]
    exact Ev.now _
theorem buArrive_ev {f e c : Int} {st : List Int} (G : GoodLine f e c st) {s t : Int} (m : Int) (hs : StopOf st s) (ht : StopOf st t) : Ev (fun k => spec_buArrive.f k f e c st s t m) (if nextB f e st s m < c then tat f e st (nextB f e st s m) t else -1) := by
  refine Ev.bind (buNext_ev G m hs) ?_
  have n0 := nextB_nn f e st s m
  by_cases h : nextB f e st s m < c
  · simp only [if_pos h, if_neg (show ¬ nextB f e st s m < 0 by omega), buTime_eq G ⟨n0, h⟩ ht, Option.bind_some]
    exact Ev.now _
  · simp only [if_neg h, if_pos (show (-1 : Int) < 0 by omega)]
    exact Ev.now _
theorem arriveAt_eq {f e c : Int} {st : List Int} (G : GoodLine f e c st) {s t m : Int} (hs : StopOf st s) (ht : StopOf st t) (hm0 : -1000000 ≤ m) (hm : m ≤ 1000000) :
    impl_arriveAt.f f e c st s t m = some (if nextB f e st s m < c ∧ s < t then (tat f e st (nextB f e st s m) t, true) else (0, false)) := by
  unfold impl_arriveAt.f
  rw [nextBus_eq G hs hm0 hm]
  have n0 := nextB_nn f e st s m
  by_cases h : nextB f e st s m < c
  · simp only [if_pos h, Option.bind_some, if_true]
    by_cases q : s < t
    · rw [if_neg (by omega), timeAt_eq G ⟨n0, h⟩ ht, if_pos ⟨h, q⟩]; rfl
    · rw [if_pos (by omega), if_neg (fun z => q z.2)]
  · simp only [if_neg h, Option.bind_some, Bool.false_eq_true, if_false]
    rw [if_neg (fun z => h z.1)]
theorem isWalk_eq (m : Int) : impl_isWalk.f m = some (decide (0 ≤ m ∧ m ≤ 100)) := by unfold impl_isWalk.f; rw [within_eq]; rfl
def RideP (f e c : Int) (st : List Int) (s t : Int) : Prop := GoodLine f e c st ∧ StopOf st s ∧ StopOf st t ∧ s < t
noncomputable def ChgR (f e c : Int) (st : List Int) (s t : Int) (f' e' c' : Int) (st' : List Int) (s' t' walk m : Int) : Int × Int × Bool :=
  if dec (nextB f e st s m < c ∧ nextB f' e' st' s' (tat f e st (nextB f e st s m) t + walk) < c') = true then
    (tat f e st (nextB f e st s m) t + walk, tat f' e' st' (nextB f' e' st' s' (tat f e st (nextB f e st s m) t + walk)) t', true)
  else (0, 0, false)
theorem buChange_ev {f e c : Int} {st : List Int} {s t : Int} (R : RideP f e c st s t) {f' e' c' : Int} {st' : List Int} {s' t' : Int} (R' : RideP f' e' c' st' s' t') {walk m : Int} (hw : 0 ≤ walk ∧ walk ≤ 100) (hm : 0 ≤ m ∧ m ≤ 2000) :
    Ev (fun k => spec_buChange.f k f e c st s t f' e' c' st' s' t' walk m) (ChgR f e c st s t f' e' c' st' s' t' walk m) := by
  unfold ChgR
  refine Ev.bind (buArrive_ev R.1 m R.2.1 R.2.2.1) ?_
  have n0 := nextB_nn f e st s m
  by_cases h : nextB f e st s m < c
  · have tb := tat_bd R.1 ⟨n0, h⟩ R.2.2.1
    simp only [if_pos h, if_neg (show ¬ tat f e st (nextB f e st s m) t < 0 by omega), w64 (x := tat f e st (nextB f e st s m) t + walk) (by omega) (by omega)]
    refine Ev.bind (buArrive_ev R'.1 _ R'.2.1 R'.2.2.1) ?_
    have n1 := nextB_nn f' e' st' s' (tat f e st (nextB f e st s m) t + walk)
    by_cases h' : nextB f' e' st' s' (tat f e st (nextB f e st s m) t + walk) < c'
    · have tb' := tat_bd R'.1 ⟨n1, h'⟩ R'.2.2.1
      rw [dec_true (p := nextB f e st s m < c ∧ nextB f' e' st' s' (tat f e st (nextB f e st s m) t + walk) < c') ⟨h, h'⟩]
      simp only [if_pos h', if_neg (show ¬ tat f' e' st' (nextB f' e' st' s' (tat f e st (nextB f e st s m) t + walk)) t' < 0 by omega), if_true]
      exact Ev.now _
    · rw [dec_false (fun q => h' q.2)]
      simp only [if_neg h', if_pos (show (-1 : Int) < 0 by omega), Bool.false_eq_true, if_false]
      exact Ev.now _
  · rw [dec_false (fun q => h q.1)]
    simp only [if_neg h, if_pos (show (-1 : Int) < 0 by omega), Bool.false_eq_true, if_false]
    exact Ev.now _
theorem implChange_eq {f e c : Int} {st : List Int} {s t : Int} (R : RideP f e c st s t) {f' e' c' : Int} {st' : List Int} {s' t' : Int} (R' : RideP f' e' c' st' s' t') {walk m : Int} (hw : 0 ≤ walk ∧ walk ≤ 100) (hm : 0 ≤ m ∧ m ≤ 2000) :
    impl_changeAt.f f e c st s t f' e' c' st' s' t' walk m = some (ChgR f e c st s t f' e' c' st' s' t' walk m) := by
  unfold ChgR impl_changeAt.f
  rw [arriveAt_eq R.1 R.2.1 R.2.2.1 (by omega) (by omega)]
  have n0 := nextB_nn f e st s m
  by_cases h : nextB f e st s m < c
  · have tb := tat_bd R.1 ⟨n0, h⟩ R.2.2.1
    simp only [if_pos (show nextB f e st s m < c ∧ s < t from ⟨h, R.2.2.2⟩), Option.bind_some, if_true, w64 (x := tat f e st (nextB f e st s m) t + walk) (by omega) (by omega)]
    rw [arriveAt_eq R'.1 R'.2.1 R'.2.2.1 (by omega) (by omega)]
    by_cases h' : nextB f' e' st' s' (tat f e st (nextB f e st s m) t + walk) < c'
    · rw [dec_true (p := nextB f e st s m < c ∧ nextB f' e' st' s' (tat f e st (nextB f e st s m) t + walk) < c') ⟨h, h'⟩]
      simp only [if_pos (show nextB f' e' st' s' (tat f e st (nextB f e st s m) t + walk) < c' ∧ s' < t' from ⟨h', R'.2.2.2⟩), Option.bind_some, if_true]
    · rw [dec_false (fun q => h' q.2)]
      simp only [if_neg (show ¬ (nextB f' e' st' s' (tat f e st (nextB f e st s m) t + walk) < c' ∧ s' < t') from fun q => h' q.1), Option.bind_some, Bool.false_eq_true, if_false]
  · rw [dec_false (fun q => h q.1)]
    simp only [if_neg (show ¬ (nextB f e st s m < c ∧ s < t) from fun q => h q.1), Option.bind_some, Bool.false_eq_true, if_false]
theorem l1Own_eq {y : List Int} (h : y.length ≤ 1048576) : spec_l1Own.f y = some y := by
  unfold spec_l1Own.f
  simp only [Option.bind_some, List.nil_append, List.length_nil]
  rw [if_pos (by omega)]
theorem cloneB_eq {y : List Int} (h : y.length ≤ 1048576) : slices_Clone_int_int.f y = some y := by
  unfold slices_Clone_int_int.f
  simp only [Option.bind_some, List.nil_append, List.length_nil]
  rw [if_pos (by omega)]
def WalkP (f e c : Int) (st : List Int) (s : Int) (f' e' c' : Int) (st' : List Int) (t : Int) (y : List Int) : Prop :=
  (y.length : Int) = 3 ∧ RideP f e c st s (rd y 0) ∧ RideP f' e' c' st' (rd y 1) t ∧ (0 ≤ rd y 2 ∧ rd y 2 ≤ 100)
noncomputable def bestStep (f e c : Int) (st : List Int) (s : Int) (f' e' c' : Int) (st' : List Int) (t m : Int) (b : List Int × Int) (y : List Int) : List Int × Int :=
  if (ChgR f e c st s (rd y 0) f' e' c' st' (rd y 1) t (rd y 2) m).2.2 = true then
    (if (b.1.length : Int) = 0 then (y, (ChgR f e c st s (rd y 0) f' e' c' st' (rd y 1) t (rd y 2) m).2.1)
     else if (ChgR f e c st s (rd y 0) f' e' c' st' (rd y 1) t (rd y 2) m).2.1 < b.2 then (y, (ChgR f e c st s (rd y 0) f' e' c' st' (rd y 1) t (rd y 2) m).2.1) else b)
  else b
noncomputable def bestOf (f e c : Int) (st : List Int) (s : Int) (f' e' c' : Int) (st' : List Int) (t m : Int) (x : List (List Int)) (b : List Int × Int) : List Int × Int := x.foldl (bestStep f e c st s f' e' c' st' t m) b
def bestFin (r : List Int × Int) : List Int × Int × Bool := (r.1, r.2, decide ((r.1.length : Int) > 0))
theorem bestOf_len (f e c : Int) (st : List Int) (s : Int) (f' e' c' : Int) (st' : List Int) (t m : Int) : ∀ (x : List (List Int)) (b : List Int × Int), b.1.length ≤ 3 → (∀ y, y ∈ x → y.length ≤ 3) → (bestOf f e c st s f' e' c' st' t m x b).1.length ≤ 3 := by
  intro x
  induction x with
  | nil => intro b h _; exact h
  | cons y ys ih =>
    intro b h hy
    refine ih (bestStep f e c st s f' e' c' st' t m b y) ?_ (fun z hz => hy z (List.mem_cons_of_mem _ hz))
    have h3 := hy y List.mem_cons_self
    unfold bestStep
    split
    · split
      · exact h3
      · split
        · exact h3
        · exact h
    · exact h
theorem specBest_l1 {f e c : Int} {st : List Int} {s : Int} {f' e' c' : Int} {st' : List Int} {t m : Int} (x : List (List Int)) (hl : x.length ≤ 1048576) (hm : 0 ≤ m ∧ m ≤ 2000) (hx : ∀ y, y ∈ x → WalkP f e c st s f' e' c' st' t y) : ∀ i : Int, 0 ≤ i → i ≤ x.length → ∀ b : List Int × Int,
    Ev (fun k => spec_BestChange.l1 k s t m b.1 b.2 x (x.length : Int) i f e c st f' e' c' st') (bestFin (bestOf f e c st s f' e' c' st' t m (x.drop i.toNat) b)) := by
  refine downI (fun b => ?_) (fun i h0 h1 ih b => ?_)
  · rw [List.drop_of_length_le (by omega)]
    exact Ev.step (fun k => by simp only [spec_BestChange.l1]; rw [if_neg (by omega)]; rfl) (Ev.now _)
  · have hw : WalkP f e c st s f' e' c' st' t (rd_L1 x i) := hx _ (get_mem x [] i h0 h1)
    have key : bestOf f e c st s f' e' c' st' t m (x.drop i.toNat) b = bestOf f e c st s f' e' c' st' t m (x.drop (i + 1).toNat) (bestStep f e c st s f' e' c' st' t m b (rd_L1 x i)) := by rw [drop_get x [] i h0 h1]; rfl
    rw [key]
    refine Ev.step (fun k => by simp only [spec_BestChange.l1]; rw [if_pos h1, if_pos h0, if_pos h1, if_pos (show 0 < ((rd_L1 x i).length : Int) by have := hw.1; omega), if_pos (show 1 < ((rd_L1 x i).length : Int) by have := hw.1; omega), if_pos (show 2 < ((rd_L1 x i).length : Int) by have := hw.1; omega), w64 (x := i + 1) (by omega) (by omega)]) ?_
    generalize rd_L1 x i = y at hw
    obtain ⟨w3, wr, wr', ww⟩ := hw
    have hy : y.length ≤ 1048576 := by omega
    refine Ev.bind (buChange_ev wr wr' ww hm) ?_
    unfold bestStep
    generalize ChgR f e c st s (rd y 0) f' e' c' st' (rd y 1) t (rd y 2) m = C
    by_cases c1 : C.2.2 = true
    · simp only [if_pos c1]
      by_cases c2 : (b.1.length : Int) = 0
      · simp only [if_pos c2, l1Own_eq hy, Option.bind_some]
        exact ih (y, C.2.1)
      · simp only [if_neg c2]
        by_cases c3 : C.2.1 < b.2
        · simp only [if_pos c3, l1Own_eq hy, Option.bind_some]
          exact ih (y, C.2.1)
        · simp only [if_neg c3]
          exact ih b
    · simp only [if_neg c1]
      exact ih b
theorem implBest_l1 {f e c : Int} {st : List Int} {s : Int} {f' e' c' : Int} {st' : List Int} {t m : Int} (x : List (List Int)) (hl : x.length ≤ 1048576) (hm : 0 ≤ m ∧ m ≤ 2000) (hx : ∀ y, y ∈ x → WalkP f e c st s f' e' c' st' t y) : ∀ i : Int, 0 ≤ i → i ≤ x.length → ∀ b : List Int × Int, b.1.length ≤ 3 →
    Ev (fun k => impl_BestChange.l1 k s t m b.1 b.2 x (x.length : Int) i f e c st f' e' c' st') (bestFin (bestOf f e c st s f' e' c' st' t m (x.drop i.toNat) b)) := by
  refine downI (fun b hb => ?_) (fun i h0 h1 ih b hb => ?_)
  · rw [List.drop_of_length_le (by omega)]
    refine Ev.step (fun k => by simp only [impl_BestChange.l1]; rw [if_neg (by omega), cloneB_eq (y := b.1) (by omega), Option.bind_some]) ?_
    have e1 : (!decide ((b.1.length : Int) = 0)) = decide ((b.1.length : Int) > 0) := by
      by_cases z : (b.1.length : Int) = 0
      · rw [decide_eq_true z, decide_eq_false (show ¬ ((b.1.length : Int) > 0) by omega)]; rfl
      · rw [decide_eq_false z, decide_eq_true (show (b.1.length : Int) > 0 by omega)]; rfl
    rw [e1]
    exact Ev.now _
  · have hw : WalkP f e c st s f' e' c' st' t (rd_L1 x i) := hx _ (get_mem x [] i h0 h1)
    have key : bestOf f e c st s f' e' c' st' t m (x.drop i.toNat) b = bestOf f e c st s f' e' c' st' t m (x.drop (i + 1).toNat) (bestStep f e c st s f' e' c' st' t m b (rd_L1 x i)) := by rw [drop_get x [] i h0 h1]; rfl
    rw [key]
    refine Ev.step (fun k => by simp only [impl_BestChange.l1]; rw [if_pos h1, if_pos h0, if_pos h1, if_pos (show 0 < ((rd_L1 x i).length : Int) by have := hw.1; omega), if_pos (show 1 < ((rd_L1 x i).length : Int) by have := hw.1; omega), if_pos (show 2 < ((rd_L1 x i).length : Int) by have := hw.1; omega), w64 (x := i + 1) (by omega) (by omega)]) ?_
    generalize rd_L1 x i = y at hw
    obtain ⟨w3, wr, wr', ww⟩ := hw
    have hy : y.length ≤ 1048576 := by omega
    simp only [implChange_eq wr wr' ww hm, Option.bind_some]
    unfold bestStep
    generalize ChgR f e c st s (rd y 0) f' e' c' st' (rd y 1) t (rd y 2) m = C
    by_cases c1 : C.2.2 = true
    · simp only [if_pos c1]
      by_cases c2 : (b.1.length : Int) = 0
      · simp only [if_pos c2]
        exact ih (y, C.2.1) (by simp only; omega)
      · simp only [if_neg c2]
        by_cases c3 : C.2.1 < b.2
        · simp only [if_pos c3]
          exact ih (y, C.2.1) (by simp only; omega)
        · simp only [if_neg c3]
          exact ih b hb
    · simp only [if_neg c1]
      exact ih b hb
def WalksP (f e c : Int) (st : List Int) (s : Int) (f' e' c' : Int) (st' : List Int) (t : Int) (x : List (List Int)) : Prop := ∀ y, y ∈ x → WalkP f e c st s f' e' c' st' t y
theorem specBest_l0 {f e c : Int} {st : List Int} {s : Int} {f' e' c' : Int} {st' : List Int} {t m : Int} (x : List (List Int)) (hl : x.length ≤ 1048576) (R : List Int × Int × Bool) (hR : WalksP f e c st s f' e' c' st' t x → Ev (fun k => spec_BestChange.l1 k s t m [] 0 x (x.length : Int) 0 f e c st f' e' c' st') R) : ∀ i : Int, 0 ≤ i → i ≤ x.length → (∀ y, y ∈ x.take i.toNat → WalkP f e c st s f' e' c' st' t y) →
    Ev (fun k => spec_BestChange.l0 k s t x m x (x.length : Int) i f e c st f' e' c' st') (if dec (WalksP f e c st s f' e' c' st' t x) = true then R else ([], 0, false)) := by
  refine downI (fun ht => ?_) (fun i h0 h1 ih ht => ?_)
  · rw [List.take_of_length_le (by omega)] at ht
    rw [dec_true (p := WalksP f e c st s f' e' c' st' t x) ht, if_pos rfl]
    exact Ev.step (fun k => by simp only [spec_BestChange.l0]; rw [if_neg (by omega)]) (hR ht)
  · have hmem : rd_L1 x i ∈ x := get_mem x [] i h0 h1
    have hbad : ¬ WalkP f e c st s f' e' c' st' t (rd_L1 x i) → dec (WalksP f e c st s f' e' c' st' t x) = false := fun h => dec_false (fun q => h (q _ hmem))
    have hgood : WalkP f e c st s f' e' c' st' t (rd_L1 x i) → Ev (fun k => spec_BestChange.l0 k s t x m x (x.length : Int) (i + 1) f e c st f' e' c' st') (if dec (WalksP f e c st s f' e' c' st' t x) = true then R else ([], 0, false)) := fun h => ih (by
      rw [take_get x [] i h0 h1]
      intro y hy
      rcases List.mem_append.1 hy with hy | hy
      · exact ht y hy
      · obtain rfl := List.mem_singleton.1 hy
        exact h)
    refine Ev.step (fun k => by simp only [spec_BestChange.l0]; rw [if_pos h1, if_pos h0, if_pos h1, w64 (x := i + 1) (by omega) (by omega)]) ?_
    unfold WalkP at hbad hgood
    generalize rd_L1 x i = y at hbad hgood
    by_cases w3 : (y.length : Int) = 3
    · simp only [if_pos w3, if_pos (show 0 < (y.length : Int) by omega), if_pos (show 1 < (y.length : Int) by omega), if_pos (show 2 < (y.length : Int) by omega)]
      refine Ev.bind (buRide_ev f e c st s (rd y 0)) ?_
      by_cases wr : RideP f e c st s (rd y 0)
      · rw [dec_true (p := GoodLine f e c st ∧ StopOf st s ∧ StopOf st (rd y 0) ∧ s < rd y 0) wr]
        simp only [if_true]
        refine Ev.bind (buRide_ev f' e' c' st' (rd y 1) t) ?_
        by_cases wr' : RideP f' e' c' st' (rd y 1) t
        · rw [dec_true (p := GoodLine f' e' c' st' ∧ StopOf st' (rd y 1) ∧ StopOf st' t ∧ rd y 1 < t) wr']
          simp only [if_true, in_eq, Option.bind_some, decide_eq_true_eq]
          by_cases ww : 0 ≤ rd y 2 ∧ rd y 2 ≤ 100
          · simp only [if_pos ww]
            exact hgood ⟨w3, wr, wr', ww⟩
          · simp only [if_neg ww]
            rw [hbad (fun q => ww q.2.2.2)]
            exact Ev.now _
        · rw [dec_false (p := GoodLine f' e' c' st' ∧ StopOf st' (rd y 1) ∧ StopOf st' t ∧ rd y 1 < t) wr', hbad (fun q => wr' q.2.2.1)]
          simp only [Bool.false_eq_true, if_false]
          exact Ev.now _
      · rw [dec_false (p := GoodLine f e c st ∧ StopOf st s ∧ StopOf st (rd y 0) ∧ s < rd y 0) wr, hbad (fun q => wr q.2.1)]
        simp only [Bool.false_eq_true, if_false]
        exact Ev.now _
    · simp only [if_neg w3]
      rw [hbad (fun q => w3 q.1)]
      exact Ev.now _
theorem implBest_l0 {f e c : Int} {st : List Int} {s : Int} {f' e' c' : Int} {st' : List Int} {t m : Int} (B : GoodLine f e c st ∧ StopOf st s) (B' : GoodLine f' e' c' st' ∧ StopOf st' t) (x : List (List Int)) (hl : x.length ≤ 1048576) (R : List Int × Int × Bool) (hR : WalksP f e c st s f' e' c' st' t x → Ev (fun k => impl_BestChange.l1 k s t m [] 0 x (x.length : Int) 0 f e c st f' e' c' st') R) : ∀ i : Int, 0 ≤ i → i ≤ x.length → (∀ y, y ∈ x.take i.toNat → WalkP f e c st s f' e' c' st' t y) →
    Ev (fun k => impl_BestChange.l0 k s t x m x (x.length : Int) i f e c st f' e' c' st') (if dec (WalksP f e c st s f' e' c' st' t x) = true then R else ([], 0, false)) := by
  refine downI (fun ht => ?_) (fun i h0 h1 ih ht => ?_)
  · rw [List.take_of_length_le (by omega)] at ht
    rw [dec_true (p := WalksP f e c st s f' e' c' st' t x) ht, if_pos rfl]
    exact Ev.step (fun k => by simp only [impl_BestChange.l0]; rw [if_neg (by omega)]) (hR ht)
  · have hmem : rd_L1 x i ∈ x := get_mem x [] i h0 h1
    have hbad : ¬ WalkP f e c st s f' e' c' st' t (rd_L1 x i) → dec (WalksP f e c st s f' e' c' st' t x) = false := fun h => dec_false (fun q => h (q _ hmem))
    have hgood : WalkP f e c st s f' e' c' st' t (rd_L1 x i) → Ev (fun k => impl_BestChange.l0 k s t x m x (x.length : Int) (i + 1) f e c st f' e' c' st') (if dec (WalksP f e c st s f' e' c' st' t x) = true then R else ([], 0, false)) := fun h => ih (by
      rw [take_get x [] i h0 h1]
      intro y hy
      rcases List.mem_append.1 hy with hy | hy
      · exact ht y hy
      · obtain rfl := List.mem_singleton.1 hy
        exact h)
    refine Ev.step (fun k => by simp only [impl_BestChange.l0]; rw [if_pos h1, if_pos h0, if_pos h1, w64 (x := i + 1) (by omega) (by omega)]) ?_
    unfold WalkP RideP at hbad hgood
    generalize rd_L1 x i = y at hbad hgood
    by_cases w3 : (y.length : Int) = 3
    · simp only [if_pos w3, if_pos (show 0 < (y.length : Int) by omega), if_pos (show 1 < (y.length : Int) by omega), if_pos (show 2 < (y.length : Int) by omega)]
      refine Ev.bind (hasStops1_ev f e c st (rd y 0)) ?_
      by_cases a0 : StopOf st (rd y 0)
      · rw [dec_true (p := GoodLine f e c st ∧ StopOf st (rd y 0)) ⟨B.1, a0⟩]
        simp only [if_true]
        refine Ev.bind (hasStops1_ev f' e' c' st' (rd y 1)) ?_
        by_cases a1 : StopOf st' (rd y 1)
        · rw [dec_true (p := GoodLine f' e' c' st' ∧ StopOf st' (rd y 1)) ⟨B'.1, a1⟩]
          simp only [if_true]
          by_cases a2 : s ≥ rd y 0
          · simp only [if_pos a2]
            rw [hbad (fun q => by have := q.2.1.2.2.2; omega)]
            exact Ev.now _
          · simp only [if_neg a2]
            by_cases a3 : rd y 1 ≥ t
            · simp only [if_pos a3]
              rw [hbad (fun q => by have := q.2.2.1.2.2.2; omega)]
              exact Ev.now _
            · simp only [if_neg a3, isWalk_eq, Option.bind_some, decide_eq_true_eq]
              by_cases ww : 0 ≤ rd y 2 ∧ rd y 2 ≤ 100
              · simp only [if_pos ww]
                exact hgood ⟨w3, ⟨B.1, B.2, a0, by omega⟩, ⟨B'.1, a1, B'.2, by omega⟩, ww⟩
              · simp only [if_neg ww]
                rw [hbad (fun q => ww q.2.2.2)]
                exact Ev.now _
        · rw [dec_false (p := GoodLine f' e' c' st' ∧ StopOf st' (rd y 1)) (fun q => a1 q.2), hbad (fun q => a1 q.2.2.1.2.1)]
          simp only [Bool.false_eq_true, if_false]
          exact Ev.now _
      · rw [dec_false (p := GoodLine f e c st ∧ StopOf st (rd y 0)) (fun q => a0 q.2), hbad (fun q => a0 q.2.1.2.2.1)]
        simp only [Bool.false_eq_true, if_false]
        exact Ev.now _
    · simp only [if_neg w3]
      rw [hbad (fun q => w3 q.1)]
      exact Ev.now _
def BestP (f e c : Int) (st : List Int) (s : Int) (f' e' c' : Int) (st' : List Int) (t m : Int) (x : List (List Int)) : Prop := (GoodLine f e c st ∧ StopOf st s) ∧ (GoodLine f' e' c' st' ∧ StopOf st' t) ∧ (1 ≤ (x.length : Int) ∧ (x.length : Int) ≤ 20) ∧ (0 ≤ m ∧ m ≤ 2000) ∧ WalksP f e c st s f' e' c' st' t x
noncomputable def BestR (f e c : Int) (st : List Int) (s : Int) (f' e' c' : Int) (st' : List Int) (t m : Int) (x : List (List Int)) : List Int × Int × Bool := if dec (BestP f e c st s f' e' c' st' t m x) = true then bestFin (bestOf f e c st s f' e' c' st' t m x ([], 0)) else ([], 0, false)
theorem BestR_len (f e c : Int) (st : List Int) (s : Int) (f' e' c' : Int) (st' : List Int) (t m : Int) (x : List (List Int)) : (BestR f e c st s f' e' c' st' t m x).1.length ≤ 3 := by
  unfold BestR
  split
  · next h =>
    have hp := dec_iff.1 h
    exact bestOf_len f e c st s f' e' c' st' t m x _ (by simp) (fun y hy => by have := (hp.2.2.2.2 y hy).1; omega)
  · simp
theorem specBest_ev (f e c : Int) (st : List Int) (s : Int) (f' e' c' : Int) (st' : List Int) (t m : Int) (x : List (List Int)) : Ev (fun k => spec_BestChange.f k f e c st s f' e' c' st' t x m) (BestR f e c st s f' e' c' st' t m x) := by
  unfold spec_BestChange.f BestR
  have no : Ev (fun k => spec_BestChange.j0 k s t x m true f e c st f' e' c' st') ([], 0, false) := Ev.step (fun k => by simp only [spec_BestChange.j0]; rw [if_pos trivial]) (Ev.now _)
  refine Ev.bind (buStop_ev f e c st s) ?_
  by_cases g : GoodLine f e c st ∧ StopOf st s
  · rw [dec_true g]
    simp only [if_true]
    refine Ev.bind (buStop_ev f' e' c' st' t) ?_
    by_cases g' : GoodLine f' e' c' st' ∧ StopOf st' t
    · rw [dec_true g']
      simp only [if_true, in_eq, buMinute_eq, Option.bind_some, decide_eq_true_eq]
      by_cases hn : 1 ≤ (x.length : Int) ∧ (x.length : Int) ≤ 20
      · simp only [if_pos hn]
        by_cases hm : 0 ≤ m ∧ m ≤ 2000
        · have e1 : dec (BestP f e c st s f' e' c' st' t m x) = dec (WalksP f e c st s f' e' c' st' t x) := dec_of (by rw [dec_iff]; exact ⟨fun h => h.2.2.2.2, fun h => ⟨g, g', hn, hm, h⟩⟩)
          rw [e1, decide_eq_true hm]
          refine Ev.step (fun k => by simp only [spec_BestChange.j0]; rw [if_neg (by simp)]) ?_
          exact specBest_l0 x (by omega) _ (fun hw => specBest_l1 x (by omega) hm hw 0 (by omega) (by omega) ([], 0)) 0 (by omega) (by omega) (fun y hy => by simp at hy)
        · rw [decide_eq_false hm, dec_false (fun q => hm q.2.2.2.1)]
          simp only [Bool.false_eq_true, if_false]
          exact no
      · simp only [if_neg hn]
        rw [dec_false (fun q => hn q.2.2.1)]
        simp only [Bool.false_eq_true, if_false]
        exact no
    · rw [dec_false g', dec_false (fun q => g' q.2.1)]
      simp only [Bool.false_eq_true, if_false]
      exact no
  · rw [dec_false g, dec_false (fun q => g q.1)]
    simp only [Bool.false_eq_true, if_false]
    exact no
theorem implBest_ev (f e c : Int) (st : List Int) (s : Int) (f' e' c' : Int) (st' : List Int) (t m : Int) (x : List (List Int)) : Ev (fun k => impl_BestChange.f k f e c st s f' e' c' st' t x m) (BestR f e c st s f' e' c' st' t m x) := by
  unfold impl_BestChange.f BestR
  have no : Ev (fun k => impl_BestChange.j0 k s t x m true f e c st f' e' c' st') ([], 0, false) := Ev.step (fun k => by simp only [impl_BestChange.j0]; rw [if_pos trivial]) (Ev.now _)
  refine Ev.bind (hasStops1_ev f e c st s) ?_
  by_cases g : GoodLine f e c st ∧ StopOf st s
  · rw [dec_true g]
    simp only [if_true]
    refine Ev.bind (hasStops1_ev f' e' c' st' t) ?_
    by_cases g' : GoodLine f' e' c' st' ∧ StopOf st' t
    · rw [dec_true g']
      simp only [if_true, within_eq, isMinute_eq, Option.bind_some, decide_eq_true_eq]
      by_cases hn : 1 ≤ (x.length : Int) ∧ (x.length : Int) ≤ 20
      · simp only [if_pos hn]
        by_cases hm : 0 ≤ m ∧ m ≤ 2000
        · have e1 : dec (BestP f e c st s f' e' c' st' t m x) = dec (WalksP f e c st s f' e' c' st' t x) := dec_of (by rw [dec_iff]; exact ⟨fun h => h.2.2.2.2, fun h => ⟨g, g', hn, hm, h⟩⟩)
          rw [e1, decide_eq_true hm]
          refine Ev.step (fun k => by simp only [impl_BestChange.j0]; rw [if_neg (by simp)]) ?_
          exact implBest_l0 g g' x (by omega) _ (fun hw => implBest_l1 x (by omega) hm hw 0 (by omega) (by omega) ([], 0) (by simp)) 0 (by omega) (by omega) (fun y hy => by simp at hy)
        · rw [decide_eq_false hm, dec_false (fun q => hm q.2.2.2.1)]
          simp only [Bool.false_eq_true, if_false]
          exact no
      · simp only [if_neg hn]
        rw [dec_false (fun q => hn q.2.2.1)]
        simp only [Bool.false_eq_true, if_false]
        exact no
    · rw [dec_false g', dec_false (fun q => g' q.2.1)]
      simp only [Bool.false_eq_true, if_false]
      exact no
  · rw [dec_false g, dec_false (fun q => g q.1)]
    simp only [Bool.false_eq_true, if_false]
    exact no
theorem markLine_ev (f e c : Int) (l : List Int) (m : Int) (hl : l.length ≤ 1048576) (hm : 0 ≤ m) (hs : m + l.length ≤ 1000000000) : Ev (fun k => laws_markLine.f k f e c l m) (m + (l.length : Int), upFrom m l.length) := by
  unfold laws_markLine.f
  exact Ev.bind (markIntS_ev l m hl hm (by omega)) (Ev.now _)
theorem FnExactBestChange : lw_.Pure := by
  intro f e c l s f' e' c' l' t x m hl hl' hx hxx _ _ _
  refine Ev.rounds ?_
  unfold lw_.f
  rcases szLine_cases f e c l 1048576 (by omega) hl with ⟨hs, h⟩ | h
  · have hs1 : l.length ≤ 1048576 := by omega
    simp only [h, Option.bind_some, if_neg (show ¬ ((1048576 : Int) - l.length < 0) by omega)]
    rcases szLine_cases f' e' c' l' (1048576 - l.length) (by omega) hl' with ⟨hs', h'⟩ | h'
    · have hs1' : l'.length ≤ 1048576 := by omega
      simp only [h', Option.bind_some, if_neg (show ¬ ((1048576 : Int) - l.length - l'.length < 0) by omega)]
      obtain ⟨v, a1, a2⟩ := szIntSS_ev x ((1048576 : Int) - l.length - l'.length) (by omega) hx hxx
      refine Ev.bind a1 ?_
      rcases a2 with a2 | ⟨a2, b1, b2, b3⟩
      · exact Ev.congr (fun k => by rw [if_pos a2]) (Ev.now _)
      · refine Ev.congr (fun k => by rw [if_neg (by omega)]) ?_
        have hr := BestR_len f e c l s f' e' c' l' t m x
        have gs := specBest_ev f e c l s f' e' c' l' t m x
        have gi := implBest_ev f e c l s f' e' c' l' t m x
        generalize BestR f e c l s f' e' c' l' t m x = r at hr gs gi
        have hn := lenS_nn x
        refine Ev.bind (toLine_ev f e c l hs1) (Ev.bind (toLine_ev f' e' c' l' hs1') (Ev.bind (toIntSS_ev x b1 b2) (Ev.bind gs (Ev.bind gi ?_))))
        refine Ev.congr (fun k => by rw [if_pos rfl]) (Ev.bind (eqIntS_ev r.1 (by omega)) ?_)
        refine Ev.congr (fun k => by rw [if_pos rfl]) (Ev.bind (eqLine_ev f e c l hs1) ?_)
        refine Ev.congr (fun k => by rw [if_pos rfl]) (Ev.bind (eqLine_ev f' e' c' l' hs1') ?_)
        refine Ev.congr (fun k => by rw [if_pos rfl]) (Ev.bind (eqIntSS_ev x b1 b2) ?_)
        refine Ev.congr (fun k => by rw [if_pos rfl]) (Ev.bind (markLine_ev f e c l 1 hs1 (by omega) (by omega)) (Ev.bind (markLine_ev f' e' c' l' (1 + (l.length : Int)) hs1' (by omega) (by omega)) (Ev.bind (markIntSS_ev x (1 + (l.length : Int) + (l'.length : Int)) b1 b2 (by omega) (by omega)) ?_)))
        refine Ev.congr (fun k => by rw [if_pos (by simp only; omega)]) (Ev.bind (markIntS_ev r.1 1 (by omega) (by omega) (by omega)) ?_)
        refine Ev.congr (fun k => by rw [if_pos (by simp only; omega)]) (Ev.bind (heldIntS_ev r.1.length 1 (by omega) (by omega) (by omega)) ?_)
        refine Ev.congr (fun k => by rw [if_pos rfl]) (Ev.now _)
    · simp only [h', Option.bind_some]
      exact Ev.now _
  · simp only [h, Option.bind_some]
    exact Ev.now _
end Go.Proofs.Ythdnodmidbcgpaa.Pure
