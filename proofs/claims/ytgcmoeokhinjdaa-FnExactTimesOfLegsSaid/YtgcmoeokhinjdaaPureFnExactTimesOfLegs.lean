/- The program's TimesOfLegs returns what the reference's TimesOfLegs returns, for all arguments. No conditions. -/
import Derived.Test.YtgcmoeokhinjdaaQSx4
import Derived.Test.YtgcmoeokhinjdaaPlain
set_option linter.unusedVariables false
set_option linter.unusedSimpArgs false
namespace Go.Proofs.Ytgcmoeokhinjdaa.Pure
open Go.RowKit Go.Proofs.Ytgcmoeokhinjdaa.QS Go.Proofs.YtgcmoeokhinjdaaW.PrintWords Go.Proofs.YtgcmoeokhinjdaaW.PrintLast Go.Proofs.YtgcmoeokhinjdaaW.PrintMore Go.Proofs.Ytgcmoeokhinjdaa.Plain
theorem w64 {x : Int} (h1 : -9223372036854775808 ≤ x) (h2 : x ≤ 9223372036854775807) : wrap64 x = x := by unfold wrap64; omega
def cvLeg (x : S56) : S54 := ⟨x.f0, x.f1⟩
theorem toLegS_l0_ev (l : List S56) (hl : l.length ≤ 1048576) : ∀ i : Int, 0 ≤ i → i ≤ l.length → ∀ acc : List S54, acc.length = l.length → Ev (fun k => laws_toLegS.l0 k l acc i) (acc.take i.toNat ++ (l.drop i.toNat).map cvLeg) := by
  refine downI (fun acc ha => ?_) (fun i h0 h1 ih acc ha => ?_)
  · refine Ev.step (fun k => by simp only [laws_toLegS.l0]; rw [if_neg (by omega)]) ?_
    rw [List.take_of_length_le (by omega), List.drop_of_length_le (by omega), List.map_nil, List.append_nil]
    exact Ev.now _
  · refine Ev.step (fun k => by simp only [laws_toLegS.l0]; rw [if_pos h1, if_pos h0, laws_toLeg.f, Option.bind_some, if_pos (by omega), w64 (x := i + 1) (by omega) (by omega)]) ?_
    have hi := ih (acc.set i.toNat (cvLeg (rd_T56 l i))) (by simpa using ha)
    rw [drop_get l z56 i h0 h1, List.map_cons]
    rw [show (i + 1).toNat = i.toNat + 1 by omega] at hi ⊢
    rw [set_fill acc _ i.toNat _ (by omega)] at hi
    exact hi
theorem toLegS_ev (l : List S56) (hl : l.length ≤ 1048576) : Ev (fun k => laws_toLegS.f k l) (l.map cvLeg) := by
  refine Ev.congr (fun k => by unfold laws_toLegS.f; rw [if_pos (by omega), if_pos (by omega)]) ?_
  have h := toLegS_l0_ev l hl 0 (by omega) (by omega) (List.replicate ((l.length : Int)).toNat z54) (by simp)
  simpa using h
theorem eqLegS_l0_ev (l : List S54) (hl : l.length ≤ 1048576) : ∀ i : Int, 0 ≤ i → i ≤ l.length → Ev (fun k => laws_eqLegS.l0 k l l i) true := by
  refine downI ?_ (fun i h0 h1 ih => ?_)
  · exact Ev.step (fun k => by simp only [laws_eqLegS.l0]; rw [if_neg (by omega)]) (Ev.now _)
  · refine Ev.step (fun k => by simp only [laws_eqLegS.l0, laws_eqLeg.f, if_true, Option.bind_some]; rw [if_pos h1, if_pos h0, if_pos h1, w64 (x := i + 1) (by omega) (by omega)]) ih
theorem eqLegS_ev (l : List S54) (hl : l.length ≤ 1048576) : Ev (fun k => laws_eqLegS.f k l l) true := by
  refine Ev.congr (fun k => by unfold laws_eqLegS.f; rw [if_pos rfl]) ?_
  exact eqLegS_l0_ev l hl 0 (by omega) (by omega)
/-- The bound on the size of what came in. -/
theorem szLegS_cases (l : List S56) (hl : l.length ≤ maxLen) : (l.length ≤ 1048576 ∧ laws_szLegS.f l 1048576 = some (1048576 - (l.length : Int))) ∨ laws_szLegS.f l 1048576 = some (-1) := by
  unfold maxLen at hl
  unfold laws_szLegS.f
  rw [w64 (x := 1048576 - (l.length : Int)) (by omega) (by omega)]
  by_cases h : (1048576 : Int) - l.length < 0
  · right; rw [if_pos h]
  · left; rw [if_neg h]; exact ⟨by omega, rfl⟩
/-- Legs marked from m on. -/
def legsFrom (m : Int) : Nat → List S54
  | 0 => []
  | n + 1 => ⟨m, m + 1⟩ :: legsFrom (m + 2) n
theorem legsFrom_length : ∀ (n : Nat) (m : Int), (legsFrom m n).length = n := by
  intro n
  induction n with
  | zero => intro m; rfl
  | succ n ih => intro m; simp [legsFrom, ih]
theorem markLegS_l0_ev : ∀ (d : Nat) (x : List S54) (m i : Int), 0 ≤ i → (x.length : Int) - i = d → x.length ≤ 1048576 → 0 ≤ m → m + 2 * d ≤ 1000000000000 → Ev (fun k => laws_markLegS.l0 k x m i) (m + 2 * d, x.take i.toNat ++ legsFrom m d) := by
  intro d
  induction d with
  | zero =>
    intro x m i h0 hd hl _ _
    refine Ev.step (fun k => by simp only [laws_markLegS.l0]; rw [if_neg (by omega)]) ?_
    rw [List.take_of_length_le (by omega)]
    simp only [legsFrom, List.append_nil]
    have : m + 2 * ((0 : Nat) : Int) = m := by omega
    rw [this]
    exact Ev.now _
  | succ d ih =>
    intro x m i h0 hd hl hm hm2
    have hi : i.toNat < x.length := by omega
    have e : ((x.set i.toNat (⟨m, (rd_T54 x i).f1⟩ : S54)).set i.toNat (⟨(rd_T54 (x.set i.toNat (⟨m, (rd_T54 x i).f1⟩ : S54)) i).f0, m + 1⟩ : S54)) = x.set i.toNat ⟨m, m + 1⟩ := by
      rw [List.set_set]
      congr 1
      unfold rd_T54
      rw [List.getD_eq_getElem?_getD, List.getElem?_set_self hi]
      rfl
    refine Ev.step (fun k => by simp only [laws_markLegS.l0, Option.bind_some]; rw [if_pos (by omega), if_pos h0, w64 (x := m + 1) (by omega) (by omega), w64 (x := m + 1 + 1) (by omega) (by omega), w64 (x := i + 1) (by omega) (by omega), e]) ?_
    have h := ih (x.set i.toNat ⟨m, m + 1⟩) (m + 2) (i + 1) (by omega) (by simp; omega) (by simpa using hl) (by omega) (by omega)
    rw [show (i + 1).toNat = i.toNat + 1 by omega, set_fill x (legsFrom (m + 2) d) i.toNat _ hi] at h
    rw [show m + 2 * ((d + 1 : Nat) : Int) = m + 2 + 2 * (d : Int) by omega, show m + 1 + 1 = m + 2 by omega]
    exact h
theorem markLegS_ev (x : List S54) (hl : x.length ≤ 1048576) : Ev (fun k => laws_markLegS.f k x 1) (1 + 2 * x.length, legsFrom 1 x.length) := by
  unfold laws_markLegS.f
  have h := markLegS_l0_ev x.length x 1 0 (by omega) (by omega) hl (by omega) (by omega)
  simpa using h
/-- m, m + 1, m + 2, ..: n of them. -/
def upFrom (m : Int) : Nat → List Int
  | 0 => []
  | n + 1 => m :: upFrom (m + 1) n
theorem upFrom_length : ∀ (n : Nat) (m : Int), (upFrom m n).length = n := by
  intro n
  induction n with
  | zero => intro m; rfl
  | succ n ih => intro m; simp [upFrom, ih]
theorem markIntS_l0_ev : ∀ (d : Nat) (x : List Int) (m i : Int), 0 ≤ i → (x.length : Int) - i = d → x.length ≤ 1048576 → -1000000000 ≤ m → m + d ≤ 1000000000000 → Ev (fun k => laws_markIntS.l0 k x m i) (m + d, x.take i.toNat ++ upFrom m d) := by
  intro d
  induction d with
  | zero =>
    intro x m i h0 hd hl _ _
    refine Ev.step (fun k => by simp only [laws_markIntS.l0]; rw [if_neg (by omega)]) ?_
    rw [List.take_of_length_le (by omega)]
    simp only [upFrom, List.append_nil]
    have : m + ((0 : Nat) : Int) = m := by omega
    rw [this]
    exact Ev.now _
  | succ d ih =>
    intro x m i h0 hd hl hm hm2
    refine Ev.step (fun k => by simp only [laws_markIntS.l0]; rw [if_pos (by omega), if_pos h0, w64 (x := m + 1) (by omega) (by omega), w64 (x := i + 1) (by omega) (by omega)]) ?_
    have h := ih (x.set i.toNat m) (m + 1) (i + 1) (by omega) (by simp; omega) (by simpa using hl) (by omega) (by omega)
    rw [show (i + 1).toNat = i.toNat + 1 by omega, set_fill x (upFrom (m + 1) d) i.toNat m (by omega)] at h
    rw [show m + ((d + 1 : Nat) : Int) = m + 1 + (d : Int) by omega]
    exact h
theorem heldIntS_l0_ev : ∀ (d : Nat) (x : List Int) (m i : Int), 0 ≤ i → x.length ≤ 1048576 → x.drop i.toNat = upFrom m d → (x.length : Int) - i = d → -1000000000 ≤ m → m + d ≤ 1000000000000 → Ev (fun k => laws_heldIntS.l0 k x m i) (m + d) := by
  intro d
  induction d with
  | zero =>
    intro x m i h0 hl hx hd _ _
    refine Ev.step (fun k => by simp only [laws_heldIntS.l0]; rw [if_neg (by omega)]) ?_
    have : m + ((0 : Nat) : Int) = m := by omega
    rw [this]
    exact Ev.now _
  | succ d ih =>
    intro x m i h0 hl hx hd hm hm2
    have hi : i < (x.length : Int) := by omega
    rw [drop_get x 0 i h0 hi] at hx
    simp only [upFrom, List.cons.injEq] at hx
    have e : rd x i = m := hx.1
    refine Ev.step (fun k => by simp only [laws_heldIntS.l0]; rw [if_pos hi, if_pos h0, if_pos e, w64 (x := m + 1) (by omega) (by omega), w64 (x := i + 1) (by omega) (by omega)]) ?_
    rw [show m + ((d + 1 : Nat) : Int) = m + 1 + (d : Int) by omega]
    exact ih x (m + 1) (i + 1) (by omega) hl hx.2 (by omega) (by omega) (by omega)
theorem markIntS_ev (x : List Int) (m : Int) (hl : x.length ≤ 1048576) (h0 : 0 ≤ m) (h1 : m ≤ 1000000000) : Ev (fun k => laws_markIntS.f k x m) (m + x.length, upFrom m x.length) := by
  unfold laws_markIntS.f
  have h := markIntS_l0_ev x.length x m 0 (by omega) (by omega) hl (by omega) (by omega)
  simpa using h
theorem heldIntS_ev (n : Nat) (m : Int) (hl : n ≤ 1048576) (h0 : 0 ≤ m) (h1 : m ≤ 1000000000) : Ev (fun k => laws_heldIntS.f k (upFrom m n) m) (m + n) := by
  unfold laws_heldIntS.f
  have h := heldIntS_l0_ev n (upFrom m n) m 0 (by omega) (by rw [upFrom_length]; exact hl) (by simp) (by rw [upFrom_length]; omega) (by omega) (by omega)
  simpa using h
theorem eqIntS_l0_ev (l : List Int) (hl : l.length ≤ 1048576) : ∀ i : Int, 0 ≤ i → i ≤ l.length → Ev (fun k => laws_eqIntS.l0 k l l i) true := by
  refine downI ?_ (fun i h0 h1 ih => ?_)
  · exact Ev.step (fun k => by simp only [laws_eqIntS.l0]; rw [if_neg (by omega)]) (Ev.now _)
  · refine Ev.step (fun k => by simp only [laws_eqIntS.l0, if_true]; rw [if_pos h1, if_pos h0, if_pos h1, w64 (x := i + 1) (by omega) (by omega)]) ih
theorem eqIntS_ev (l : List Int) (hl : l.length ≤ 1048576) : Ev (fun k => laws_eqIntS.f k l l) true := by
  refine Ev.congr (fun k => by unfold laws_eqIntS.f; rw [if_pos rfl]) ?_
  exact eqIntS_l0_ev l hl 0 (by omega) (by omega)
def marksS (m : Int) : List (List Int) → List (List Int)
  | [] => []
  | y :: ys => upFrom m y.length :: marksS (m + y.length) ys
def lenS : List (List Int) → Int
  | [] => 0
  | y :: ys => y.length + lenS ys
theorem lenS_nn : ∀ l : List (List Int), 0 ≤ lenS l := by
  intro l
  induction l with
  | nil => simp [lenS]
  | cons y ys ih => simp only [lenS]; omega
theorem marksS_length : ∀ (l : List (List Int)) (m : Int), (marksS m l).length = l.length := by
  intro l
  induction l with
  | nil => intro m; rfl
  | cons y ys ih => intro m; simp [marksS, ih]
theorem markSS_l0_ev : ∀ (d : Nat) (x : List (List Int)) (m i : Int), 0 ≤ i → (x.length : Int) - i = d → x.length ≤ 1048576 → (∀ y, y ∈ x → y.length ≤ 1048576) → 0 ≤ m → m + lenS (x.drop i.toNat) ≤ 1000000000 → Ev (fun k => laws_markIntSS.l0 k x m i) (m + lenS (x.drop i.toNat), x.take i.toNat ++ marksS m (x.drop i.toNat)) := by
  intro d
  induction d with
  | zero =>
    intro x m i h0 hd hl hy hm hs
    refine Ev.step (fun k => by simp only [laws_markIntSS.l0]; rw [if_neg (by omega)]) ?_
    rw [List.drop_of_length_le (by omega), List.take_of_length_le (by omega)]
    simp only [lenS, marksS, List.append_nil, Int.add_zero]
    exact Ev.now _
  | succ d ih =>
    intro x m i h0 hd hl hy hm hs
    have h1 : i < (x.length : Int) := by omega
    have hyi : (rd_L3 x i).length ≤ 1048576 := hy _ (get_mem x [] i h0 h1)
    have hdr := drop_get x [] i h0 h1
    rw [hdr] at hs ⊢
    change m + (((rd_L3 x i).length : Int) + lenS (x.drop (i + 1).toNat)) ≤ 1000000000 at hs
    change Ev _ (m + (((rd_L3 x i).length : Int) + lenS (x.drop (i + 1).toNat)), x.take i.toNat ++ (upFrom m (rd_L3 x i).length :: marksS (m + (rd_L3 x i).length) (x.drop (i + 1).toNat)))
    have nn := lenS_nn (x.drop (i + 1).toNat)
    refine Ev.step (fun k => by simp only [laws_markIntSS.l0]; rw [if_pos h1, if_pos h0]) ?_
    refine Ev.bind (markIntS_ev (rd_L3 x i) m hyi hm (by omega)) ?_
    have e : (x.set i.toNat (upFrom m (rd_L3 x i).length)).drop (i + 1).toNat = x.drop (i + 1).toNat := by
      rw [List.drop_set_of_lt (by omega)]
    have h := ih (x.set i.toNat (upFrom m (rd_L3 x i).length)) (m + (rd_L3 x i).length) (i + 1) (by omega) (by simp; omega) (by simpa using hl) (fun y hy2 => by
      rcases List.mem_or_eq_of_mem_set hy2 with hy2 | rfl
      · exact hy y hy2
      · rw [upFrom_length]; exact hyi) (by omega) (by rw [e]; omega)
    rw [e, show (i + 1).toNat = i.toNat + 1 by omega, set_fill x _ i.toNat _ (by omega)] at h
    rw [show (i + 1).toNat = i.toNat + 1 by omega, ← Int.add_assoc]
    exact Ev.congr (fun k => by rw [w64 (x := i + 1) (by omega) (by omega)]) h
theorem markIntSS_ev (x : List (List Int)) (m : Int) (hl : x.length ≤ 1048576) (hy : ∀ y, y ∈ x → y.length ≤ 1048576) (hm : 0 ≤ m) (hs : m + lenS x ≤ 1000000000) : Ev (fun k => laws_markIntSS.f k x m) (m + lenS x, marksS m x) := by
  unfold laws_markIntSS.f
  have h := markSS_l0_ev x.length x m 0 (by omega) (by omega) hl hy hm (by simpa using hs)
  simpa using h
theorem heldSS_l0_ev : ∀ (zs : List (List Int)) (x : List (List Int)) (m i : Int), 0 ≤ i → x.drop i.toNat = marksS m zs → x.length ≤ 1048576 → (∀ y, y ∈ zs → y.length ≤ 1048576) → 0 ≤ m → m + lenS zs ≤ 1000000000 → Ev (fun k => laws_heldIntSS.l0 k x m i) (m + lenS zs) := by
  intro zs
  induction zs with
  | nil =>
    intro x m i h0 hd hl hy hm hs
    have : x.length ≤ i.toNat := by
      have := congrArg List.length hd
      simp [marksS] at this
      omega
    refine Ev.step (fun k => by simp only [laws_heldIntSS.l0]; rw [if_neg (by omega)]) ?_
    simp only [lenS, Int.add_zero]
    exact Ev.now _
  | cons z zs ih =>
    intro x m i h0 hd hl hy hm hs
    have h1 : i < (x.length : Int) := by
      have := congrArg List.length hd
      simp [marksS] at this
      omega
    rw [drop_get x [] i h0 h1] at hd
    simp only [marksS, List.cons.injEq] at hd
    have e : rd_L3 x i = upFrom m z.length := hd.1
    have hz := hy z List.mem_cons_self
    simp only [lenS] at hs ⊢
    have nn := lenS_nn zs
    refine Ev.step (fun k => by simp only [laws_heldIntSS.l0, e]; rw [if_pos h1, if_pos h0]) ?_
    refine Ev.bind (heldIntS_ev z.length m hz hm (by omega)) ?_
    rw [← Int.add_assoc]
    exact Ev.congr (fun k => by rw [if_neg (by omega), w64 (x := i + 1) (by omega) (by omega)]) (ih x (m + z.length) (i + 1) (by omega) hd.2 hl (fun y hy2 => hy y (List.mem_cons_of_mem _ hy2)) (by omega) (by omega))
theorem heldIntSS_ev (x : List (List Int)) (m : Int) (hl : x.length ≤ 1048576) (hy : ∀ y, y ∈ x → y.length ≤ 1048576) (hm : 0 ≤ m) (hs : m + lenS x ≤ 1000000000) : Ev (fun k => laws_heldIntSS.f k (marksS m x) m) (m + lenS x) := by
  unfold laws_heldIntSS.f
  exact heldSS_l0_ev x (marksS m x) m 0 (by omega) (by simp) (by rw [marksS_length]; exact hl) hy hm hs
theorem eqIntSS_l0_ev (l : List (List Int)) (hl : l.length ≤ 1048576) (hy : ∀ y, y ∈ l → y.length ≤ 1048576) : ∀ i : Int, 0 ≤ i → i ≤ l.length → Ev (fun k => laws_eqIntSS.l0 k l l i) true := by
  refine downI ?_ (fun i h0 h1 ih => ?_)
  · exact Ev.step (fun k => by simp only [laws_eqIntSS.l0]; rw [if_neg (by omega)]) (Ev.now _)
  · have hyi : (rd_L3 l i).length ≤ 1048576 := hy _ (get_mem l [] i h0 h1)
    refine Ev.step (fun k => by simp only [laws_eqIntSS.l0]; rw [if_pos h1, if_pos h0, if_pos h1]) ?_
    refine Ev.bind (eqIntS_ev _ hyi) ?_
    exact Ev.congr (fun k => by rw [if_pos rfl, w64 (x := i + 1) (by omega) (by omega)]) ih
theorem eqIntSS_ev (l : List (List Int)) (hl : l.length ≤ 1048576) (hy : ∀ y, y ∈ l → y.length ≤ 1048576) : Ev (fun k => laws_eqIntSS.f k l l) true := by
  refine Ev.congr (fun k => by unfold laws_eqIntSS.f; rw [if_pos rfl]) ?_
  exact eqIntSS_l0_ev l hl hy 0 (by omega) (by omega)
theorem in_eq (a b c : Int) : spec_l1In.f a b c = some (decide (b ≤ a ∧ a ≤ c)) := by
  unfold spec_l1In.f
  by_cases h : a ≥ b
  · rw [if_pos h]; congr 1; simp; omega
  · rw [if_neg h]; congr 1; simp; omega
theorem within_eq (a b c : Int) : impl_within.f a b c = some (decide (b ≤ a ∧ a ≤ c)) := by
  unfold impl_within.f
  by_cases h : a ≥ b
  · rw [if_pos h]; congr 1; simp; omega
  · rw [if_neg h]; congr 1; simp; omega
def okLeg (x : S54) : Bool := decide (1 ≤ x.f0 ∧ x.f0 ≤ 1000) && decide (1 ≤ x.f1 ∧ x.f1 ≤ 100)
def goodLegs (l : List S54) : Bool := decide (1 ≤ (l.length : Int) ∧ (l.length : Int) ≤ 5) && l.all okLeg
theorem okLeg_iff {x : S54} : okLeg x = true ↔ (1 ≤ x.f0 ∧ x.f0 ≤ 1000) ∧ (1 ≤ x.f1 ∧ x.f1 ≤ 100) := by
  unfold okLeg; rw [Bool.and_eq_true, decide_eq_true_iff, decide_eq_true_iff]
theorem reGood_l0_ev (l : List S54) (hl : l.length ≤ 5) : ∀ i : Int, 0 ≤ i → i ≤ l.length → Ev (fun k => spec_reGood.l0 k l l.length i) ((l.drop i.toNat).all okLeg) := by
  refine downI ?_ (fun i h0 h1 ih => ?_)
  · refine Ev.step (fun k => by simp only [spec_reGood.l0]; rw [if_neg (by omega)]) ?_
    rw [List.drop_of_length_le (by omega)]
    exact Ev.now _
  · rw [drop_get l z54 i h0 h1, List.all_cons]
    refine Ev.step (f := fun k => if decide (1 ≤ (rd_T54 l i).f0 ∧ (rd_T54 l i).f0 ≤ 1000) = true then (if decide (1 ≤ (rd_T54 l i).f1 ∧ (rd_T54 l i).f1 ≤ 100) = true then spec_reGood.l0 k l l.length (i + 1) else some false) else some false) (fun k => by simp only [spec_reGood.l0, in_eq, Option.bind_some]; rw [if_pos h1, if_pos h0, if_pos h1, w64 (x := i + 1) (by omega) (by omega)]) ?_
    show Ev _ (okLeg (rd_T54 l i) && _)
    unfold okLeg
    by_cases a : decide (1 ≤ (rd_T54 l i).f0 ∧ (rd_T54 l i).f0 ≤ 1000) = true
    · by_cases b : decide (1 ≤ (rd_T54 l i).f1 ∧ (rd_T54 l i).f1 ≤ 100) = true
      · simp only [a, b, if_true, Bool.true_and]; exact ih
      · simp only [a, b, if_true, Bool.true_and, Bool.false_and, Bool.false_eq_true, if_false]; exact Ev.now _
    · simp only [a, Bool.false_and, Bool.false_eq_true, if_false]; exact Ev.now _
theorem reGood_ev (l : List S54) : Ev (fun k => spec_reGood.f k l) (goodLegs l) := by
  unfold spec_reGood.f goodLegs
  simp only [in_eq, Option.bind_some]
  by_cases h : 1 ≤ (l.length : Int) ∧ (l.length : Int) ≤ 5
  · simp only [h, and_self, decide_true, if_true, Bool.true_and]
    exact reGood_l0_ev l (by omega) 0 (by omega) (by omega)
  · simp only [h, decide_false, Bool.false_and, Bool.false_eq_true, if_false]
    exact Ev.now _
theorem areLegs_1_eq (x : S54) : impl_AreLegs_1.f x.f0 x.f1 = some (!okLeg x) := by
  unfold impl_AreLegs_1.f impl_isLong.f impl_isFast.f okLeg
  simp only [within_eq, Option.bind_some]
  by_cases a : decide (1 ≤ x.f0 ∧ x.f0 ≤ 1000) = true
  · simp [a]
  · simp [a]
theorem indexLeg_ev (l : List S54) (hl : l.length ≤ 5) : ∀ i : Int, 0 ≤ i → i ≤ l.length → ∃ r : Int, Ev (fun k => impl_Leg_87.l0 k l l.length i) r ∧ decide (r ≥ 0) = !((l.drop i.toNat).all okLeg) := by
  refine downI ?_ (fun i h0 h1 ih => ?_)
  · refine ⟨-1, Ev.step (fun k => by simp only [impl_Leg_87.l0]; rw [if_neg (by omega)]) (Ev.now _), ?_⟩
    rw [List.drop_of_length_le (by omega)]
    rfl
  · rw [drop_get l z54 i h0 h1, List.all_cons]
    have st : ∀ k, impl_Leg_87.l0 (k + 1) l l.length i = if (!okLeg (rd_T54 l i)) = true then some i else impl_Leg_87.l0 k l l.length (i + 1) := fun k => by
      simp only [impl_Leg_87.l0, areLegs_1_eq, Option.bind_some]; rw [if_pos h1, if_pos h0, if_pos h1, w64 (x := i + 1) (by omega) (by omega)]
    show ∃ r : Int, _ ∧ _ = !(okLeg (rd_T54 l i) && _)
    cases a : okLeg (rd_T54 l i)
    · exact ⟨i, Ev.step (fun k => by rw [st, a]; rfl) (Ev.now i), by simp [h0]⟩
    · obtain ⟨r, h2, h3⟩ := ih
      exact ⟨r, Ev.step (fun k => by rw [st, a]; rfl) h2, by simpa using h3⟩
theorem areLegs_ev (l : List S54) : Ev (fun k => impl_AreLegs.f k l) (goodLegs l) := by
  unfold impl_AreLegs.f goodLegs
  simp only [within_eq, Option.bind_some]
  by_cases h : 1 ≤ (l.length : Int) ∧ (l.length : Int) ≤ 5
  · simp only [h, and_self, decide_true, if_true, Bool.true_and]
    obtain ⟨r, h1, h2⟩ := indexLeg_ev l (by omega) 0 (by omega) (by omega)
    unfold impl_Leg_75.f impl_Leg_87.f
    refine Ev.bind (Ev.bind h1 (Ev.now _)) ?_
    rw [h2]
    simp only [Bool.not_not]
    exact Ev.now _
  · simp only [h, decide_false, Bool.false_and, Bool.false_eq_true, if_false]
    exact Ev.now _
theorem good_len {l : List S54} (h : goodLegs l = true) : 1 ≤ l.length ∧ l.length ≤ 5 := by
  unfold goodLegs at h
  rw [Bool.and_eq_true, decide_eq_true_iff] at h
  omega
theorem good_ok {l : List S54} (h : goodLegs l = true) : ∀ x, x ∈ l → okLeg x = true := by
  unfold goodLegs at h
  rw [Bool.and_eq_true] at h
  exact List.all_eq_true.1 h.2
def longI (l : List S54) : Int := (l.map (fun x => x.f0)).sum
theorem longI_cons (x : S54) (l : List S54) : longI (x :: l) = x.f0 + longI l := by simp [longI]
theorem longI_bd : ∀ (l : List S54), (∀ x, x ∈ l → okLeg x = true) → (l.length : Int) ≤ longI l ∧ longI l ≤ 1000 * l.length := by
  intro l
  induction l with
  | nil => intro _; simp [longI]
  | cons x l ih =>
    intro h
    rw [longI_cons]
    have h1 := okLeg_iff.1 (h x List.mem_cons_self)
    have h2 := ih (fun y hy => h y (List.mem_cons_of_mem _ hy))
    simp only [List.length_cons]
    omega
theorem most_eq (a b : Int) : spec_l1Most.f a b = some (if a > b then a else b) := by
  unfold spec_l1Most.f; split <;> rfl
theorem l1Abs_eq {a : Int} (h1 : -4611686018427387904 ≤ a) (h2 : a ≤ 4611686018427387904) : spec_l1Abs.f a = some (if a < -a then -a else a) := by
  unfold spec_l1Abs.f
  rw [most_eq]
  have e : wrap64 (-a) = -a := by unfold wrap64; omega
  rw [e]
  simp only [Option.bind_some]
  congr 1
  split <;> split <;> omega
theorem divisorOf_ev : ∀ (n : Nat) (a b : Int), 0 ≤ a → 0 ≤ b → b.toNat ≤ n → Ev (fun k => impl_divisorOf.l0 k a b) (gg a b) := by
  intro n
  induction n with
  | zero =>
    intro a b ha hb hn
    obtain rfl : b = 0 := by omega
    refine Ev.step (fun k => by simp only [impl_divisorOf.l0]; rw [if_neg (by omega)]) ?_
    rw [gg_zero ha]; exact Ev.now a
  | succ n ih =>
    intro a b ha hb hn
    by_cases h : 0 < b
    · obtain ⟨g1, g2, g3⟩ := gg_step ha h
      refine Ev.step (fun k => by simp only [impl_divisorOf.l0]; rw [if_pos h, if_neg (by omega)]) ?_
      rw [← g1]; exact ih b (a.tmod b) hb g2 (by omega)
    · obtain rfl : b = 0 := by omega
      refine Ev.step (fun k => by simp only [impl_divisorOf.l0]; rw [if_neg (by omega)]) ?_
      rw [gg_zero ha]; exact Ev.now a
theorem absOf_eq {a : Int} (h1 : -4611686018427387904 ≤ a) (h2 : a ≤ 4611686018427387904) : impl_absOf.f a = some (if a < -a then -a else a) := by
  unfold impl_absOf.f mx
  have e : wrap64 (-a) = -a := by unfold wrap64; omega
  rw [e]
theorem tdiv_lo1 {n d : Int} (hd : 0 < d) (h1 : -4611686018427387904 ≤ n) (h2 : n ≤ 4611686018427387904) : wrap64 (Int.tdiv n (gg n d)) = (lo n d).1 := by
  rw [Int.tdiv_eq_ediv_of_dvd (gg_l n d)]
  have := lo_bd1 hd h1 h2
  show wrap64 (lo n d).1 = _
  unfold wrap64; omega
theorem tdiv_lo2 {n d : Int} (hd : 0 < d) (h2 : d ≤ 4611686018427387904) : wrap64 (Int.tdiv d (gg n d)) = (lo n d).2 := by
  rw [Int.tdiv_eq_ediv_of_dvd (gg_r n d)]
  have := lo_le2 n hd
  have := lo_pos n hd
  show wrap64 (lo n d).2 = _
  unfold wrap64; omega
theorem lowest_ev {n d : Int} (hd : 0 < d) (h1 : -4611686018427387904 ≤ n) (h2 : n ≤ 4611686018427387904) (h3 : d ≤ 4611686018427387904) : Ev (fun k => impl_lowest.f k n d) (lo n d) := by
  refine Ev.congr (fun k => by unfold impl_lowest.f impl_divisorOf.f; rw [if_neg (by omega), absOf_eq h1 h2, Option.bind_some]) ?_
  have hg := gg_pos (n := n) hd
  refine Ev.bind (divisorOf_ev _ d _ (Int.le_of_lt hd) (by split <;> omega) (Nat.le_refl _)) ?_
  have e : gg d (if n < -n then -n else n) = gg n d := by rw [gg_comm, gg_abs]
  rw [e]
  simp only [if_neg (show ¬ gg n d = 0 by omega), tdiv_lo1 hd h1 h2, tdiv_lo2 (n := n) hd h3]
  exact Ev.now _
theorem meLow_l0_ev (p q : Int) : ∀ (n : Nat) (a b : Int), 0 ≤ a → 0 ≤ b → b.toNat ≤ n → 0 < gg a b → Ev (fun k => spec_meLow.l0 k p q a b) (wrap64 (Int.tdiv p (gg a b)), wrap64 (Int.tdiv q (gg a b))) := by
  intro n
  induction n with
  | zero =>
    intro a b ha hb hn hg
    obtain rfl : b = 0 := by omega
    rw [gg_zero ha] at hg ⊢
    refine Ev.step (fun k => by simp only [spec_meLow.l0]; rw [if_neg (by omega), if_neg (by omega)]) ?_
    exact Ev.now _
  | succ n ih =>
    intro a b ha hb hn hg
    by_cases h : 0 < b
    · obtain ⟨g1, g2, g3⟩ := gg_step ha h
      refine Ev.step (fun k => by simp only [spec_meLow.l0]; rw [if_pos h, if_neg (by omega)]) ?_
      rw [← g1] at hg ⊢; exact ih b (a.tmod b) hb g2 (by omega) hg
    · obtain rfl : b = 0 := by omega
      rw [gg_zero ha] at hg ⊢
      refine Ev.step (fun k => by simp only [spec_meLow.l0]; rw [if_neg (by omega), if_neg (by omega)]) ?_
      exact Ev.now _
theorem meLow_ev {n d : Int} (hd : 0 < d) (h1 : -4611686018427387904 ≤ n) (h2 : n ≤ 4611686018427387904) (h3 : d ≤ 4611686018427387904) : Ev (fun k => spec_meLow.f k n d) (lo n d) := by
  refine Ev.congr (fun k => by unfold spec_meLow.f; rw [if_neg (by omega)]) ?_
  refine Ev.step (fun k => by simp only [spec_meLow.j0]; rw [l1Abs_eq h1 h2, Option.bind_some]) ?_
  have hg := gg_pos (n := n) hd
  have e := gg_abs n d
  have h := meLow_l0_ev n d _ (if n < -n then -n else n) d (by split <;> omega) (Int.le_of_lt hd) (Nat.le_refl _) (by rw [e]; exact hg)
  rw [e, tdiv_lo1 hd h1 h2, tdiv_lo2 (n := n) hd h3] at h
  exact h
def tstep (t : Int × Int) (x : S54) : Int × Int := lo (t.1 * x.f1 + x.f0 * t.2) (t.2 * x.f1)
def timeL (l : List S54) : Int × Int := l.foldl tstep (0, 1)
/-- A time for n legs. -/
structure Tm (n : Nat) (t : Int × Int) : Prop where
  nn : 0 ≤ t.1
  pos : 1 ≤ n → 0 < t.1
  rat : t.1 ≤ (1000 * (n : Int)) * t.2
  one : 1 ≤ t.2
  den : t.2 ≤ pw n
  low : gg t.1 t.2 = 1
theorem Tm.bd {n : Nat} {t : Int × Int} (h : Tm n t) (hn : n ≤ 5) : t.1 ≤ 50000000000000 ∧ t.2 ≤ 10000000000 := by
  have h1 := h.den
  have h2 := pw_le hn
  have h3 := h.rat
  have h4 := mul_bd (a := 1000 * (n : Int)) (b := t.2) (A := 5000) (B := 10000000000) (by omega) (by omega) (by have := h.one; omega) (by omega)
  omega
theorem tm_zero : Tm 0 (0, 1) := ⟨by simp, fun h => absurd h (by omega), by simp, by simp, by simp [pw], by unfold gg; simp⟩
/-- What one leg more comes to, with no overflow. -/
structure Step (n : Nat) (t : Int × Int) (x : S54) : Prop where
  next : Tm (n + 1) (tstep t x)
  a : wrap64 (t.1 * x.f1) = t.1 * x.f1
  b : wrap64 (x.f0 * t.2) = x.f0 * t.2
  c : wrap64 (t.1 * x.f1 + x.f0 * t.2) = t.1 * x.f1 + x.f0 * t.2
  d : wrap64 (t.2 * x.f1) = t.2 * x.f1
  dp : 0 < t.2 * x.f1
  n1 : 0 ≤ t.1 * x.f1 + x.f0 * t.2 ∧ t.1 * x.f1 + x.f0 * t.2 ≤ 4611686018427387904
  d1 : t.2 * x.f1 ≤ 4611686018427387904
theorem step_of {n : Nat} {t : Int × Int} {x : S54} (h : Tm n t) (hn : n ≤ 4) (hx : okLeg x = true) : Step n t x := by
  obtain ⟨⟨l1, l2⟩, f1, f2⟩ := okLeg_iff.1 hx
  obtain ⟨t1, t2⟩ := h.bd (by omega)
  have t3 := h.nn
  have t4 := h.one
  have a := mul_bd (a := t.1) (b := x.f1) (A := 50000000000000) (B := 100) t3 t1 (by omega) f2
  have b := mul_bd (a := x.f0) (b := t.2) (A := 1000) (B := 10000000000) (by omega) l2 (by omega) t2
  have d := mul_bd (a := t.2) (b := x.f1) (A := 10000000000) (B := 100) (by omega) t2 (by omega) f2
  have dp := mul_pos (a := t.2) (b := x.f1) (by omega) (by omega)
  have bp := mul_pos (a := x.f0) (b := t.2) (by omega) (by omega)
  refine ⟨⟨lo_nonneg dp (by omega), fun _ => lo_pos1 dp (by omega), lo_ratio dp ?_, lo_pos _ dp, ?_, lo_gcd _ dp⟩, w64 (by omega) (by omega), w64 (by omega) (by omega), w64 (by omega) (by omega), w64 (by omega) (by omega), dp, ⟨by omega, by omega⟩, by omega⟩
  · have r := mul_le_r (c := x.f1) (by omega) h.rat
    have s1 := mul_le_r (c := t.2) (by omega) l2
    have s2 := mul_le_l (c := 1000 * t.2) (by omega) f1
    have e : (1000 * ((n + 1 : Nat) : Int)) * (t.2 * x.f1) = 1000 * (n : Int) * t.2 * x.f1 + 1000 * t.2 * x.f1 := by
      rw [show ((n + 1 : Nat) : Int) = (n : Int) + 1 by omega]
      grind
    omega
  · refine Int.le_trans (lo_le2 _ dp) ?_
    have := h.den
    have p := pw_pos n
    have := mul_bd (a := t.2) (b := x.f1) (A := pw n) (B := 100) (by omega) h.den (by omega) f2
    simp only [pw]
    omega
theorem tm_foldl : ∀ (l : List S54) (n : Nat) (t : Int × Int), n + l.length ≤ 5 → Tm n t → (∀ x, x ∈ l → okLeg x = true) → Tm (n + l.length) (l.foldl tstep t) := by
  intro l
  induction l with
  | nil => intro n t _ h _; exact h
  | cons x l ih =>
    intro n t hn h ok
    simp only [List.length_cons] at hn
    have := ih (n + 1) (tstep t x) (by omega) (step_of h (by omega) (ok x List.mem_cons_self)).next (fun y hy => ok y (List.mem_cons_of_mem _ hy))
    simp only [List.foldl_cons, List.length_cons]
    rw [show n + (l.length + 1) = n + 1 + l.length by omega]
    exact this
theorem timeL_tm (l : List S54) (hl : l.length ≤ 5) (ok : ∀ x, x ∈ l → okLeg x = true) : Tm l.length (timeL l) := by
  have := tm_foldl l 0 (0, 1) (by omega) tm_zero ok
  rw [Nat.zero_add] at this
  exact this
theorem reTime_l0_ev (l : List S54) (hl : l.length ≤ 5) (ok : ∀ x, x ∈ l → okLeg x = true) : ∀ i : Int, 0 ≤ i → i ≤ l.length → ∀ t : Int × Int, Tm i.toNat t → Ev (fun k => spec_reTime.l0 k t.1 t.2 l l.length i) ((l.drop i.toNat).foldl tstep t) := by
  refine downI (fun t h => ?_) (fun i h0 h1 ih t h => ?_)
  · refine Ev.step (fun k => by simp only [spec_reTime.l0]; rw [if_neg (by omega)]) ?_
    rw [List.drop_of_length_le (by omega)]
    exact Ev.now _
  · have s := step_of h (by omega) (ok _ (get_mem l z54 i h0 h1))
    have n1 := s.n1
    rw [drop_get l z54 i h0 h1, List.foldl_cons]
    refine Ev.step (fun k => by simp only [spec_reTime.l0, rd_T54]; rw [if_pos h1, if_pos h0, if_pos h1, w64 (x := i + 1) (by omega) (by omega), s.a, s.b, s.c, s.d]) ?_
    refine Ev.bind (meLow_ev s.dp (by omega) s.n1.2 s.d1) ?_
    have := s.next
    rw [show i.toNat + 1 = (i + 1).toNat by omega] at this
    exact ih _ this
theorem timeOf_l0_ev (l : List S54) (hl : l.length ≤ 5) (ok : ∀ x, x ∈ l → okLeg x = true) : ∀ i : Int, 0 ≤ i → i ≤ l.length → ∀ t : Int × Int, Tm i.toNat t → Ev (fun k => impl_timeOf.l0 k t.1 t.2 l l.length i) ((l.drop i.toNat).foldl tstep t) := by
  refine downI (fun t h => ?_) (fun i h0 h1 ih t h => ?_)
  · refine Ev.step (fun k => by simp only [impl_timeOf.l0]; rw [if_neg (by omega)]) ?_
    rw [List.drop_of_length_le (by omega)]
    exact Ev.now _
  · have s := step_of h (by omega) (ok _ (get_mem l z54 i h0 h1))
    have n1 := s.n1
    rw [drop_get l z54 i h0 h1, List.foldl_cons]
    refine Ev.step (fun k => by simp only [impl_timeOf.l0, rd_T54]; rw [if_pos h1, if_pos h0, if_pos h1, w64 (x := i + 1) (by omega) (by omega), s.a, s.b, s.c, s.d]) ?_
    refine Ev.bind (lowest_ev s.dp (by omega) s.n1.2 s.d1) ?_
    have := s.next
    rw [show i.toNat + 1 = (i + 1).toNat by omega] at this
    exact ih _ this
theorem reTime_ev (l : List S54) (hl : l.length ≤ 5) (ok : ∀ x, x ∈ l → okLeg x = true) : Ev (fun k => spec_reTime.f k l) (timeL l) := by
  unfold spec_reTime.f timeL
  have h := reTime_l0_ev l hl ok 0 (by omega) (by omega) (0, 1) tm_zero
  simpa using h
theorem timeOf_ev (l : List S54) (hl : l.length ≤ 5) (ok : ∀ x, x ∈ l → okLeg x = true) : Ev (fun k => impl_timeOf.f k l) (timeL l) := by
  unfold impl_timeOf.f timeL
  have h := timeOf_l0_ev l hl ok 0 (by omega) (by omega) (0, 1) tm_zero
  simpa using h
def tmRow (l : List S54) (j : Nat) : List Int := [(timeL (l.take (j + 1))).1, (timeL (l.take (j + 1))).2]
def tmRows (l : List S54) : List (List Int) := (List.range l.length).map (tmRow l)
theorem tmRows_length (l : List S54) : (tmRows l).length = l.length := by simp [tmRows]
theorem tmRows_get (l : List S54) (i : Int) (h0 : 0 ≤ i) (h1 : i < l.length) : (tmRows l).getD i.toNat [] = tmRow l i.toNat := by
  have : i.toNat < l.length := by omega
  simp [tmRows, List.getD_eq_getElem?_getD, this]
theorem tmRows_two (l : List S54) : ∀ y, y ∈ tmRows l → y.length = 2 := by
  intro y hy
  obtain ⟨j, _, rfl⟩ := List.mem_map.1 hy
  rfl
theorem specTimesLegs_ev (l : List S54) (hl : l.length ≤ 5) (ok : ∀ x, x ∈ l → okLeg x = true) : ∀ i : Int, 0 ≤ i → i ≤ l.length → ∀ acc : List (List Int), (acc.length : Int) = i → Ev (fun k => spec_TimesOfLegs.l0 k l acc l.length i) (acc ++ (tmRows l).drop i.toNat, true) := by
  refine downI (fun acc ha => ?_) (fun i h0 h1 ih acc ha => ?_)
  · refine Ev.step (fun k => by simp only [spec_TimesOfLegs.l0]; rw [if_neg (by omega)]) ?_
    rw [List.drop_of_length_le (by rw [tmRows_length]; omega), List.append_nil]
    exact Ev.now _
  · have e1 : wrap64 (i + 1) = i + 1 := w64 (by omega) (by omega)
    refine Ev.step (fun k => by simp only [spec_TimesOfLegs.l0, e1]; rw [if_pos h1, if_pos (by omega), if_pos (by omega)]) ?_
    refine Ev.bind (reTime_ev (l.take (i + 1).toNat) (by simp; omega) (fun x hx => ok x (List.mem_of_mem_take hx))) ?_
    refine Ev.congr (fun k => by rw [if_pos (by omega)]) ?_
    have h := ih (acc ++ [tmRow l i.toNat]) (by simp; omega)
    rw [drop_get (tmRows l) [] i h0 (by rw [tmRows_length]; exact h1), tmRows_get l i h0 h1]
    rw [List.append_assoc, List.singleton_append] at h
    have e : tmRow l i.toNat = [(timeL (l.take (i + 1).toNat)).1, (timeL (l.take (i + 1).toNat)).2] := by
      unfold tmRow
      rw [show (i + 1).toNat = i.toNat + 1 by omega]
    rw [e] at h ⊢
    exact h
theorem implTimesLegs_ev (l : List S54) (hl : l.length ≤ 5) (ok : ∀ x, x ∈ l → okLeg x = true) : ∀ i : Int, 0 ≤ i → i ≤ l.length → ∀ acc : List (List Int), acc.length = l.length → Ev (fun k => impl_TimesOfLegs.l0 k l acc l.length i) (acc.take i.toNat ++ (tmRows l).drop i.toNat, true) := by
  refine downI (fun acc ha => ?_) (fun i h0 h1 ih acc ha => ?_)
  · refine Ev.step (fun k => by simp only [impl_TimesOfLegs.l0]; rw [if_neg (by omega)]) ?_
    rw [List.drop_of_length_le (by rw [tmRows_length]; omega), List.append_nil, List.take_of_length_le (by omega)]
    exact Ev.now _
  · have e1 : wrap64 (i + 1) = i + 1 := w64 (by omega) (by omega)
    refine Ev.step (fun k => by simp only [impl_TimesOfLegs.l0, e1]; rw [if_pos h1, if_pos (by omega), if_pos (by omega)]) ?_
    refine Ev.bind (timeOf_ev (l.take (i + 1).toNat) (by simp; omega) (fun x hx => ok x (List.mem_of_mem_take hx))) ?_
    refine Ev.congr (fun k => by rw [if_pos h0, if_pos (by omega)]) ?_
    have h := ih (acc.set i.toNat (tmRow l i.toNat)) (by simpa using ha)
    rw [drop_get (tmRows l) [] i h0 (by rw [tmRows_length]; exact h1), tmRows_get l i h0 h1]
    have e : tmRow l i.toNat = [(timeL (l.take (i + 1).toNat)).1, (timeL (l.take (i + 1).toNat)).2] := by
      unfold tmRow
      rw [show (i + 1).toNat = i.toNat + 1 by omega]
    rw [show (i + 1).toNat = i.toNat + 1 by omega, set_fill acc _ i.toNat _ (by omega)] at h
    rw [show (i + 1).toNat = i.toNat + 1 by omega] at e ⊢
    rw [e] at h ⊢
    exact h
theorem timesLegs_told (l : List S54) : ∃ (r : List (List Int)) (q : Bool), Ev (fun k => spec_TimesOfLegs.f k l) (r, q) ∧ Ev (fun k => impl_TimesOfLegs.f k l) (r, q) ∧ r.length ≤ 5 ∧ (∀ y, y ∈ r → y.length = 2) := by
  cases g : goodLegs l with
  | true =>
    have hl := good_len g
    have ok := good_ok g
    refine ⟨tmRows l, true, Ev.bind (reGood_ev l) ?_, Ev.bind (areLegs_ev l) ?_, by rw [tmRows_length]; exact hl.2, tmRows_two l⟩
    · rw [g]
      have h := specTimesLegs_ev l hl.2 ok 0 (by omega) (by omega) [] (by simp)
      simpa using h
    · rw [g]
      refine Ev.congr (fun k => by rw [if_pos rfl, if_pos (by omega), if_pos (by omega), Option.bind_some, List.length_replicate]) ?_
      have h := implTimesLegs_ev l hl.2 ok 0 (by omega) (by omega) (List.replicate ((l.length : Int)).toNat []) (by simp)
      simpa using h
  | false => exact ⟨[], false, Ev.bind (reGood_ev l) (by rw [g]; exact Ev.now _), Ev.bind (areLegs_ev l) (by rw [g]; exact Ev.now _), by simp, by simp⟩
theorem lenS_two : ∀ r : List (List Int), (∀ y, y ∈ r → y.length = 2) → lenS r = 2 * r.length := by
  intro r
  induction r with
  | nil => intro _; rfl
  | cons y r ih =>
    intro h
    simp only [lenS, List.length_cons]
    rw [ih (fun z hz => h z (List.mem_cons_of_mem _ hz)), h y List.mem_cons_self]
    omega
theorem FnExactTimesOfLegs : laws_FnExactTimesOfLegs.Pure := by
  intro l hl
  refine Ev.rounds ?_
  unfold laws_FnExactTimesOfLegs.f
  rcases szLegS_cases l hl with ⟨hs, h⟩ | h
  · refine Ev.congr (fun k => by rw [h, Option.bind_some, if_neg (show ¬ ((1048576 : Int) - l.length < 0) by omega)]) ?_
    have hs' : (l.map cvLeg).length ≤ 1048576 := by simpa using hs
    obtain ⟨r, q, a1, a2, a3, a4⟩ := timesLegs_told (l.map cvLeg)
    have hr : ∀ y, y ∈ r → y.length ≤ 1048576 := fun y hy => by have := a4 y hy; omega
    have e := lenS_two r a4
    refine Ev.bind (toLegS_ev l hs) (Ev.bind a1 (Ev.bind a2 ?_))
    refine Ev.congr (fun k => by rw [if_pos rfl]) (Ev.bind (eqIntSS_ev r (by omega) hr) ?_)
    refine Ev.congr (fun k => by rw [if_pos rfl]) (Ev.bind (eqLegS_ev _ hs') ?_)
    refine Ev.congr (fun k => by rw [if_pos rfl]) (Ev.bind (markLegS_ev _ hs') ?_)
    refine Ev.congr (fun k => by rw [if_pos (by simp only; omega)]) (Ev.bind (markIntSS_ev r 1 (by omega) hr (by omega) (by omega)) ?_)
    refine Ev.congr (fun k => by rw [if_pos (by simp only; omega)]) (Ev.bind (heldIntSS_ev r 1 (by omega) hr (by omega) (by omega)) ?_)
    refine Ev.congr (fun k => by rw [if_pos rfl]) (Ev.now _)
  · refine Ev.congr (fun k => by rw [h, Option.bind_some, if_pos (by omega)]) (Ev.now _)
end Go.Proofs.Ytgcmoeokhinjdaa.Pure
