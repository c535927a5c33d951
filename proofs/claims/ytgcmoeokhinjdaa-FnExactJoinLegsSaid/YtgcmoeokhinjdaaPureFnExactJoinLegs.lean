/- The program's JoinLegs returns what the reference's JoinLegs returns, for all arguments. No conditions. -/
import Derived.Test.YtgcmoeokhinjdaaQJx5
import Derived.Test.YtgcmoeokhinjdaaPlain
set_option linter.unusedVariables false
set_option linter.unusedSimpArgs false
namespace Go.Proofs.Ytgcmoeokhinjdaa.Pure
open Go.RowKit Go.Proofs.Ytgcmoeokhinjdaa.QJ Go.Proofs.YtgcmoeokhinjdaaW.PrintWords Go.Proofs.YtgcmoeokhinjdaaW.PrintLast Go.Proofs.YtgcmoeokhinjdaaW.PrintMore Go.Proofs.Ytgcmoeokhinjdaa.Plain
theorem w64 {x : Int} (h1 : -9223372036854775808 ≤ x) (h2 : x ≤ 9223372036854775807) : wrap64 x = x := by unfold wrap64; omega
def cvLeg (x : S56) : S54 := ⟨x.f0, x.f1⟩
theorem toLegS_l0_ev (l : List S56) (hl : l.length ≤ 1048576) : ∀ i : Int, 0 ≤ i → i ≤ l.length → ∀ acc : List S54, acc.length = l.length → Ev (fun k => laws_toLegS.l0 k l acc i) (acc.take i.toNat ++ (l.drop i.toNat).map cvLeg) := by
  refine downI (fun acc ha => ?_) (fun i h0 h1 ih acc ha => ?_)
  · refine Ev.step (fun k => by simp only [laws_toLegS.l0]; rw [if_neg (by omega)]) ?_
    rw [List.take_of_length_le (by omega), List.drop_of_length_le (by omega), List.map_nil, List.append_nil]
    exact Ev.now _
  · refine Ev.step (fun k => by simp only [laws_toLegS.l0]; rw [if_pos h1, if_pos h0, laws_toLeg.f, Option.bind_some, if_pos (by omega), w64 (x := i + 1) (by omega) (by omega)]) ?_
    have hi := ih (acc.set i.toNat (cvLeg (rd_T56 l i))) (by simpa using ha)
    rw [drop_get l z56 i h0 h1, List.map_cons]
    rw [show (i + 1).toNat = i.toNat + 1 by omega] at hi ⊢
    rw [set_fill acc _ i.toNat _ (by omega)] at hi
    exact hi
theorem toLegS_ev (l : List S56) (hl : l.length ≤ 1048576) : Ev (fun k => laws_toLegS.f k l) (l.map cvLeg) := by
  refine Ev.congr (fun k => by unfold laws_toLegS.f; rw [if_pos (by omega), if_pos (by omega)]) ?_
  have h := toLegS_l0_ev l hl 0 (by omega) (by omega) (List.replicate ((l.length : Int)).toNat z54) (by simp)
  simpa using h
theorem eqLegS_l0_ev (l : List S54) (hl : l.length ≤ 1048576) : ∀ i : Int, 0 ≤ i → i ≤ l.length → Ev (fun k => laws_eqLegS.l0 k l l i) true := by
  refine downI ?_ (fun i h0 h1 ih => ?_)
  · exact Ev.step (fun k => by simp only [laws_eqLegS.l0]; rw [if_neg (by omega)]) (Ev.now _)
  · refine Ev.step (fun k => by simp only [laws_eqLegS.l0, laws_eqLeg.f, if_true, Option.bind_some]; rw [if_pos h1, if_pos h0, if_pos h1, w64 (x := i + 1) (by omega) (by omega)]) ih
theorem eqLegS_ev (l : List S54) (hl : l.length ≤ 1048576) : Ev (fun k => laws_eqLegS.f k l l) true := by
  refine Ev.congr (fun k => by unfold laws_eqLegS.f; rw [if_pos rfl]) ?_
  exact eqLegS_l0_ev l hl 0 (by omega) (by omega)
/-- The bound on the size of what came in. -/
theorem szLegS_cases (l : List S56) (hl : l.length ≤ maxLen) : (l.length ≤ 1048576 ∧ laws_szLegS.f l 1048576 = some (1048576 - (l.length : Int))) ∨ laws_szLegS.f l 1048576 = some (-1) := by
  unfold maxLen at hl
  unfold laws_szLegS.f
  rw [w64 (x := 1048576 - (l.length : Int)) (by omega) (by omega)]
  by_cases h : (1048576 : Int) - l.length < 0
  · right; rw [if_pos h]
  · left; rw [if_neg h]; exact ⟨by omega, rfl⟩
theorem in_eq (a b c : Int) : spec_l1In.f a b c = some (decide (b ≤ a ∧ a ≤ c)) := by
  unfold spec_l1In.f
  by_cases h : a ≥ b
  · rw [if_pos h]; congr 1; simp; omega
  · rw [if_neg h]; congr 1; simp; omega
theorem within_eq (a b c : Int) : impl_within.f a b c = some (decide (b ≤ a ∧ a ≤ c)) := by
  unfold impl_within.f
  by_cases h : a ≥ b
  · rw [if_pos h]; congr 1; simp; omega
  · rw [if_neg h]; congr 1; simp; omega
def okLeg (x : S54) : Bool := decide (1 ≤ x.f0 ∧ x.f0 ≤ 1000) && decide (1 ≤ x.f1 ∧ x.f1 ≤ 100)
def goodLegs (l : List S54) : Bool := decide (1 ≤ (l.length : Int) ∧ (l.length : Int) ≤ 5) && l.all okLeg
theorem okLeg_iff {x : S54} : okLeg x = true ↔ (1 ≤ x.f0 ∧ x.f0 ≤ 1000) ∧ (1 ≤ x.f1 ∧ x.f1 ≤ 100) := by
  unfold okLeg; rw [Bool.and_eq_true, decide_eq_true_iff, decide_eq_true_iff]
theorem reGood_l0_ev (l : List S54) (hl : l.length ≤ 5) : ∀ i : Int, 0 ≤ i → i ≤ l.length → Ev (fun k => spec_reGood.l0 k l l.length i) ((l.drop i.toNat).all okLeg) := by
  refine downI ?_ (fun i h0 h1 ih => ?_)
  · refine Ev.step (fun k => by simp only [spec_reGood.l0]; rw [if_neg (by omega)]) ?_
    rw [List.drop_of_length_le (by omega)]
    exact Ev.now _
  · rw [drop_get l z54 i h0 h1, List.all_cons]
    refine Ev.step (f := fun k => if decide (1 ≤ (rd_T54 l i).f0 ∧ (rd_T54 l i).f0 ≤ 1000) = true then (if decide (1 ≤ (rd_T54 l i).f1 ∧ (rd_T54 l i).f1 ≤ 100) = true then spec_reGood.l0 k l l.length (i + 1) else some false) else some false) (fun k => by simp only [spec_reGood.l0, in_eq, Option.bind_some]; rw [if_pos h1, if_pos h0, if_pos h1, w64 (x := i + 1) (by omega) (by omega)]) ?_
    show Ev _ (okLeg (rd_T54 l i) && _)
    unfold okLeg
    by_cases a : decide (1 ≤ (rd_T54 l i).f0 ∧ (rd_T54 l i).f0 ≤ 1000) = true
    · by_cases b : decide (1 ≤ (rd_T54 l i).f1 ∧ (rd_T54 l i).f1 ≤ 100) = true
      · simp only [a, b, if_true, Bool.true_and]; exact ih
      · simp only [a, b, if_true, Bool.true_and, Bool.false_and, Bool.false_eq_true, if_false]; exact Ev.now _
    · simp only [a, Bool.false_and, Bool.false_eq_true, if_false]; exact Ev.now _
theorem reGood_ev (l : List S54) : Ev (fun k => spec_reGood.f k l) (goodLegs l) := by
  unfold spec_reGood.f goodLegs
  simp only [in_eq, Option.bind_some]
  by_cases h : 1 ≤ (l.length : Int) ∧ (l.length : Int) ≤ 5
  · simp only [h, and_self, decide_true, if_true, Bool.true_and]
    exact reGood_l0_ev l (by omega) 0 (by omega) (by omega)
  · simp only [h, decide_false, Bool.false_and, Bool.false_eq_true, if_false]
    exact Ev.now _
theorem areLegs_1_eq (x : S54) : impl_AreLegs_1.f x.f0 x.f1 = some (!okLeg x) := by
  unfold impl_AreLegs_1.f impl_isLong.f impl_isFast.f okLeg
  simp only [within_eq, Option.bind_some]
  by_cases a : decide (1 ≤ x.f0 ∧ x.f0 ≤ 1000) = true
  · simp [a]
  · simp [a]
theorem indexLeg_ev (l : List S54) (hl : l.length ≤ 5) : ∀ i : Int, 0 ≤ i → i ≤ l.length → ∃ r : Int, Ev (fun k => impl_Leg_87.l0 k l l.length i) r ∧ decide (r ≥ 0) = !((l.drop i.toNat).all okLeg) := by
  refine downI ?_ (fun i h0 h1 ih => ?_)
  · refine ⟨-1, Ev.step (fun k => by simp only [impl_Leg_87.l0]; rw [if_neg (by omega)]) (Ev.now _), ?_⟩
    rw [List.drop_of_length_le (by omega)]
    rfl
  · rw [drop_get l z54 i h0 h1, List.all_cons]
    have st : ∀ k, impl_Leg_87.l0 (k + 1) l l.length i = if (!okLeg (rd_T54 l i)) = true then some i else impl_Leg_87.l0 k l l.length (i + 1) := fun k => by
      simp only [impl_Leg_87.l0, areLegs_1_eq, Option.bind_some]; rw [if_pos h1, if_pos h0, if_pos h1, w64 (x := i + 1) (by omega) (by omega)]
    show ∃ r : Int, _ ∧ _ = !(okLeg (rd_T54 l i) && _)
    cases a : okLeg (rd_T54 l i)
    · exact ⟨i, Ev.step (fun k => by rw [st, a]; rfl) (Ev.now i), by simp [h0]⟩
    · obtain ⟨r, h2, h3⟩ := ih
      exact ⟨r, Ev.step (fun k => by rw [st, a]; rfl) h2, by simpa using h3⟩
theorem areLegs_ev (l : List S54) : Ev (fun k => impl_AreLegs.f k l) (goodLegs l) := by
  unfold impl_AreLegs.f goodLegs
  simp only [within_eq, Option.bind_some]
  by_cases h : 1 ≤ (l.length : Int) ∧ (l.length : Int) ≤ 5
  · simp only [h, and_self, decide_true, if_true, Bool.true_and]
    obtain ⟨r, h1, h2⟩ := indexLeg_ev l (by omega) 0 (by omega) (by omega)
    unfold impl_Leg_75.f impl_Leg_87.f
    refine Ev.bind (Ev.bind h1 (Ev.now _)) ?_
    rw [h2]
    simp only [Bool.not_not]
    exact Ev.now _
  · simp only [h, decide_false, Bool.false_and, Bool.false_eq_true, if_false]
    exact Ev.now _
theorem good_len {l : List S54} (h : goodLegs l = true) : 1 ≤ l.length ∧ l.length ≤ 5 := by
  unfold goodLegs at h
  rw [Bool.and_eq_true, decide_eq_true_iff] at h
  omega
theorem good_ok {l : List S54} (h : goodLegs l = true) : ∀ x, x ∈ l → okLeg x = true := by
  unfold goodLegs at h
  rw [Bool.and_eq_true] at h
  exact List.all_eq_true.1 h.2
/-- One leg more, joined to the last one if that has its speed. -/
def joinS (acc : List S54) (x : S54) : List S54 :=
  if acc.length > 0 ∧ (rd_T54 acc (acc.length - 1)).f1 = x.f1 then acc.set (acc.length - 1) ⟨(rd_T54 acc (acc.length - 1)).f0 + x.f0, (rd_T54 acc (acc.length - 1)).f1⟩ else acc ++ [x]
def joinL (l : List S54) : List S54 := l.foldl joinS []
/-- The joined legs so far: no longer than the legs, in all no longer than 1000 a leg. -/
def JoinOk (acc : List S54) (i : Int) : Prop := (acc.length : Int) ≤ i ∧ ∀ x, x ∈ acc → 0 ≤ x.f0 ∧ x.f0 ≤ 1000 * i
theorem rd_mem {l : List S54} {i : Int} (h0 : 0 ≤ i) (h1 : i < l.length) : rd_T54 l i ∈ l := get_mem l z54 i h0 h1
theorem joinS_ok {acc : List S54} {i : Int} (h : JoinOk acc i) (h0 : 0 ≤ i) {x : S54} (hx : okLeg x = true) : JoinOk (joinS acc x) (i + 1) := by
  obtain ⟨⟨l1, l2⟩, _⟩ := okLeg_iff.1 hx
  obtain ⟨a, b⟩ := h
  unfold joinS
  split
  · rename_i c
    refine ⟨by simp; omega, fun y hy => ?_⟩
    rcases List.mem_or_eq_of_mem_set hy with hy | rfl
    · have := b y hy; omega
    · have := b _ (rd_mem (l := acc) (i := acc.length - 1) (by omega) (by omega))
      simp only
      omega
  · refine ⟨by simp; omega, fun y hy => ?_⟩
    rcases List.mem_append.1 hy with hy | hy
    · have := b y hy; omega
    · rw [List.mem_singleton.1 hy]; omega
def joinEnd (l : List S54) : List S54 × Bool := if goodLegs l = true then (l, true) else ([], false)
theorem join_l0_ev (l : List S54) (hl : l.length ≤ 5) (ok : ∀ x, x ∈ l → okLeg x = true) : ∀ i : Int, 0 ≤ i → i ≤ l.length → ∀ acc : List S54, JoinOk acc i →
    Ev (fun k => spec_JoinLegs.l0 k acc l l.length i) (joinEnd ((l.drop i.toNat).foldl joinS acc)) ∧ Ev (fun k => impl_JoinLegs.l0 k acc l l.length i) (joinEnd ((l.drop i.toNat).foldl joinS acc)) := by
  refine downI (fun acc ha => ?_) (fun i h0 h1 ih acc ha => ?_)
  · rw [List.drop_of_length_le (by omega), List.foldl_nil]
    unfold joinEnd
    refine ⟨Ev.step (fun k => by simp only [spec_JoinLegs.l0]; rw [if_neg (by omega)]) (Ev.bind (reGood_ev acc) ?_), Ev.step (fun k => by simp only [impl_JoinLegs.l0]; rw [if_neg (by omega)]) (Ev.bind (areLegs_ev acc) ?_)⟩
    · cases goodLegs acc <;> exact Ev.now _
    · cases goodLegs acc <;> exact Ev.now _
  · have hx := ok _ (get_mem l z54 i h0 h1)
    have nx := ih _ (joinS_ok ha h0 hx)
    have hx' := okLeg_iff.1 hx
    rw [drop_get l z54 i h0 h1, List.foldl_cons]
    have w1 : wrap64 (i + 1) = i + 1 := w64 (by omega) (by omega)
    obtain ⟨a, b⟩ := ha
    have wl : wrap64 ((acc.length : Int) - 1) = (acc.length : Int) - 1 := w64 (by omega) (by omega)
    change _ ∧ _ at nx
    by_cases c1 : (acc.length : Int) > 0
    · have bm := b _ (rd_mem (l := acc) (i := acc.length - 1) (by omega) (by omega))
      by_cases c2 : (rd_T54 acc (acc.length - 1)).f1 = (rd_T54 l i).f1
      · have e : joinS acc (l.getD i.toNat z54) = acc.set ((acc.length : Int) - 1).toNat ⟨(rd_T54 acc (acc.length - 1)).f0 + (rd_T54 l i).f0, (rd_T54 acc (acc.length - 1)).f1⟩ := by
          unfold joinS
          rw [if_pos ⟨by omega, c2⟩, show ((acc.length : Int) - 1).toNat = acc.length - 1 by omega]
          rfl
        have wv : wrap64 ((rd_T54 acc (acc.length - 1)).f0 + (rd_T54 l i).f0) = (rd_T54 acc (acc.length - 1)).f0 + (rd_T54 l i).f0 := by
          change (1 ≤ (rd_T54 l i).f0 ∧ (rd_T54 l i).f0 ≤ 1000) ∧ _ at hx'
          exact w64 (by omega) (by omega)
        rw [e] at nx ⊢
        refine ⟨Ev.step (fun k => by simp only [spec_JoinLegs.l0]; rw [if_pos h1, if_pos h0, if_pos h1, if_pos c1, wl, if_pos (by omega), if_pos (by omega), if_pos c2, wv, w1]) nx.1, Ev.step (fun k => by simp only [impl_JoinLegs.l0]; rw [if_pos h1, if_pos h0, if_pos h1, if_pos c1, wl, if_pos (by omega), if_pos (by omega), if_pos c2, wv, w1]) nx.2⟩
      · have e : joinS acc (l.getD i.toNat z54) = acc ++ [⟨(rd_T54 l i).f0, (rd_T54 l i).f1⟩] := by
          unfold joinS
          rw [if_neg (fun q => c2 q.2)]
          rfl
        rw [e] at nx ⊢
        refine ⟨Ev.step (fun k => by simp only [spec_JoinLegs.l0]; rw [if_pos h1, if_pos h0, if_pos h1, if_pos c1, wl, if_pos (by omega), if_pos (by omega), if_neg c2, if_pos (by omega), w1]) nx.1, Ev.step (fun k => by simp only [impl_JoinLegs.l0]; rw [if_pos h1, if_pos h0, if_pos h1, if_pos c1, wl, if_pos (by omega), if_pos (by omega), if_neg c2, if_pos (by omega), w1]) nx.2⟩
    · have e : joinS acc (l.getD i.toNat z54) = acc ++ [⟨(rd_T54 l i).f0, (rd_T54 l i).f1⟩] := by
        unfold joinS
        rw [if_neg (fun q => c1 (by have := q.1; omega))]
        rfl
      rw [e] at nx ⊢
      refine ⟨Ev.step (fun k => by simp only [spec_JoinLegs.l0]; rw [if_pos h1, if_pos h0, if_pos h1, if_neg c1, if_pos (by omega), w1]) nx.1, Ev.step (fun k => by simp only [impl_JoinLegs.l0]; rw [if_pos h1, if_pos h0, if_pos h1, if_neg c1, if_pos (by omega), w1]) nx.2⟩
def JoinR (l : List S54) : List S54 × Bool := if goodLegs l = true then joinEnd (joinL l) else ([], false)
theorem joinLegs_ev (l : List S54) : Ev (fun k => spec_JoinLegs.f k l) (JoinR l) ∧ Ev (fun k => impl_JoinLegs.f k l) (JoinR l) ∧ (JoinR l).1.length ≤ 5 := by
  unfold JoinR
  cases g : goodLegs l with
  | true =>
    have hl := good_len g
    obtain ⟨a1, a2⟩ := join_l0_ev l hl.2 (good_ok g) 0 (by omega) (by omega) [] ⟨by simp, by simp⟩
    refine ⟨Ev.bind (reGood_ev l) (by rw [g]; exact a1), Ev.bind (areLegs_ev l) (by rw [g]; exact a2), ?_⟩
    simp only [if_true]
    unfold joinEnd
    split
    · rename_i h; exact (good_len h).2
    · simp
  | false => exact ⟨Ev.bind (reGood_ev l) (by rw [g]; exact Ev.now _), Ev.bind (areLegs_ev l) (by rw [g]; exact Ev.now _), by simp⟩
/-- Legs marked from m on. -/
def legsFrom (m : Int) : Nat → List S54
  | 0 => []
  | n + 1 => ⟨m, m + 1⟩ :: legsFrom (m + 2) n
theorem legsFrom_length : ∀ (n : Nat) (m : Int), (legsFrom m n).length = n := by
  intro n
  induction n with
  | zero => intro m; rfl
  | succ n ih => intro m; simp [legsFrom, ih]
theorem markLegS_l0_ev : ∀ (d : Nat) (x : List S54) (m i : Int), 0 ≤ i → (x.length : Int) - i = d → x.length ≤ 1048576 → 0 ≤ m → m + 2 * d ≤ 1000000000000 → Ev (fun k => laws_markLegS.l0 k x m i) (m + 2 * d, x.take i.toNat ++ legsFrom m d) := by
  intro d
  induction d with
  | zero =>
    intro x m i h0 hd hl _ _
    refine Ev.step (fun k => by simp only [laws_markLegS.l0]; rw [if_neg (by omega)]) ?_
    rw [List.take_of_length_le (by omega)]
    simp only [legsFrom, List.append_nil]
    have : m + 2 * ((0 : Nat) : Int) = m := by omega
    rw [this]
    exact Ev.now _
  | succ d ih =>
    intro x m i h0 hd hl hm hm2
    have hi : i.toNat < x.length := by omega
    have e : ((x.set i.toNat (⟨m, (rd_T54 x i).f1⟩ : S54)).set i.toNat (⟨(rd_T54 (x.set i.toNat (⟨m, (rd_T54 x i).f1⟩ : S54)) i).f0, m + 1⟩ : S54)) = x.set i.toNat ⟨m, m + 1⟩ := by
      rw [List.set_set]
      congr 1
      unfold rd_T54
      rw [List.getD_eq_getElem?_getD, List.getElem?_set_self hi]
      rfl
    refine Ev.step (fun k => by simp only [laws_markLegS.l0, Option.bind_some]; rw [if_pos (by omega), if_pos h0, w64 (x := m + 1) (by omega) (by omega), w64 (x := m + 1 + 1) (by omega) (by omega), w64 (x := i + 1) (by omega) (by omega), e]) ?_
    have h := ih (x.set i.toNat ⟨m, m + 1⟩) (m + 2) (i + 1) (by omega) (by simp; omega) (by simpa using hl) (by omega) (by omega)
    rw [show (i + 1).toNat = i.toNat + 1 by omega, set_fill x (legsFrom (m + 2) d) i.toNat _ hi] at h
    rw [show m + 2 * ((d + 1 : Nat) : Int) = m + 2 + 2 * (d : Int) by omega, show m + 1 + 1 = m + 2 by omega]
    exact h
theorem heldLegS_l0_ev : ∀ (d : Nat) (x : List S54) (m i : Int), 0 ≤ i → x.length ≤ 1048576 → x.drop i.toNat = legsFrom m d → (x.length : Int) - i = d → 0 ≤ m → m + 2 * d ≤ 1000000000000 → Ev (fun k => laws_heldLegS.l0 k x m i) (m + 2 * d) := by
  intro d
  induction d with
  | zero =>
    intro x m i h0 hl hx hd _ _
    refine Ev.step (fun k => by simp only [laws_heldLegS.l0]; rw [if_neg (by omega)]) ?_
    have : m + 2 * ((0 : Nat) : Int) = m := by omega
    rw [this]
    exact Ev.now _
  | succ d ih =>
    intro x m i h0 hl hx hd hm hm2
    have hi : i < (x.length : Int) := by omega
    rw [drop_get x z54 i h0 hi] at hx
    simp only [legsFrom, List.cons.injEq] at hx
    have e : rd_T54 x i = ⟨m, m + 1⟩ := hx.1
    refine Ev.step (fun k => by simp only [laws_heldLegS.l0, e]; rw [if_pos hi, if_pos h0, if_pos trivial, w64 (x := m + 1) (by omega) (by omega), if_pos rfl, w64 (x := m + 1 + 1) (by omega) (by omega), w64 (x := i + 1) (by omega) (by omega)]) ?_
    rw [show m + 2 * ((d + 1 : Nat) : Int) = m + 2 + 2 * (d : Int) by omega, show m + 1 + 1 = m + 2 by omega]
    exact ih x (m + 2) (i + 1) (by omega) hl hx.2 (by omega) (by omega) (by omega)
theorem markLegS_ev (x : List S54) (hl : x.length ≤ 1048576) : Ev (fun k => laws_markLegS.f k x 1) (1 + 2 * x.length, legsFrom 1 x.length) := by
  unfold laws_markLegS.f
  have h := markLegS_l0_ev x.length x 1 0 (by omega) (by omega) hl (by omega) (by omega)
  simpa using h
theorem heldLegS_ev (n : Nat) (hl : n ≤ 1048576) : Ev (fun k => laws_heldLegS.f k (legsFrom 1 n) 1) (1 + 2 * n) := by
  unfold laws_heldLegS.f
  have h := heldLegS_l0_ev n (legsFrom 1 n) 1 0 (by omega) (by rw [legsFrom_length]; exact hl) (by simp) (by rw [legsFrom_length]; omega) (by omega) (by omega)
  simpa using h
theorem FnExactJoinLegs : laws_FnExactJoinLegs.Pure := by
  intro l hl
  refine Ev.rounds ?_
  unfold laws_FnExactJoinLegs.f
  rcases szLegS_cases l hl with ⟨hs, h⟩ | h
  · simp only [h, Option.bind_some, if_neg (show ¬ ((1048576 : Int) - l.length < 0) by omega)]
    have hs' : (l.map cvLeg).length ≤ 1048576 := by simpa using hs
    obtain ⟨a1, a2, a3⟩ := joinLegs_ev (l.map cvLeg)
    generalize JoinR (l.map cvLeg) = r at *
    refine Ev.bind (toLegS_ev l hs) (Ev.bind a1 (Ev.bind (toLegS_ev l hs) (Ev.bind a2 (Ev.bind (eqLegS_ev r.1 (by omega)) ?_))))
    simp only [bne_self_eq_false, if_true]
    refine Ev.step (fun k => by simp only [laws_FnExactJoinLegs.j0]; rw [if_neg (by simp)]) ?_
    refine Ev.bind (toLegS_ev l hs) (Ev.bind (eqLegS_ev _ hs') ?_)
    simp only [if_true]
    refine Ev.bind (markLegS_ev _ hs') ?_
    simp only [if_neg (show ¬ ((1 : Int) + 2 * (l.map cvLeg).length < 0) by omega)]
    refine Ev.bind (eqLegS_ev r.1 (by omega)) ?_
    simp only [bne_self_eq_false, if_true]
    refine Ev.step (fun k => by simp only [laws_FnExactJoinLegs.j1]; rw [if_neg (by simp)]) ?_
    refine Ev.bind (markLegS_ev r.1 (by omega)) (Ev.bind (heldLegS_ev r.1.length (by omega)) ?_)
    simp only [if_neg (show ¬ ((1 : Int) + 2 * r.1.length < 0) by omega), if_true]
    refine Ev.bind (toLegS_ev l hs) (Ev.bind a2 (Ev.bind (eqLegS_ev r.1 (by omega)) ?_))
    simp only [bne_self_eq_false, if_true]
    refine Ev.step (fun k => by simp only [laws_FnExactJoinLegs.j2]; rw [if_neg (by simp)]) ?_
    refine Ev.bind (heldLegS_ev r.1.length (by omega)) ?_
    simp only [if_neg (show ¬ ((1 : Int) + 2 * r.1.length < 0) by omega), if_true]
    exact Ev.now _
  · simp only [h, Option.bind_some]
    exact Ev.now _
end Go.Proofs.Ytgcmoeokhinjdaa.Pure
