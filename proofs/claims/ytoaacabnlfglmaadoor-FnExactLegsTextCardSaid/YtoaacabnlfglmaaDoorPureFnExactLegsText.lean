/- The program's LegsText returns what the reference's LegsText returns, for all arguments. No conditions. -/
import Derived.Test.YtoaacabnlfglmaaDoorQUx4
import Derived.Test.YtoaacabnlfglmaaDoorPlain
set_option linter.unusedVariables false
set_option linter.unusedSimpArgs false
namespace Go.Proofs.YtoaacabnlfglmaaDoor.Pure
open Go.RowKit Go.Proofs.YtoaacabnlfglmaaDoor.QU Go.Proofs.YtoaacabnlfglmaaDoorW.PrintWords Go.Proofs.YtoaacabnlfglmaaDoorW.PrintLast Go.Proofs.YtoaacabnlfglmaaDoorW.PrintMore Go.Proofs.YtoaacabnlfglmaaDoor.Plain
theorem w64 {x : Int} (h1 : -9223372036854775808 ≤ x) (h2 : x ≤ 9223372036854775807) : wrap64 x = x := by unfold wrap64; omega
def cvLeg (x : S63) : S61 := ⟨x.f0, x.f1⟩
theorem toLegS_l0_ev (l : List S63) (hl : l.length ≤ 1048576) : ∀ i : Int, 0 ≤ i → i ≤ l.length → ∀ acc : List S61, acc.length = l.length → Ev (fun k => laws_toLegS.l0 k l acc i) (acc.take i.toNat ++ (l.drop i.toNat).map cvLeg) := by
  refine downI (fun acc ha => ?_) (fun i h0 h1 ih acc ha => ?_)
  · refine Ev.step (fun k => by simp only [laws_toLegS.l0]; rw [if_neg (by omega)]) ?_
    rw [List.take_of_length_le (by omega), List.drop_of_length_le (by omega), List.map_nil, List.append_nil]
    exact Ev.now _
  · refine Ev.step (fun k => by simp only [laws_toLegS.l0]; rw [if_pos h1, if_pos h0, laws_toLeg.f, Option.bind_some, if_pos (by omega), w64 (x := i + 1) (by omega) (by omega)]) ?_
    have hi := ih (acc.set i.toNat (cvLeg (rd_T63 l i))) (by simpa using ha)
    rw [drop_get l z63 i h0 h1, List.map_cons]
    rw [show (i + 1).toNat = i.toNat + 1 by omega] at hi ⊢
    rw [set_fill acc _ i.toNat _ (by omega)] at hi
    exact hi
theorem toLegS_ev (l : List S63) (hl : l.length ≤ 1048576) : Ev (fun k => laws_toLegS.f k l) (l.map cvLeg) := by
  refine Ev.congr (fun k => by unfold laws_toLegS.f; rw [if_pos (by omega), if_pos (by omega)]) ?_
  have h := toLegS_l0_ev l hl 0 (by omega) (by omega) (List.replicate ((l.length : Int)).toNat z61) (by simp)
  simpa using h
theorem eqLegS_l0_ev (l : List S61) (hl : l.length ≤ 1048576) : ∀ i : Int, 0 ≤ i → i ≤ l.length → Ev (fun k => laws_eqLegS.l0 k l l i) true := by
  refine downI ?_ (fun i h0 h1 ih => ?_)
  · exact Ev.step (fun k => by simp only [laws_eqLegS.l0]; rw [if_neg (by omega)]) (Ev.now _)
  · refine Ev.step (fun k => by simp only [laws_eqLegS.l0, laws_eqLeg.f, if_true, Option.bind_some]; rw [if_pos h1, if_pos h0, if_pos h1, w64 (x := i + 1) (by omega) (by omega)]) ih
theorem eqLegS_ev (l : List S61) (hl : l.length ≤ 1048576) : Ev (fun k => laws_eqLegS.f k l l) true := by
  refine Ev.congr (fun k => by unfold laws_eqLegS.f; rw [if_pos rfl]) ?_
  exact eqLegS_l0_ev l hl 0 (by omega) (by omega)
/-- The bound on the size of what came in. -/
theorem szLegS_cases (l : List S63) (hl : l.length ≤ maxLen) : (l.length ≤ 1048576 ∧ laws_szLegS.f l 1048576 = some (1048576 - (l.length : Int))) ∨ laws_szLegS.f l 1048576 = some (-1) := by
  unfold maxLen at hl
  unfold laws_szLegS.f
  rw [w64 (x := 1048576 - (l.length : Int)) (by omega) (by omega)]
  by_cases h : (1048576 : Int) - l.length < 0
  · right; rw [if_pos h]
  · left; rw [if_neg h]; exact ⟨by omega, rfl⟩
theorem in_eq (a b c : Int) : spec_l1In.f a b c = some (decide (b ≤ a ∧ a ≤ c)) := by
  unfold spec_l1In.f
  by_cases h : a ≥ b
  · rw [if_pos h]; congr 1; simp; omega
  · rw [if_neg h]; congr 1; simp; omega
theorem within_eq (a b c : Int) : impl_within.f a b c = some (decide (b ≤ a ∧ a ≤ c)) := by
  unfold impl_within.f
  by_cases h : a ≥ b
  · rw [if_pos h]; congr 1; simp; omega
  · rw [if_neg h]; congr 1; simp; omega
def okLeg (x : S61) : Bool := decide (1 ≤ x.f0 ∧ x.f0 ≤ 1000) && decide (1 ≤ x.f1 ∧ x.f1 ≤ 100)
def goodLegs (l : List S61) : Bool := decide (1 ≤ (l.length : Int) ∧ (l.length : Int) ≤ 5) && l.all okLeg
theorem okLeg_iff {x : S61} : okLeg x = true ↔ (1 ≤ x.f0 ∧ x.f0 ≤ 1000) ∧ (1 ≤ x.f1 ∧ x.f1 ≤ 100) := by
  unfold okLeg; rw [Bool.and_eq_true, decide_eq_true_iff, decide_eq_true_iff]
theorem reGood_l0_ev (l : List S61) (hl : l.length ≤ 5) : ∀ i : Int, 0 ≤ i → i ≤ l.length → Ev (fun k => spec_reGood.l0 k l l.length i) ((l.drop i.toNat).all okLeg) := by
  refine downI ?_ (fun i h0 h1 ih => ?_)
  · refine Ev.step (fun k => by simp only [spec_reGood.l0]; rw [if_neg (by omega)]) ?_
    rw [List.drop_of_length_le (by omega)]
    exact Ev.now _
  · rw [drop_get l z61 i h0 h1, List.all_cons]
    refine Ev.step (f := fun k => if decide (1 ≤ (rd_T61 l i).f0 ∧ (rd_T61 l i).f0 ≤ 1000) = true then (if decide (1 ≤ (rd_T61 l i).f1 ∧ (rd_T61 l i).f1 ≤ 100) = true then spec_reGood.l0 k l l.length (i + 1) else some false) else some false) (fun k => by simp only [spec_reGood.l0, in_eq, Option.bind_some]; rw [if_pos h1, if_pos h0, if_pos h1, w64 (x := i + 1) (by omega) (by omega)]) ?_
    show Ev _ (okLeg (rd_T61 l i) && _)
    unfold okLeg
    by_cases a : decide (1 ≤ (rd_T61 l i).f0 ∧ (rd_T61 l i).f0 ≤ 1000) = true
    · by_cases b : decide (1 ≤ (rd_T61 l i).f1 ∧ (rd_T61 l i).f1 ≤ 100) = true
      · simp only [a, b, if_true, Bool.true_and]; exact ih
      · simp only [a, b, if_true, Bool.true_and, Bool.false_and, Bool.false_eq_true, if_false]; exact Ev.now _
    · simp only [a, Bool.false_and, Bool.false_eq_true, if_false]; exact Ev.now _
theorem reGood_ev (l : List S61) : Ev (fun k => spec_reGood.f k l) (goodLegs l) := by
  unfold spec_reGood.f goodLegs
  simp only [in_eq, Option.bind_some]
  by_cases h : 1 ≤ (l.length : Int) ∧ (l.length : Int) ≤ 5
  · simp only [h, and_self, decide_true, if_true, Bool.true_and]
    exact reGood_l0_ev l (by omega) 0 (by omega) (by omega)
  · simp only [h, decide_false, Bool.false_and, Bool.false_eq_true, if_false]
    exact Ev.now _
theorem areLegs_1_eq (x : S61) : impl_AreLegs_1.f x.f0 x.f1 = some (!okLeg x) := by
  unfold impl_AreLegs_1.f impl_isLong.f impl_isFast.f okLeg
  simp only [within_eq, Option.bind_some]
  by_cases a : decide (1 ≤ x.f0 ∧ x.f0 ≤ 1000) = true
  · simp [a]
  · simp [a]
theorem indexLeg_ev (l : List S61) (hl : l.length ≤ 5) : ∀ i : Int, 0 ≤ i → i ≤ l.length → ∃ r : Int, Ev (fun k => impl_Leg_78.l0 k l l.length i) r ∧ decide (r ≥ 0) = !((l.drop i.toNat).all okLeg) := by
  refine downI ?_ (fun i h0 h1 ih => ?_)
  · refine ⟨-1, Ev.step (fun k => by simp only [impl_Leg_78.l0]; rw [if_neg (by omega)]) (Ev.now _), ?_⟩
    rw [List.drop_of_length_le (by omega)]
    rfl
  · rw [drop_get l z61 i h0 h1, List.all_cons]
    have st : ∀ k, impl_Leg_78.l0 (k + 1) l l.length i = if (!okLeg (rd_T61 l i)) = true then some i else impl_Leg_78.l0 k l l.length (i + 1) := fun k => by
      simp only [impl_Leg_78.l0, areLegs_1_eq, Option.bind_some]; rw [if_pos h1, if_pos h0, if_pos h1, w64 (x := i + 1) (by omega) (by omega)]
    show ∃ r : Int, _ ∧ _ = !(okLeg (rd_T61 l i) && _)
    cases a : okLeg (rd_T61 l i)
    · exact ⟨i, Ev.step (fun k => by rw [st, a]; rfl) (Ev.now i), by simp [h0]⟩
    · obtain ⟨r, h2, h3⟩ := ih
      exact ⟨r, Ev.step (fun k => by rw [st, a]; rfl) h2, by simpa using h3⟩
theorem areLegs_ev (l : List S61) : Ev (fun k => impl_AreLegs.f k l) (goodLegs l) := by
  unfold impl_AreLegs.f goodLegs
  simp only [within_eq, Option.bind_some]
  by_cases h : 1 ≤ (l.length : Int) ∧ (l.length : Int) ≤ 5
  · simp only [h, and_self, decide_true, if_true, Bool.true_and]
    obtain ⟨r, h1, h2⟩ := indexLeg_ev l (by omega) 0 (by omega) (by omega)
    unfold impl_Leg_64.f impl_Leg_78.f
    refine Ev.bind (Ev.bind h1 (Ev.now _)) ?_
    rw [h2]
    simp only [Bool.not_not]
    exact Ev.now _
  · simp only [h, decide_false, Bool.false_and, Bool.false_eq_true, if_false]
    exact Ev.now _
theorem decDigits_len : ∀ n : Nat, (Lib.decDigits n).length ≤ n + 1 := by
  intro n
  induction n using Nat.strongRecOn with
  | ind n ih =>
    rw [Lib.decDigits]
    split
    · simp
    · next h =>
      have := ih (n / 10) (by omega)
      simp
      omega
theorem ba_append (a b : List UInt8) : (⟨a.toArray⟩ : ByteArray) ++ ⟨b.toArray⟩ = ⟨(a ++ b).toArray⟩ := by
  apply ByteArray.ext
  simp
theorem ba_size (a : List UInt8) : (⟨a.toArray⟩ : ByteArray).size = a.length := by
  simp [ByteArray.size]
theorem digit_str (d : Nat) (h : d < 10) : strOfNums [(wrap64 (48 + (d : Int))) % 256] = ⟨([UInt8.ofNat (48 + d)] : List UInt8).toArray⟩ := by
  unfold strOfNums
  rw [w64 (by omega) (by omega), show (48 + (d : Int)) % 256 = ((48 + d : Nat) : Int) by omega]
  rw [List.map_cons, List.map_nil, Int.toNat_natCast]
theorem l1Num_ev : ∀ n : Nat, n ≤ 1000000000000000 → Ev (fun k => spec_l1Num.f k (n : Int)) (⟨(Lib.decDigits n).toArray⟩ : ByteArray) := by
  intro n
  induction n using Nat.strongRecOn with
  | ind n ih =>
    intro hn
    rw [Lib.decDigits]
    split
    · next h =>
      refine Ev.step (fun k => by simp only [spec_l1Num.f]; rw [if_pos (by omega), digit_str n h]) (Ev.now _)
    · next h =>
      have e1 : wrap64 (Int.tdiv (n : Int) 10) = ((n / 10 : Nat) : Int) := by
        have h1 : Int.tdiv (n : Int) 10 = ((n / 10 : Nat) : Int) := by rw [Int.tdiv_eq_ediv_of_nonneg (by omega)]; omega
        rw [h1, w64 (by omega) (by omega)]
      have e2 : Int.tmod (n : Int) 10 = ((n % 10 : Nat) : Int) := by rw [Int.tmod_eq_emod_of_nonneg (by omega)]; omega
      have hl := decDigits_len (n / 10)
      refine Ev.step (f := fun k => (spec_l1Num.f k ((n / 10 : Nat) : Int)).bind fun t107 => (if t107.size + ((⟨([UInt8.ofNat (48 + n % 10)] : List UInt8).toArray⟩ : ByteArray)).size ≤ 9223372036854775807 then (some (t107 ++ (⟨([UInt8.ofNat (48 + n % 10)] : List UInt8).toArray⟩ : ByteArray))) else none)) (fun k => by simp only [spec_l1Num.f, Option.bind_some]; rw [if_neg (by omega), e1, e2, digit_str (n % 10) (by omega)]) ?_
      refine Ev.bind (ih (n / 10) (by omega) (by omega)) ?_
      refine Ev.congr (fun k => by rw [ba_size, ba_size, if_pos (by simp; omega), ba_append]) (Ev.now _)
theorem itoa_nat (n : Nat) : Lib.itoa (n : Int) = Lib.decDigits n := by
  unfold Lib.itoa
  rw [if_neg (by omega), Int.toNat_natCast]
/-- A number's text, as both tell it. -/
def txt (n : Int) : ByteArray := ⟨(Lib.itoa n).toArray⟩
theorem l1Num_txt (n : Int) (h0 : 0 ≤ n) (h1 : n ≤ 1000000000000000) : Ev (fun k => spec_l1Num.f k n) (txt n) := by
  obtain ⟨m, rfl⟩ := Int.eq_ofNat_of_zero_le h0
  unfold txt
  rw [itoa_nat]
  exact l1Num_ev m (by omega)
theorem txt_size (n : Int) (h0 : 0 ≤ n) : (txt n).size ≤ n.toNat + 1 := by
  obtain ⟨m, rfl⟩ := Int.eq_ofNat_of_zero_le h0
  unfold txt
  rw [itoa_nat, ba_size]
  exact decDigits_len m
theorem itoa_len (n : Int) (h0 : 0 ≤ n) : (Lib.itoa n).length ≤ n.toNat + 1 := by
  have := txt_size n h0
  unfold txt at this
  rwa [ba_size] at this
theorem itoa_ev (n : Int) (h0 : -9223372036854775808 ≤ n) (h1 : n ≤ 9223372036854775807) : strconv_Itoa.f n = some (txt n) := by
  unfold strconv_Itoa.f
  rw [if_pos ⟨h0, h1⟩]
  rfl
theorem joinNums_l0_ev (s : ByteArray) (l : List Int) (hl : l.length ≤ 1048576) (hr : ∀ x, x ∈ l → 0 ≤ x ∧ x ≤ 1000000000) (hj : (Lib.join (l.map Lib.itoa) s.data.toList).length ≤ 140737488355328) : ∀ i : Int, 0 ≤ i → i ≤ l.length → ∀ acc : List ByteArray, acc.length = l.length → acc.take i.toNat = (l.map txt).take i.toNat → Ev (fun k => impl_joinNumbers.l0 k s acc l l.length i) (⟨(Lib.join (l.map Lib.itoa) s.data.toList).toArray⟩ : ByteArray) := by
  refine downI (fun acc ha ht => ?_) (fun i h0 h1 ih acc ha ht => ?_)
  · have e : acc = l.map txt := by
      rw [List.take_of_length_le (by omega), List.take_of_length_le (by simp)] at ht
      exact ht
    have e2 : (l.map txt).map (fun (x : ByteArray) => x.data.toList) = l.map Lib.itoa := by
      rw [List.map_map]
      rfl
    refine Ev.step (fun k => by simp only [impl_joinNumbers.l0]; rw [if_neg (by omega), strings_Join.f, e, e2, if_pos ⟨by simp; omega, hj⟩]; rfl) (Ev.now _)
  · have hx := hr _ (get_mem l 0 i h0 h1)
    change 0 ≤ rd l i ∧ rd l i ≤ 1000000000 at hx
    refine Ev.step (fun k => by simp only [impl_joinNumbers.l0]; rw [if_pos h1, if_pos h0, if_pos h1, itoa_ev _ (by omega) (by omega), Option.bind_some, if_pos (by omega), w64 (x := i + 1) (by omega) (by omega)]) (ih (acc.set i.toNat (txt (rd l i))) (by simpa using ha) ?_)
    have hg : (l.map txt)[i.toNat]? = some (txt (rd l i)) := by
      rw [List.getElem?_map, List.getElem?_eq_getElem (show i.toNat < l.length by omega)]
      unfold rd
      rw [List.getD_eq_getElem?_getD, List.getElem?_eq_getElem (show i.toNat < l.length by omega)]
      rfl
    rw [show (i + 1).toNat = i.toNat + 1 by omega, List.take_succ_eq_append_getElem (by rw [List.length_set]; omega), List.getElem_set_self, List.take_set_of_le (Nat.le_refl _), ht, List.take_add_one, hg]
    rfl
theorem joinNums_ev (s : ByteArray) (l : List Int) (hl : l.length ≤ 1048576) (hr : ∀ x, x ∈ l → 0 ≤ x ∧ x ≤ 1000000000) (hj : (Lib.join (l.map Lib.itoa) s.data.toList).length ≤ 140737488355328) : Ev (fun k => impl_joinNumbers.f k l s) (⟨(Lib.join (l.map Lib.itoa) s.data.toList).toArray⟩ : ByteArray) := by
  unfold impl_joinNumbers.f
  refine Ev.congr (fun k => by rw [if_pos (by omega), if_pos (by omega)]) ?_
  exact joinNums_l0_ev s l hl hr hj 0 (by omega) (by omega) _ (by simp) (by simp)
/-- Two numbers with a text between them. -/
def txt2 (s : List UInt8) (a b : Int) : List UInt8 := Lib.itoa a ++ (s ++ Lib.itoa b)
theorem joinNums2_ev (s : ByteArray) (hs : s.size ≤ 1000) (a b : Int) (ha : 0 ≤ a ∧ a ≤ 1000000000) (hb : 0 ≤ b ∧ b ≤ 1000000000) : Ev (fun k => impl_joinNumbers.f k [a, b] s) (⟨(txt2 s.data.toList a b).toArray⟩ : ByteArray) := by
  have e : Lib.join ([a, b].map Lib.itoa) s.data.toList = txt2 s.data.toList a b := by
    unfold txt2
    rw [List.map_cons, List.map_cons, List.map_nil, Lib.join_cons]
    simp [Lib.joinTail]
  have la := itoa_len a ha.1
  have lb := itoa_len b hb.1
  have ls : s.data.toList.length = s.size := Array.length_toList
  have h := joinNums_ev s [a, b] (by simp) (fun x hx => by
    rcases List.mem_cons.1 hx with rfl | hx
    · exact ha
    · rw [List.mem_singleton.1 hx]; exact hb) (by rw [e]; unfold txt2; simp only [List.length_append]; omega)
  rw [e] at h
  exact h
theorem join_snoc (xs : List (List UInt8)) (x sep : List UInt8) (h : xs ≠ []) : Lib.join (xs ++ [x]) sep = Lib.join xs sep ++ sep ++ x := by
  cases xs with
  | nil => exact absurd rfl h
  | cons y ys =>
    rw [List.cons_append, Lib.join_cons, Lib.join_cons]
    simp [Lib.joinTail, List.append_assoc]
theorem joinTail_len (M : Nat) (sep : List UInt8) : ∀ xs : List (List UInt8), (∀ x, x ∈ xs → x.length ≤ M) → (Lib.joinTail sep xs).length ≤ xs.length * (M + sep.length) := by
  intro xs
  induction xs with
  | nil => intro _; simp [Lib.joinTail]
  | cons y ys ih =>
    intro h
    have h1 := ih (fun x hx => h x (List.mem_cons_of_mem _ hx))
    have h2 := h y List.mem_cons_self
    have e : Lib.joinTail sep (y :: ys) = sep ++ y ++ Lib.joinTail sep ys := by simp [Lib.joinTail]
    rw [e, List.length_append, List.length_append, List.length_cons, Nat.succ_mul]
    omega
theorem join_len (M : Nat) (sep : List UInt8) (xs : List (List UInt8)) (h : ∀ x, x ∈ xs → x.length ≤ M) : (Lib.join xs sep).length ≤ xs.length * (M + sep.length) := by
  cases xs with
  | nil => simp [Lib.join_nil]
  | cons y ys =>
    have h1 := joinTail_len M sep ys (fun x hx => h x (List.mem_cons_of_mem _ hx))
    have h2 := h y List.mem_cons_self
    rw [Lib.join_cons, List.length_append, List.length_cons, Nat.succ_mul]
    omega
/-- A leg's text, as both tell it. -/
def legT (x : S61) : List UInt8 := txt2 [47] x.f0 x.f1
theorem legT_len {x : S61} (h : okLeg x = true) : (legT x).length ≤ 1103 := by
  have h := okLeg_iff.1 h
  have la := itoa_len x.f0 (by omega)
  have lb := itoa_len x.f1 (by omega)
  unfold legT txt2
  simp only [List.length_append, List.length_cons, List.length_nil]
  omega
theorem legTs_take (l : List S61) (i : Int) (h0 : 0 ≤ i) (h1 : i < l.length) : (l.map legT).take (i + 1).toNat = (l.map legT).take i.toNat ++ [legT (rd_T61 l i)] := by
  rw [show (i + 1).toNat = i.toNat + 1 by omega, List.take_add_one]
  have hg : (l.map legT)[i.toNat]? = some (legT (rd_T61 l i)) := by
    rw [List.getElem?_map, List.getElem?_eq_getElem (show i.toNat < l.length by omega)]
    unfold rd_T61
    rw [List.getD_eq_getElem?_getD, List.getElem?_eq_getElem (show i.toNat < l.length by omega)]
    rfl
  rw [hg]
  rfl
theorem legsJ_len (l : List S61) (hl : l.length ≤ 5) (hg : l.all okLeg = true) (n : Nat) : (Lib.join ((l.map legT).take n) [43]).length ≤ 5520 := by
  have h := join_len 1103 [43] ((l.map legT).take n) (fun x hx => by
    obtain ⟨y, hy, rfl⟩ := List.mem_map.1 (List.mem_of_mem_take hx)
    exact legT_len (List.all_eq_true.1 hg y hy))
  have h2 : ((l.map legT).take n).length ≤ 5 := by
    rw [List.length_take, List.length_map]; omega
  have h3 : ((l.map legT).take n).length * (1103 + ([43] : List UInt8).length) ≤ 5 * (1103 + ([43] : List UInt8).length) := Nat.mul_le_mul_right _ h2
  simp only [List.length_cons, List.length_nil] at h h3
  omega
theorem legTxt (x : S61) : (txt x.f0 ++ (⟨#[47]⟩ : ByteArray)) ++ txt x.f1 = ⟨(legT x).toArray⟩ := by
  unfold txt legT txt2
  rw [show (⟨#[47]⟩ : ByteArray) = ⟨([47] : List UInt8).toArray⟩ from rfl, ba_append, ba_append, List.append_assoc]
theorem reText_l0_ev (l : List S61) (hl : l.length ≤ 5) (hg : l.all okLeg = true) : ∀ i : Int, 0 ≤ i → i ≤ l.length → Ev (fun k => spec_reText.l0 k (⟨(Lib.join ((l.map legT).take i.toNat) [43]).toArray⟩ : ByteArray) l l.length i) (⟨(Lib.join (l.map legT) [43]).toArray⟩ : ByteArray) := by
  refine downI ?_ (fun i h0 h1 ih => ?_)
  · refine Ev.step (fun k => by simp only [spec_reText.l0]; rw [if_neg (by omega)]) ?_
    rw [List.take_of_length_le (by simp)]
    exact Ev.now _
  · have hk := List.all_eq_true.1 hg _ (get_mem l z61 i h0 h1)
    change okLeg (rd_T61 l i) = true at hk
    have hok := okLeg_iff.1 hk
    have la := txt_size (rd_T61 l i).f0 (by omega)
    have lb := txt_size (rd_T61 l i).f1 (by omega)
    have lj := legsJ_len l hl hg i.toNat
    have lj2 := legT_len hk
    have n1 := l1Num_txt (rd_T61 l i).f0 (by omega) (by omega)
    have n2 := l1Num_txt (rd_T61 l i).f1 (by omega) (by omega)
    have e47 : (⟨#[47]⟩ : ByteArray).size = 1 := rfl
    by_cases z : i > 0
    · have hne : (l.map legT).take i.toNat ≠ [] := by
        intro h
        have := congrArg List.length h
        rw [List.length_take, List.length_map, List.length_nil] at this
        omega
      have e : (⟨(Lib.join ((l.map legT).take i.toNat) [43]).toArray⟩ : ByteArray) ++ (⟨#[43]⟩ : ByteArray) ++ (⟨(legT (rd_T61 l i)).toArray⟩ : ByteArray) = ⟨(Lib.join ((l.map legT).take (i + 1).toNat) [43]).toArray⟩ := by
        rw [legTs_take l i h0 h1, join_snoc _ _ _ hne, show (⟨#[43]⟩ : ByteArray) = ⟨([43] : List UInt8).toArray⟩ from rfl, ba_append, ba_append]
      have e43 : (⟨#[43]⟩ : ByteArray).size = 1 := rfl
      refine Ev.step (fun k => by simp only [spec_reText.l0]; rw [if_pos h1, if_pos h0, if_pos h1, if_pos z, if_pos (by rw [ba_size]; omega), w64 (x := i + 1) (by omega) (by omega)]) ?_
      refine Ev.bind n1 (Ev.congr (fun k => by rw [if_pos (by omega)]) (Ev.bind n2 ?_))
      refine Ev.congr (fun k => by rw [if_pos (by rw [ByteArray.size_append]; omega), legTxt, if_pos (by simp only [ByteArray.size_append, ba_size, List.length_cons, List.length_nil]; omega), e]) ih
    · obtain rfl : i = 0 := by omega
      have e : (⟨(Lib.join ((l.map legT).take (0 : Int).toNat) [43]).toArray⟩ : ByteArray) ++ (⟨(legT (rd_T61 l 0)).toArray⟩ : ByteArray) = ⟨(Lib.join ((l.map legT).take (0 + 1 : Int).toNat) [43]).toArray⟩ := by
        rw [legTs_take l 0 h0 h1, ba_append]
        simp [Lib.join_nil, Lib.join_one]
      refine Ev.step (fun k => by simp only [spec_reText.l0]; rw [if_pos h1, if_pos h0, if_pos h1, if_neg z, w64 (x := 0 + 1) (by omega) (by omega)]) ?_
      refine Ev.bind n1 (Ev.congr (fun k => by rw [if_pos (by omega)]) (Ev.bind n2 ?_))
      refine Ev.congr (fun k => by rw [if_pos (by rw [ByteArray.size_append]; omega), legTxt, if_pos (by rw [ba_size, ba_size]; omega), e]) ih
theorem reText_ev (l : List S61) (hl : l.length ≤ 5) (hg : l.all okLeg = true) : Ev (fun k => spec_reText.f k l) (⟨(Lib.join (l.map legT) [43]).toArray⟩ : ByteArray) := by
  have h := reText_l0_ev l hl hg 0 (by omega) (by omega)
  exact h
theorem legsText_l0_ev (l : List S61) (hl : l.length ≤ 5) (hg : l.all okLeg = true) : ∀ i : Int, 0 ≤ i → i ≤ l.length → ∀ acc : List ByteArray, acc.length = l.length → acc.take i.toNat = (l.map (fun x => (⟨(legT x).toArray⟩ : ByteArray))).take i.toNat → Ev (fun k => impl_LegsText.l0 k acc l l.length i) ((⟨(Lib.join (l.map legT) [43]).toArray⟩ : ByteArray), true) := by
  have lj := legsJ_len l hl hg l.length
  rw [List.take_of_length_le (by simp)] at lj
  refine downI (fun acc ha ht => ?_) (fun i h0 h1 ih acc ha ht => ?_)
  · have e : acc = l.map (fun x => (⟨(legT x).toArray⟩ : ByteArray)) := by
      rw [List.take_of_length_le (by omega), List.take_of_length_le (by simp)] at ht
      exact ht
    have e2 : (l.map (fun x => (⟨(legT x).toArray⟩ : ByteArray))).map (fun (x : ByteArray) => x.data.toList) = l.map legT := by
      rw [List.map_map]
      rfl
    have e3 : ((⟨#[43]⟩ : ByteArray)).data.toList = [43] := rfl
    refine Ev.step (fun k => by simp only [impl_LegsText.l0]; rw [if_neg (by omega), strings_Join.f, e, e2, e3, if_pos ⟨by simp; omega, by omega⟩]; rfl) (Ev.now _)
  · have hk := List.all_eq_true.1 hg _ (get_mem l z61 i h0 h1)
    change okLeg (rd_T61 l i) = true at hk
    have hok := okLeg_iff.1 hk
    have hj := joinNums2_ev (⟨#[47]⟩ : ByteArray) (by decide) (rd_T61 l i).f0 (rd_T61 l i).f1 (by omega) (by omega)
    refine Ev.step (fun k => by simp only [impl_LegsText.l0]; rw [if_pos h1, if_pos h0, if_pos h1, w64 (x := i + 1) (by omega) (by omega)]) ?_
    refine Ev.bind hj (Ev.congr (fun k => by rw [if_pos (by omega)]) (ih (acc.set i.toNat _) (by simpa using ha) ?_))
    have hg2 : (l.map (fun x => (⟨(legT x).toArray⟩ : ByteArray)))[i.toNat]? = some (⟨(txt2 (⟨#[47]⟩ : ByteArray).data.toList (rd_T61 l i).f0 (rd_T61 l i).f1).toArray⟩ : ByteArray) := by
      rw [List.getElem?_map, List.getElem?_eq_getElem (show i.toNat < l.length by omega)]
      unfold rd_T61
      rw [List.getD_eq_getElem?_getD, List.getElem?_eq_getElem (show i.toNat < l.length by omega)]
      rfl
    rw [show (i + 1).toNat = i.toNat + 1 by omega, List.take_succ_eq_append_getElem (by rw [List.length_set]; omega), List.getElem_set_self, List.take_set_of_le (Nat.le_refl _), ht, List.take_add_one, hg2]
    rfl
theorem goodLegs_iff {l : List S61} (h : goodLegs l = true) : (1 ≤ l.length ∧ l.length ≤ 5) ∧ l.all okLeg = true := by
  unfold goodLegs at h
  rw [Bool.and_eq_true, decide_eq_true_iff] at h
  exact ⟨by omega, h.2⟩
theorem legsText_spec_ev (l : List S61) : Ev (fun k => spec_LegsText.f k l) (if goodLegs l = true then ((⟨(Lib.join (l.map legT) [43]).toArray⟩ : ByteArray), true) else ((⟨#[]⟩ : ByteArray), false)) := by
  unfold spec_LegsText.f
  refine Ev.bind (reGood_ev l) ?_
  cases h : goodLegs l
  · exact Ev.now _
  · obtain ⟨h1, h2⟩ := goodLegs_iff h
    simp only [if_true]
    exact Ev.bind (reText_ev l h1.2 h2) (Ev.now _)
theorem legsText_impl_ev (l : List S61) : Ev (fun k => impl_LegsText.f k l) (if goodLegs l = true then ((⟨(Lib.join (l.map legT) [43]).toArray⟩ : ByteArray), true) else ((⟨#[]⟩ : ByteArray), false)) := by
  unfold impl_LegsText.f
  refine Ev.bind (areLegs_ev l) ?_
  cases h : goodLegs l
  · exact Ev.now _
  · obtain ⟨h1, h2⟩ := goodLegs_iff h
    simp only [if_true]
    refine Ev.congr (fun k => by rw [if_pos (by omega), if_pos (by omega)]) ?_
    exact legsText_l0_ev l h1.2 h2 0 (by omega) (by omega) _ (by simp) (by simp)
theorem FnExactLegsText : laws_FnExactLegsText.Pure := by
  intro l hl
  refine Ev.rounds ?_
  unfold laws_FnExactLegsText.f
  rcases szLegS_cases l hl with ⟨hs, h⟩ | h
  · simp only [h, Option.bind_some, if_neg (show ¬ ((1048576 : Int) - l.length < 0) by omega)]
    refine Ev.bind (toLegS_ev l hs) (Ev.bind (legsText_spec_ev _) (Ev.bind (toLegS_ev l hs) (Ev.bind (legsText_impl_ev _) ?_)))
    simp only [if_true, bne_self_eq_false]
    refine Ev.step (fun k => by simp only [laws_FnExactLegsText.j0]; rw [if_neg (by simp)]) ?_
    refine Ev.bind (toLegS_ev l hs) (Ev.bind (eqLegS_ev _ (by simpa using hs)) ?_)
    simp only [if_true]
    exact Ev.now _
  · simp only [h, Option.bind_some]
    exact Ev.now _
end Go.Proofs.YtoaacabnlfglmaaDoor.Pure
