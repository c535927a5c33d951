/- The program's TrainText returns what the reference's TrainText returns, for all arguments. No conditions. -/
import Derived.Test.YtoaacabnlfglmaaDoorQTx2
import Derived.Test.YtoaacabnlfglmaaDoorPlain
set_option linter.unusedVariables false
set_option linter.unusedSimpArgs false
namespace Go.Proofs.YtoaacabnlfglmaaDoor.Pure
open Go.RowKit Go.Proofs.YtoaacabnlfglmaaDoor.QT Go.Proofs.YtoaacabnlfglmaaDoorW.PrintWords Go.Proofs.YtoaacabnlfglmaaDoorW.PrintLast Go.Proofs.YtoaacabnlfglmaaDoorW.PrintMore Go.Proofs.YtoaacabnlfglmaaDoor.Plain
theorem in_eq (a b c : Int) : spec_l1In.f a b c = some (decide (b ≤ a ∧ a ≤ c)) := by
  unfold spec_l1In.f
  by_cases h : a ≥ b
  · rw [if_pos h]; congr 1; simp; omega
  · rw [if_neg h]; congr 1; simp; omega
theorem within_eq (a b c : Int) : impl_within.f a b c = some (decide (b ≤ a ∧ a ≤ c)) := by
  unfold impl_within.f
  by_cases h : a ≥ b
  · rw [if_pos h]; congr 1; simp; omega
  · rw [if_neg h]; congr 1; simp; omega
theorem w64 {x : Int} (h1 : -9223372036854775808 ≤ x) (h2 : x ≤ 9223372036854775807) : wrap64 x = x := by unfold wrap64; omega
theorem decDigits_len : ∀ n : Nat, (Lib.decDigits n).length ≤ n + 1 := by
  intro n
  induction n using Nat.strongRecOn with
  | ind n ih =>
    rw [Lib.decDigits]
    split
    · simp
    · next h =>
      have := ih (n / 10) (by omega)
      simp
      omega
theorem ba_append (a b : List UInt8) : (⟨a.toArray⟩ : ByteArray) ++ ⟨b.toArray⟩ = ⟨(a ++ b).toArray⟩ := by
  apply ByteArray.ext
  simp
theorem ba_size (a : List UInt8) : (⟨a.toArray⟩ : ByteArray).size = a.length := by
  simp [ByteArray.size]
theorem digit_str (d : Nat) (h : d < 10) : strOfNums [(wrap64 (48 + (d : Int))) % 256] = ⟨([UInt8.ofNat (48 + d)] : List UInt8).toArray⟩ := by
  unfold strOfNums
  rw [w64 (by omega) (by omega), show (48 + (d : Int)) % 256 = ((48 + d : Nat) : Int) by omega]
  rw [List.map_cons, List.map_nil, Int.toNat_natCast]
theorem l1Num_ev : ∀ n : Nat, n ≤ 1000000000000000 → Ev (fun k => spec_l1Num.f k (n : Int)) (⟨(Lib.decDigits n).toArray⟩ : ByteArray) := by
  intro n
  induction n using Nat.strongRecOn with
  | ind n ih =>
    intro hn
    rw [Lib.decDigits]
    split
    · next h =>
      refine Ev.step (fun k => by simp only [spec_l1Num.f]; rw [if_pos (by omega), digit_str n h]) (Ev.now _)
    · next h =>
      have e1 : wrap64 (Int.tdiv (n : Int) 10) = ((n / 10 : Nat) : Int) := by
        have h1 : Int.tdiv (n : Int) 10 = ((n / 10 : Nat) : Int) := by rw [Int.tdiv_eq_ediv_of_nonneg (by omega)]; omega
        rw [h1, w64 (by omega) (by omega)]
      have e2 : Int.tmod (n : Int) 10 = ((n % 10 : Nat) : Int) := by rw [Int.tmod_eq_emod_of_nonneg (by omega)]; omega
      have hl := decDigits_len (n / 10)
      refine Ev.step (f := fun k => (spec_l1Num.f k ((n / 10 : Nat) : Int)).bind fun t107 => (if t107.size + ((⟨([UInt8.ofNat (48 + n % 10)] : List UInt8).toArray⟩ : ByteArray)).size ≤ 9223372036854775807 then (some (t107 ++ (⟨([UInt8.ofNat (48 + n % 10)] : List UInt8).toArray⟩ : ByteArray))) else none)) (fun k => by simp only [spec_l1Num.f, Option.bind_some]; rw [if_neg (by omega), e1, e2, digit_str (n % 10) (by omega)]) ?_
      refine Ev.bind (ih (n / 10) (by omega) (by omega)) ?_
      refine Ev.congr (fun k => by rw [ba_size, ba_size, if_pos (by simp; omega), ba_append]) (Ev.now _)
theorem itoa_nat (n : Nat) : Lib.itoa (n : Int) = Lib.decDigits n := by
  unfold Lib.itoa
  rw [if_neg (by omega), Int.toNat_natCast]
/-- A number's text, as both tell it. -/
def txt (n : Int) : ByteArray := ⟨(Lib.itoa n).toArray⟩
theorem l1Num_txt (n : Int) (h0 : 0 ≤ n) (h1 : n ≤ 1000000000000000) : Ev (fun k => spec_l1Num.f k n) (txt n) := by
  obtain ⟨m, rfl⟩ := Int.eq_ofNat_of_zero_le h0
  unfold txt
  rw [itoa_nat]
  exact l1Num_ev m (by omega)
theorem txt_size (n : Int) (h0 : 0 ≤ n) : (txt n).size ≤ n.toNat + 1 := by
  obtain ⟨m, rfl⟩ := Int.eq_ofNat_of_zero_le h0
  unfold txt
  rw [itoa_nat, ba_size]
  exact decDigits_len m
theorem itoa_len (n : Int) (h0 : 0 ≤ n) : (Lib.itoa n).length ≤ n.toNat + 1 := by
  have := txt_size n h0
  unfold txt at this
  rwa [ba_size] at this
theorem itoa_ev (n : Int) (h0 : -9223372036854775808 ≤ n) (h1 : n ≤ 9223372036854775807) : strconv_Itoa.f n = some (txt n) := by
  unfold strconv_Itoa.f
  rw [if_pos ⟨h0, h1⟩]
  rfl
theorem joinNums_l0_ev (s : ByteArray) (l : List Int) (hl : l.length ≤ 1048576) (hr : ∀ x, x ∈ l → 0 ≤ x ∧ x ≤ 1000000000) (hj : (Lib.join (l.map Lib.itoa) s.data.toList).length ≤ 140737488355328) : ∀ i : Int, 0 ≤ i → i ≤ l.length → ∀ acc : List ByteArray, acc.length = l.length → acc.take i.toNat = (l.map txt).take i.toNat → Ev (fun k => impl_joinNumbers.l0 k s acc l l.length i) (⟨(Lib.join (l.map Lib.itoa) s.data.toList).toArray⟩ : ByteArray) := by
  refine downI (fun acc ha ht => ?_) (fun i h0 h1 ih acc ha ht => ?_)
  · have e : acc = l.map txt := by
      rw [List.take_of_length_le (by omega), List.take_of_length_le (by simp)] at ht
      exact ht
    have e2 : (l.map txt).map (fun (x : ByteArray) => x.data.toList) = l.map Lib.itoa := by
      rw [List.map_map]
      rfl
    refine Ev.step (fun k => by simp only [impl_joinNumbers.l0]; rw [if_neg (by omega), strings_Join.f, e, e2, if_pos ⟨by simp; omega, hj⟩]; rfl) (Ev.now _)
  · have hx := hr _ (get_mem l 0 i h0 h1)
    change 0 ≤ rd l i ∧ rd l i ≤ 1000000000 at hx
    refine Ev.step (fun k => by simp only [impl_joinNumbers.l0]; rw [if_pos h1, if_pos h0, if_pos h1, itoa_ev _ (by omega) (by omega), Option.bind_some, if_pos (by omega), w64 (x := i + 1) (by omega) (by omega)]) (ih (acc.set i.toNat (txt (rd l i))) (by simpa using ha) ?_)
    have hg : (l.map txt)[i.toNat]? = some (txt (rd l i)) := by
      rw [List.getElem?_map, List.getElem?_eq_getElem (show i.toNat < l.length by omega)]
      unfold rd
      rw [List.getD_eq_getElem?_getD, List.getElem?_eq_getElem (show i.toNat < l.length by omega)]
      rfl
    rw [show (i + 1).toNat = i.toNat + 1 by omega, List.take_succ_eq_append_getElem (by rw [List.length_set]; omega), List.getElem_set_self, List.take_set_of_le (Nat.le_refl _), ht, List.take_add_one, hg]
    rfl
theorem joinNums_ev (s : ByteArray) (l : List Int) (hl : l.length ≤ 1048576) (hr : ∀ x, x ∈ l → 0 ≤ x ∧ x ≤ 1000000000) (hj : (Lib.join (l.map Lib.itoa) s.data.toList).length ≤ 140737488355328) : Ev (fun k => impl_joinNumbers.f k l s) (⟨(Lib.join (l.map Lib.itoa) s.data.toList).toArray⟩ : ByteArray) := by
  unfold impl_joinNumbers.f
  refine Ev.congr (fun k => by rw [if_pos (by omega), if_pos (by omega)]) ?_
  exact joinNums_l0_ev s l hl hr hj 0 (by omega) (by omega) _ (by simp) (by simp)
/-- Two numbers with a text between them. -/
def txt2 (s : List UInt8) (a b : Int) : List UInt8 := Lib.itoa a ++ (s ++ Lib.itoa b)
theorem joinNums2_ev (s : ByteArray) (hs : s.size ≤ 1000) (a b : Int) (ha : 0 ≤ a ∧ a ≤ 1000000000) (hb : 0 ≤ b ∧ b ≤ 1000000000) : Ev (fun k => impl_joinNumbers.f k [a, b] s) (⟨(txt2 s.data.toList a b).toArray⟩ : ByteArray) := by
  have e : Lib.join ([a, b].map Lib.itoa) s.data.toList = txt2 s.data.toList a b := by
    unfold txt2
    rw [List.map_cons, List.map_cons, List.map_nil, Lib.join_cons]
    simp [Lib.joinTail]
  have la := itoa_len a ha.1
  have lb := itoa_len b hb.1
  have ls : s.data.toList.length = s.size := Array.length_toList
  have h := joinNums_ev s [a, b] (by simp) (fun x hx => by
    rcases List.mem_cons.1 hx with rfl | hx
    · exact ha
    · rw [List.mem_singleton.1 hx]; exact hb) (by rw [e]; unfold txt2; simp only [List.length_append]; omega)
  rw [e] at h
  exact h
def okT (a b : Int) : Bool := decide (1 ≤ a ∧ a ≤ 1000) && decide (1 ≤ b ∧ b ≤ 100)
theorem tiGood_eq (a b : Int) : spec_tiGood.f a b = some (okT a b) := by
  unfold spec_tiGood.f okT
  simp only [in_eq, Option.bind_some]
  by_cases h : decide (1 ≤ a ∧ a ≤ 1000) = true
  · simp [h]
  · simp [h]
theorem isTrain_eq (a b : Int) : impl_IsTrain.f a b = some (okT a b) := by
  unfold impl_IsTrain.f impl_isRate.f okT
  simp only [within_eq, Option.bind_some]
  by_cases h : decide (1 ≤ a ∧ a ≤ 1000) = true
  · simp [h]
  · simp [h]
theorem tiText_ev (a b : Int) (h : okT a b = true) : Ev (fun k => spec_tiText.f k a b) (⟨(txt2 [47] a b).toArray⟩ : ByteArray) := by
  unfold okT at h
  rw [Bool.and_eq_true, decide_eq_true_iff, decide_eq_true_iff] at h
  have la := txt_size a (by omega)
  have lb := txt_size b (by omega)
  unfold spec_tiText.f
  refine Ev.bind (l1Num_txt a (by omega) (by omega)) ?_
  refine Ev.congr (fun k => by rw [if_pos (by omega)]) ?_
  refine Ev.bind (l1Num_txt b (by omega) (by omega)) ?_
  have e : (txt a ++ (⟨#[47]⟩ : ByteArray)) ++ txt b = ⟨(txt2 [47] a b).toArray⟩ := by
    unfold txt txt2
    rw [show (⟨#[47]⟩ : ByteArray) = ⟨([47] : List UInt8).toArray⟩ from rfl, ba_append, ba_append, List.append_assoc]
  refine Ev.congr (fun k => by rw [if_pos (by rw [ByteArray.size_append]; have : (⟨#[47]⟩ : ByteArray).size = 1 := rfl; omega), e]) (Ev.now _)
theorem trainText_both (a b : Int) : ∃ r, Ev (fun k => spec_TrainText.f k a b) r ∧ Ev (fun k => impl_TrainText.f k a b) r := by
  unfold spec_TrainText.f impl_TrainText.f
  simp only [tiGood_eq, isTrain_eq, Option.bind_some]
  cases h : okT a b
  · exact ⟨_, Ev.now _, Ev.now _⟩
  · simp only [if_true]
    refine ⟨((⟨(txt2 [47] a b).toArray⟩ : ByteArray), true), Ev.bind (tiText_ev a b h) (Ev.now _), ?_⟩
    unfold okT at h
    rw [Bool.and_eq_true, decide_eq_true_iff, decide_eq_true_iff] at h
    exact Ev.bind (joinNums2_ev (⟨#[47]⟩ : ByteArray) (by decide) a b (by omega) (by omega)) (Ev.now _)
theorem FnExactTrainText : laws_FnExactTrainText.Pure := by
  intro a b
  refine Ev.rounds ?_
  unfold laws_FnExactTrainText.f laws_toTrain.f
  obtain ⟨r, h1, h2⟩ := trainText_both a b
  simp only [Option.bind_some]
  refine Ev.bind h1 (Ev.bind h2 ?_)
  simp only [if_true, bne_self_eq_false, Bool.false_eq_true, if_false]
  exact Ev.now _
end Go.Proofs.YtoaacabnlfglmaaDoor.Pure
