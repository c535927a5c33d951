/- The program's ParseLine returns what the reference's ParseLine returns, for all arguments. No conditions. -/
import Derived.Test.YtoaacabnlfglmaaDoorQVx14
import Derived.Test.YtoaacabnlfglmaaDoorPlain
set_option linter.unusedVariables false
set_option linter.unusedSimpArgs false
namespace Go.Proofs.YtoaacabnlfglmaaDoor.Pure
open Go.RowKit Go.Proofs.YtoaacabnlfglmaaDoor.QV Go.Proofs.YtoaacabnlfglmaaDoorW.PrintWords Go.Proofs.YtoaacabnlfglmaaDoorW.PrintLast Go.Proofs.YtoaacabnlfglmaaDoorW.PrintMore Go.Proofs.YtoaacabnlfglmaaDoor.Plain
theorem in_eq (a b c : Int) : spec_l1In.f a b c = some (decide (b ≤ a ∧ a ≤ c)) := by
  unfold spec_l1In.f
  by_cases h : a ≥ b
  · rw [if_pos h]; congr 1; simp; omega
  · rw [if_neg h]; congr 1; simp; omega
theorem within_eq (a b c : Int) : impl_within.f a b c = some (decide (b ≤ a ∧ a ≤ c)) := by
  unfold impl_within.f
  by_cases h : a ≥ b
  · rw [if_pos h]; congr 1; simp; omega
  · rw [if_neg h]; congr 1; simp; omega
theorem w64 {x : Int} (h1 : -9223372036854775808 ≤ x) (h2 : x ≤ 9223372036854775807) : wrap64 x = x := by unfold wrap64; omega
theorem decDigits_len : ∀ n : Nat, (Lib.decDigits n).length ≤ n + 1 := by
  intro n
  induction n using Nat.strongRecOn with
  | ind n ih =>
    rw [Lib.decDigits]
    split
    · simp
    · next h =>
      have := ih (n / 10) (by omega)
      simp
      omega
theorem ba_append (a b : List UInt8) : (⟨a.toArray⟩ : ByteArray) ++ ⟨b.toArray⟩ = ⟨(a ++ b).toArray⟩ := by
  apply ByteArray.ext
  simp
theorem ba_size (a : List UInt8) : (⟨a.toArray⟩ : ByteArray).size = a.length := by
  simp [ByteArray.size]
theorem digit_str (d : Nat) (h : d < 10) : strOfNums [(wrap64 (48 + (d : Int))) % 256] = ⟨([UInt8.ofNat (48 + d)] : List UInt8).toArray⟩ := by
  unfold strOfNums
  rw [w64 (by omega) (by omega), show (48 + (d : Int)) % 256 = ((48 + d : Nat) : Int) by omega]
  rw [List.map_cons, List.map_nil, Int.toNat_natCast]
theorem l1Num_ev : ∀ n : Nat, n ≤ 1000000000000000 → Ev (fun k => spec_l1Num.f k (n : Int)) (⟨(Lib.decDigits n).toArray⟩ : ByteArray) := by
  intro n
  induction n using Nat.strongRecOn with
  | ind n ih =>
    intro hn
    rw [Lib.decDigits]
    split
    · next h =>
      refine Ev.step (fun k => by simp only [spec_l1Num.f]; rw [if_pos (by omega), digit_str n h]) (Ev.now _)
    · next h =>
      have e1 : wrap64 (Int.tdiv (n : Int) 10) = ((n / 10 : Nat) : Int) := by
        have h1 : Int.tdiv (n : Int) 10 = ((n / 10 : Nat) : Int) := by rw [Int.tdiv_eq_ediv_of_nonneg (by omega)]; omega
        rw [h1, w64 (by omega) (by omega)]
      have e2 : Int.tmod (n : Int) 10 = ((n % 10 : Nat) : Int) := by rw [Int.tmod_eq_emod_of_nonneg (by omega)]; omega
      have hl := decDigits_len (n / 10)
      refine Ev.step (f := fun k => (spec_l1Num.f k ((n / 10 : Nat) : Int)).bind fun t107 => (if t107.size + ((⟨([UInt8.ofNat (48 + n % 10)] : List UInt8).toArray⟩ : ByteArray)).size ≤ 9223372036854775807 then (some (t107 ++ (⟨([UInt8.ofNat (48 + n % 10)] : List UInt8).toArray⟩ : ByteArray))) else none)) (fun k => by simp only [spec_l1Num.f, Option.bind_some]; rw [if_neg (by omega), e1, e2, digit_str (n % 10) (by omega)]) ?_
      refine Ev.bind (ih (n / 10) (by omega) (by omega)) ?_
      refine Ev.congr (fun k => by rw [ba_size, ba_size, if_pos (by simp; omega), ba_append]) (Ev.now _)
theorem itoa_nat (n : Nat) : Lib.itoa (n : Int) = Lib.decDigits n := by
  unfold Lib.itoa
  rw [if_neg (by omega), Int.toNat_natCast]
/-- A number's text, as both tell it. -/
def txt (n : Int) : ByteArray := ⟨(Lib.itoa n).toArray⟩
theorem l1Num_txt (n : Int) (h0 : 0 ≤ n) (h1 : n ≤ 1000000000000000) : Ev (fun k => spec_l1Num.f k n) (txt n) := by
  obtain ⟨m, rfl⟩ := Int.eq_ofNat_of_zero_le h0
  unfold txt
  rw [itoa_nat]
  exact l1Num_ev m (by omega)
theorem txt_size (n : Int) (h0 : 0 ≤ n) : (txt n).size ≤ n.toNat + 1 := by
  obtain ⟨m, rfl⟩ := Int.eq_ofNat_of_zero_le h0
  unfold txt
  rw [itoa_nat, ba_size]
  exact decDigits_len m
theorem itoa_len (n : Int) (h0 : 0 ≤ n) : (Lib.itoa n).length ≤ n.toNat + 1 := by
  have := txt_size n h0
  unfold txt at this
  rwa [ba_size] at this
theorem itoa_ev (n : Int) (h0 : -9223372036854775808 ≤ n) (h1 : n ≤ 9223372036854775807) : strconv_Itoa.f n = some (txt n) := by
  unfold strconv_Itoa.f
  rw [if_pos ⟨h0, h1⟩]
  rfl
/-- A text cut at each byte c. -/
def cutL (c : UInt8) : List UInt8 → List (List UInt8)
  | [] => [[]]
  | x :: xs => if x = c then [] :: cutL c xs else (match cutL c xs with | [] => [[x]] | y :: ys => (x :: y) :: ys)
theorem cutL_ne (c : UInt8) : ∀ l, cutL c l ≠ [] := by
  intro l
  cases l with
  | nil => simp [cutL]
  | cons x xs =>
    unfold cutL
    split
    · simp
    · split <;> simp
theorem cutL_free (c : UInt8) : ∀ l, c ∉ l → cutL c l = [l] := by
  intro l
  induction l with
  | nil => intro _; rfl
  | cons x xs ih =>
    intro h
    rw [List.mem_cons, not_or] at h
    unfold cutL
    rw [if_neg (fun e => h.1 e.symm), ih h.2]
theorem cutL_app (c : UInt8) (b : List UInt8) : ∀ a, c ∉ a → cutL c (a ++ c :: b) = a :: cutL c b := by
  intro a
  induction a with
  | nil =>
    intro _
    show cutL c (c :: b) = _
    rw [cutL, if_pos rfl]
  | cons x xs ih =>
    intro h
    rw [List.mem_cons, not_or] at h
    show cutL c (x :: (xs ++ c :: b)) = _
    rw [cutL, if_neg (fun e => h.1 e.symm), ih h.2]
theorem cutL_join (c : UInt8) : ∀ l, Lib.join (cutL c l) [c] = l := by
  intro l
  induction l with
  | nil => rfl
  | cons x xs ih =>
    unfold cutL
    split
    · next h =>
      subst h
      cases e : cutL x xs with
      | nil => exact absurd e (cutL_ne x xs)
      | cons y ys =>
        rw [e, Lib.join_cons] at ih
        rw [Lib.join_cons]
        have : Lib.joinTail [x] (y :: ys) = [x] ++ y ++ Lib.joinTail [x] ys := by simp [Lib.joinTail]
        rw [this, ← ih]
        simp
    · cases e : cutL c xs with
      | nil => exact absurd e (cutL_ne c xs)
      | cons y ys =>
        rw [e, Lib.join_cons] at ih
        simp only [Lib.join_cons]
        rw [← ih]
        rfl
theorem join_cons2 (p q : List UInt8) (r : List (List UInt8)) (c : UInt8) : Lib.join (p :: q :: r) [c] = p ++ c :: Lib.join (q :: r) [c] := by
  rw [Lib.join_cons, Lib.join_cons]
  simp [Lib.joinTail]
theorem cutL_of_join (c : UInt8) : ∀ ps : List (List UInt8), ps ≠ [] → (∀ p, p ∈ ps → c ∉ p) → cutL c (Lib.join ps [c]) = ps := by
  intro ps
  induction ps with
  | nil => intro h; exact absurd rfl h
  | cons p r ih =>
    intro _ h
    have hp := h p List.mem_cons_self
    cases r with
    | nil => rw [Lib.join_one]; exact cutL_free c p hp
    | cons q r => rw [join_cons2, cutL_app c _ p hp, ih (by simp) (fun x hx => h x (List.mem_cons_of_mem _ hx))]
def mkB (l : List UInt8) : ByteArray := ⟨l.toArray⟩
theorem mkB_list (l : List UInt8) : (mkB l).data.toList = l := by simp [mkB]
theorem mkB_of (s : ByteArray) : mkB s.data.toList = s := by
  apply ByteArray.ext
  simp [mkB]
theorem mkB_inj {a b : List UInt8} (h : mkB a = mkB b) : a = b := by
  have := congrArg (fun x : ByteArray => x.data.toList) h
  simpa [mkB] using this
theorem mkB_size (l : List UInt8) : (mkB l).size = l.length := ba_size l
theorem size_list (s : ByteArray) : s.size = s.data.toList.length := by rw [Array.length_toList]; rfl
def cutB (c : UInt8) (s : ByteArray) : List ByteArray := (cutL c s.data.toList).map mkB
theorem ext_list {a b : ByteArray} (h : a.data.toList = b.data.toList) : a = b := by
  rw [← mkB_of a, ← mkB_of b, h]
theorem mkB_toList (l : List UInt8) : (mkB l).toList = l := by simp [mkB]
theorem toList_eq (x : ByteArray) : x.toList = x.data.toList := by
  have h := mkB_toList x.data.toList
  rwa [mkB_of] at h
theorem toList_inj (a b : ByteArray) (h : a.toList = b.toList) : a = b := by
  rw [toList_eq, toList_eq] at h
  exact ext_list h
theorem sep_size (c : UInt8) : (⟨#[c]⟩ : ByteArray).size = 1 := rfl
theorem splitB_cut (c : UInt8) : ∀ (n : Nat) (s : ByteArray), s.size ≤ n → Lib.splitB (⟨#[c]⟩ : ByteArray) 0 (Lib.countB s ⟨#[c]⟩) s = cutB c s := by
  intro n
  induction n with
  | zero =>
    intro s hs
    have hl : s.data.toList = [] := List.eq_nil_of_length_eq_zero (by rw [← size_list]; omega)
    have hi : Lib.indexB s (⟨#[c]⟩ : ByteArray) = -1 := by
      show Lib.index s.data.toList [c] = -1
      rw [hl]; rfl
    rw [Lib.countB_miss s _ hi, Lib.splitB_zero]
    unfold cutB
    rw [hl]
    show [s] = [mkB []]
    rw [← hl, mkB_of]
  | succ n ih =>
    intro s hs
    have hix : Lib.indexB s (⟨#[c]⟩ : ByteArray) = Lib.indexByte s.data.toList c := by
      show Lib.index s.data.toList [c] = _
      exact Lib.index_one _ _
    rcases Lib.indexB_cases s ⟨#[c]⟩ with hi | ⟨i, hi, hr⟩
    · rw [Lib.countB_miss s _ hi, Lib.splitB_zero]
      rw [hix] at hi
      have hn : c ∉ s.data.toList := fun hm => by
        obtain ⟨k, hk, e⟩ := List.getElem_of_mem hm
        exact Lib.indexByte_none hi k (by rw [List.getElem?_eq_getElem hk, e])
      unfold cutB
      rw [cutL_free c _ hn]
      show [s] = [mkB _]
      rw [mkB_of]
    · rw [Lib.countB_hit s _ i (by rw [sep_size]; omega) hi, Nat.add_comm 1, Lib.splitB_hit _ _ _ s i hi]
      rw [sep_size] at hr ⊢
      have e2 : (s.extract (i + 1) s.size).size = s.size - (i + 1) := by rw [ByteArray.size_extract]; omega
      rw [ih _ (by omega)]
      rw [hix] at hi
      obtain ⟨h1, h2⟩ := Lib.indexByte_some hi
      have hlt : i < s.data.toList.length := by rw [← size_list]; omega
      have hdec : s.data.toList = s.data.toList.take i ++ c :: s.data.toList.drop (i + 1) := by
        conv => lhs; rw [← List.take_append_drop i s.data.toList]
        rw [List.drop_eq_getElem_cons hlt]
        rw [List.getElem?_eq_getElem hlt] at h1
        injection h1 with h1
        rw [h1]
      have hfree : c ∉ s.data.toList.take i := fun hm => by
        obtain ⟨k, hk, e⟩ := List.getElem_of_mem hm
        rw [List.length_take] at hk
        rw [List.getElem_take] at e
        exact h2 k (by omega) (by rw [List.getElem?_eq_getElem (by omega), e])
      have hc : cutB c s = mkB (s.data.toList.take i) :: cutB c (s.extract (i + 1) s.size) := by
        unfold cutB
        rw [Lib.extract_to_end]
        conv => lhs; rw [hdec]
        rw [cutL_app c _ _ hfree, List.map_cons]
      rw [hc]
      congr 1
      apply ext_list
      rw [mkB_list, Lib.extract_from_zero, Nat.add_zero]
theorem split_eq (c : UInt8) (s : ByteArray) (hs : s.size < 4294967281) : strings_Split.f s (⟨#[c]⟩ : ByteArray) = some (cutB c s) := by
  unfold strings_Split.f
  rw [if_pos ⟨hs, by rw [sep_size]; omega⟩, splitB_cut c s.size s (Nat.le_refl _)]
theorem bt_list (s : ByteArray) (i : Int) (h0 : 0 ≤ i) (h1 : i < s.size) : ∃ h : i.toNat < s.data.toList.length, bt s i = ((s.data.toList[i.toNat]).toNat : Int) := by
  have h : i.toNat < s.size := by omega
  refine ⟨by rw [← size_list]; exact h, ?_⟩
  rw [← bt_at s i h]
  rfl
theorem ext_take (s : ByteArray) (a b : Nat) (h : a ≤ b) : (s.extract a b).data.toList = (s.data.toList.drop a).take (b - a) := by
  simp [List.take_drop]
theorem l1Split_l0_ev (c : UInt8) (s : ByteArray) (hs : s.size ≤ 1048576) : ∀ i : Int, 0 ≤ i → i ≤ s.size → ∀ (acc : List ByteArray) (f : Int), 0 ≤ f → f ≤ i → (acc.length : Int) ≤ f → c ∉ (s.data.toList.drop f.toNat).take (i.toNat - f.toNat) → Ev (fun k => spec_l1Split.l0 k s c.toNat acc f i) (acc ++ (cutL c (s.data.toList.drop f.toNat)).map mkB) := by
  refine downI (fun acc f f0 f1 ha hn => ?_) (fun i h0 h1 ih acc f f0 f1 ha hn => ?_)
  · have hd : (s.data.toList.drop f.toNat).take ((s.size : Int).toNat - f.toNat) = s.data.toList.drop f.toNat := by
      refine List.take_of_length_le ?_
      rw [List.length_drop, ← size_list]; omega
    rw [hd] at hn
    refine Ev.step (fun k => by simp only [spec_l1Split.l0]; rw [if_neg (by omega), if_pos f0, if_pos f1, if_pos (by omega)]) ?_
    rw [cutL_free c _ hn]
    have e : s.extract f.toNat s.size = mkB (s.data.toList.drop f.toNat) := ext_list (by rw [Lib.extract_to_end, mkB_list])
    rw [e]
    exact Ev.now _
  · obtain ⟨hlt, hb⟩ := bt_list s i h0 h1
    by_cases hc : s.data.toList[i.toNat] = c
    · have hbc : bt s i = (c.toNat : Int) := by rw [hb, hc]
      have hdec : s.data.toList.drop f.toNat = (s.data.toList.drop f.toNat).take (i.toNat - f.toNat) ++ c :: s.data.toList.drop (i + 1).toNat := by
        conv => lhs; rw [← List.take_append_drop (i.toNat - f.toNat) (s.data.toList.drop f.toNat)]
        rw [List.drop_drop, show f.toNat + (i.toNat - f.toNat) = i.toNat by omega, List.drop_eq_getElem_cons hlt, hc, show (i + 1).toNat = i.toNat + 1 by omega]
      have e : s.extract f.toNat i.toNat = mkB ((s.data.toList.drop f.toNat).take (i.toNat - f.toNat)) := ext_list (by rw [ext_take _ _ _ (by omega), mkB_list])
      refine Ev.step (fun k => by simp only [spec_l1Split.l0]; rw [if_pos h1, if_pos h0, if_pos hbc, if_pos f0, if_pos f1, if_pos (by omega), if_pos (by omega), w64 (x := i + 1) (by omega) (by omega), e]) ?_
      have h := ih (acc ++ [mkB ((s.data.toList.drop f.toNat).take (i.toNat - f.toNat))]) (i + 1) (by omega) (by omega) (by simp; omega) (by simp)
      have hg : (cutL c (s.data.toList.drop f.toNat)).map mkB = mkB ((s.data.toList.drop f.toNat).take (i.toNat - f.toNat)) :: (cutL c (s.data.toList.drop (i + 1).toNat)).map mkB := by
        conv => lhs; rw [hdec]
        rw [cutL_app c _ _ hn, List.map_cons]
      rw [hg]
      rw [List.append_assoc] at h
      exact h
    · have hbc : ¬ bt s i = (c.toNat : Int) := by
        rw [hb]
        intro e
        exact hc (UInt8.toNat_inj.1 (by omega))
      refine Ev.step (fun k => by simp only [spec_l1Split.l0]; rw [if_pos h1, if_pos h0, if_neg hbc, w64 (x := i + 1) (by omega) (by omega)]) (ih acc f f0 (by omega) ha ?_)
      rw [show (i + 1).toNat - f.toNat = (i.toNat - f.toNat) + 1 by omega, List.take_add_one, List.mem_append, not_or]
      refine ⟨hn, ?_⟩
      rw [List.getElem?_drop, show f.toNat + (i.toNat - f.toNat) = i.toNat by omega, List.getElem?_eq_getElem hlt]
      simp only [Option.toList_some, List.mem_singleton]
      exact fun e => hc e.symm
theorem l1Split_ev (c : UInt8) (s : ByteArray) (hs : s.size ≤ 1048576) (b : Int) (hb : b = (c.toNat : Int)) : Ev (fun k => spec_l1Split.f k s b) (cutB c s) := by
  subst hb
  unfold spec_l1Split.f
  have h := l1Split_l0_ev c s hs 0 (by omega) (by omega) [] 0 (by omega) (by omega) (by simp) (by simp)
  simpa [cutB] using h
theorem cutB_mem {c : UInt8} {s q : ByteArray} (h : q ∈ cutB c s) : q.size ≤ s.size := by
  have key : ∀ (l : List UInt8) (p : List UInt8), p ∈ cutL c l → p.length ≤ l.length := by
    intro l
    induction l with
    | nil => intro p hp; simp [cutL] at hp; simp [hp]
    | cons x xs ih =>
      intro p hp
      unfold cutL at hp
      split at hp
      · rcases List.mem_cons.1 hp with rfl | hp
        · simp
        · have := ih p hp; simp; omega
      · cases e : cutL c xs with
        | nil => rw [e] at hp; simp at hp; simp [hp]
        | cons y ys =>
          rw [e] at hp
          rcases List.mem_cons.1 hp with rfl | hp
          · have := ih y (by rw [e]; exact List.mem_cons_self); simp; omega
          · have := ih p (by rw [e]; exact List.mem_cons_of_mem _ hp); simp; omega
  obtain ⟨p, hp, rfl⟩ := List.mem_map.1 h
  rw [mkB_size, size_list]
  exact key _ p hp
def isDig (c : UInt8) : Bool := decide (48 ≤ c.toNat ∧ c.toNat ≤ 57)
def foldN (a : Nat) (l : List UInt8) : Nat := l.foldl (fun a c => a * 10 + (c.toNat - 48)) a
theorem foldN_cons (a : Nat) (c : UInt8) (l : List UInt8) : foldN a (c :: l) = foldN (a * 10 + (c.toNat - 48)) l := by
  unfold foldN
  rw [List.foldl_cons]
theorem foldN_snoc (a : Nat) (l : List UInt8) (c : UInt8) : foldN a (l ++ [c]) = foldN a l * 10 + (c.toNat - 48) := by
  unfold foldN
  rw [List.foldl_append]
  rfl
theorem foldN_ge : ∀ (l : List UInt8) (a : Nat), a ≤ foldN a l := by
  intro l
  induction l with
  | nil => intro a; exact Nat.le_refl _
  | cons c l ih => intro a; rw [foldN_cons]; exact Nat.le_trans (by omega) (ih _)
theorem foldN_lt : ∀ (l : List UInt8), l.all isDig = true → ∀ a : Nat, foldN a l < (a + 1) * 10 ^ l.length := by
  intro l
  induction l with
  | nil => intro _ a; simp [foldN]
  | cons c l ih =>
    intro h a
    rw [List.all_cons, Bool.and_eq_true] at h
    have hc : 48 ≤ c.toNat ∧ c.toNat ≤ 57 := by simpa [isDig] using h.1
    have h1 := ih h.2 (a * 10 + (c.toNat - 48))
    rw [foldN_cons, List.length_cons, Nat.pow_succ]
    have h2 : (a * 10 + (c.toNat - 48) + 1) * 10 ^ l.length ≤ ((a + 1) * 10) * 10 ^ l.length := Nat.mul_le_mul_right _ (by omega)
    rw [Nat.mul_comm (10 ^ l.length) 10, ← Nat.mul_assoc]
    omega
/-- At most six digits, none of them superfluous. -/
def canon (l : List UInt8) : Bool := decide (1 ≤ l.length ∧ l.length ≤ 6) && (decide (l.head? ≠ some 48 ∨ l.length = 1) && l.all isDig)
theorem digit_char (d : Nat) (h : d < 10) : isDig (UInt8.ofNat (48 + d)) = true ∧ (UInt8.ofNat (48 + d)).toNat - 48 = d := by
  have e : (UInt8.ofNat (48 + d)).toNat = 48 + d := by simp [UInt8.toNat_ofNat]; omega
  unfold isDig
  rw [e]
  exact ⟨decide_eq_true (by omega), by omega⟩
theorem dec_dig : ∀ n : Nat, (Lib.decDigits n).all isDig = true ∧ foldN 0 (Lib.decDigits n) = n := by
  intro n
  induction n using Nat.strongRecOn with
  | ind n ih =>
    rw [Lib.decDigits]
    split
    · next h =>
      obtain ⟨h1, h2⟩ := digit_char n h
      refine ⟨by rw [List.all_cons, h1]; rfl, ?_⟩
      simp only [foldN, List.foldl_cons, List.foldl_nil, h2]
      omega
    · next h =>
      obtain ⟨h1, h2⟩ := digit_char (n % 10) (by omega)
      obtain ⟨h3, h4⟩ := ih (n / 10) (by omega)
      refine ⟨by rw [List.all_append, h3, List.all_cons, h1]; rfl, ?_⟩
      rw [foldN_snoc, h4, h2]
      omega
theorem dec_ne (n : Nat) : Lib.decDigits n ≠ [] := by
  rw [Lib.decDigits]
  split <;> simp
theorem dec_head : ∀ n : Nat, 1 ≤ n → (Lib.decDigits n).head? ≠ some 48 := by
  intro n
  induction n using Nat.strongRecOn with
  | ind n ih =>
    intro hn
    rw [Lib.decDigits]
    split
    · next h =>
      intro e
      simp only [List.head?_cons, Option.some.injEq] at e
      have := (digit_char n h).2
      rw [e] at this
      simp at this
      omega
    · next h =>
      have := ih (n / 10) (by omega) (by omega)
      cases e : Lib.decDigits (n / 10) with
      | nil => exact absurd e (dec_ne _)
      | cons y ys =>
        rw [e] at this
        simpa using this
theorem dec_len : ∀ (k n : Nat), n < 10 ^ (k + 1) → (Lib.decDigits n).length ≤ k + 1 := by
  intro k
  induction k with
  | zero =>
    intro n h
    rw [Lib.decDigits, dif_pos (by simpa using h)]
    simp
  | succ k ih =>
    intro n h
    rw [Lib.decDigits]
    split
    · simp
    · have h2 : n / 10 < 10 ^ (k + 1) := by
        rw [Nat.pow_succ] at h
        omega
      have := ih (n / 10) h2
      simp
      omega
theorem canon_dec (n : Nat) (h : n ≤ 999999) : canon (Lib.decDigits n) = true := by
  unfold canon
  have hl := dec_len 5 n (by omega)
  have hn := dec_ne n
  have h1 : 1 ≤ (Lib.decDigits n).length := by
    cases e : Lib.decDigits n with
    | nil => exact absurd e hn
    | cons _ _ => simp
  rw [(dec_dig n).1, Bool.and_true, Bool.and_eq_true, decide_eq_true_iff, decide_eq_true_iff]
  refine ⟨⟨h1, by omega⟩, ?_⟩
  by_cases z : 1 ≤ n
  · exact .inl (dec_head n z)
  · right
    rw [Lib.decDigits, dif_pos (by omega)]
    rfl
theorem decD_of : ∀ (m : Nat) (l : List UInt8), l.length = m → 1 ≤ m → (l.head? ≠ some 48 ∨ l.length = 1) → l.all isDig = true → Lib.decDigits (foldN 0 l) = l := by
  intro m
  induction m with
  | zero => intro l _ h; omega
  | succ m ih =>
    intro l hl _ hh hd
    have hne : l ≠ [] := by intro e; rw [e] at hl; simp at hl
    obtain ⟨p, d, rfl⟩ : ∃ p d, l = p ++ [d] := ⟨l.dropLast, l.getLast hne, (List.dropLast_concat_getLast hne).symm⟩
    rw [List.all_append, Bool.and_eq_true] at hd
    have hdd : 48 ≤ d.toNat ∧ d.toNat ≤ 57 := by simpa [isDig] using hd.2
    have hchar : UInt8.ofNat (48 + (d.toNat - 48)) = d := by
      rw [show 48 + (d.toNat - 48) = d.toNat by omega]
      simp
    rw [foldN_snoc]
    rw [List.length_append, List.length_singleton] at hl
    cases p with
    | nil =>
      have e : foldN 0 [] = 0 := rfl
      rw [e, Lib.decDigits, dif_pos (by omega), Nat.zero_mul, Nat.zero_add, hchar]
      rfl
    | cons c p =>
      have hc0 : c ≠ 48 := by
        rcases hh with hh | hh
        · intro e; exact hh (by simp [e])
        · simp at hh
      have hcd : 48 ≤ c.toNat ∧ c.toNat ≤ 57 := by
        have := hd.1
        rw [List.all_cons, Bool.and_eq_true] at this
        simpa [isDig] using this.1
      have hpos : 1 ≤ foldN 0 (c :: p) := by
        rw [foldN_cons]
        refine Nat.le_trans ?_ (foldN_ge _ _)
        have : c.toNat ≠ 48 := fun e => hc0 (UInt8.toNat_inj.1 (by simpa using e))
        omega
      have h2 := ih (c :: p) (by simpa using hl) (by simp at hl; omega) (.inl (by simpa using hc0)) hd.1
      rw [Lib.decDigits, dif_neg (by omega), show (foldN 0 (c :: p) * 10 + (d.toNat - 48)) / 10 = foldN 0 (c :: p) by omega, show (foldN 0 (c :: p) * 10 + (d.toNat - 48)) % 10 = d.toNat - 48 by omega, h2, hchar]
/-- What the reference reads: -1 where it is no numeral of at most six digits. -/
def rdS (s : ByteArray) : Int := if canon s.data.toList = true then ((foldN 0 s.data.toList : Nat) : Int) else -1
theorem rdS_cases (s : ByteArray) : rdS s = -1 ∨ (0 ≤ rdS s ∧ rdS s ≤ 999999 ∧ s.data.toList = Lib.itoa (rdS s)) := by
  unfold rdS
  split
  · next h =>
    right
    unfold canon at h
    rw [Bool.and_eq_true, Bool.and_eq_true, decide_eq_true_iff, decide_eq_true_iff] at h
    obtain ⟨⟨h1, h2⟩, h3, h4⟩ := h
    have hlt := foldN_lt _ h4 0
    have hp : 10 ^ s.data.toList.length ≤ 10 ^ 6 := Nat.pow_le_pow_right (by omega) h2
    refine ⟨by omega, by omega, ?_⟩
    rw [itoa_nat]
    exact (decD_of _ _ rfl h1 h3 h4).symm
  · exact .inl rfl
theorem rdS_itoa (s : ByteArray) (v : Int) (h0 : 0 ≤ v) (h1 : v ≤ 999999) (h : s.data.toList = Lib.itoa v) : rdS s = v := by
  obtain ⟨n, rfl⟩ := Int.eq_ofNat_of_zero_le h0
  unfold rdS
  rw [h, itoa_nat, if_pos (canon_dec n (by omega)), (dec_dig n).2]
theorem bt_dig (s : ByteArray) (i : Int) (h0 : 0 ≤ i) (h1 : i < s.size) : ∃ h : i.toNat < s.data.toList.length, bt s i = ((s.data.toList[i.toNat]).toNat : Int) := bt_list s i h0 h1
theorem l1Read_l0_ev (s : ByteArray) (hs : s.size ≤ 6) : ∀ i : Int, 0 ≤ i → i ≤ s.size → ∀ a : Nat, a < 10 ^ i.toNat → Ev (fun k => spec_l1Read.l0 k s a i) (if (s.data.toList.drop i.toNat).all isDig = true then ((foldN a (s.data.toList.drop i.toNat) : Nat) : Int) else -1) := by
  refine downI (fun a ha => ?_) (fun i h0 h1 ih a ha => ?_)
  · refine Ev.step (fun k => by simp only [spec_l1Read.l0]; rw [if_neg (by omega)]) ?_
    rw [List.drop_of_length_le (by rw [← size_list]; omega)]
    exact Ev.now _
  · obtain ⟨hlt, hb⟩ := bt_list s i h0 h1
    rw [List.drop_eq_getElem_cons hlt]
    have hpw : 10 ^ i.toNat ≤ 10 ^ 5 := Nat.pow_le_pow_right (by omega) (by omega)
    by_cases c : 48 ≤ (s.data.toList[i.toNat]).toNat ∧ (s.data.toList[i.toNat]).toNat ≤ 57
    · have e : wrap64 (wrap64 (10 * (a : Int)) + (bt s i - 48) % 256) = ((a * 10 + ((s.data.toList[i.toNat]).toNat - 48) : Nat) : Int) := by
        rw [w64 (x := 10 * (a : Int)) (by omega) (by omega), hb, show (((s.data.toList[i.toNat]).toNat : Int) - 48) % 256 = (((s.data.toList[i.toNat]).toNat - 48 : Nat) : Int) by omega, w64 (by omega) (by omega)]
        omega
      refine Ev.step (fun k => by simp only [spec_l1Read.l0]; rw [if_pos h1, if_pos h0, if_neg (by rw [hb]; omega), if_neg (by rw [hb]; omega), e, w64 (x := i + 1) (by omega) (by omega)]) ?_
      have h := ih (a * 10 + ((s.data.toList[i.toNat]).toNat - 48)) (by rw [show (i + 1).toNat = i.toNat + 1 by omega, Nat.pow_succ]; omega)
      rw [show (i + 1).toNat = i.toNat + 1 by omega] at h
      rw [List.all_cons, show isDig (s.data.toList[i.toNat]) = true from decide_eq_true c, Bool.true_and]
      exact h
    · rw [List.all_cons, show isDig (s.data.toList[i.toNat]) = false from decide_eq_false c, Bool.false_and, if_neg (by simp)]
      by_cases c1 : bt s i < 48
      · exact Ev.step (fun k => by simp only [spec_l1Read.l0]; rw [if_pos h1, if_pos h0, if_pos c1]) (Ev.now _)
      · exact Ev.step (fun k => by simp only [spec_l1Read.l0]; rw [if_pos h1, if_pos h0, if_neg c1, if_pos (by rw [hb] at c1 ⊢; omega)]) (Ev.now _)
theorem l1Read_ev (s : ByteArray) : Ev (fun k => spec_l1Read.f k s) (rdS s) := by
  unfold spec_l1Read.f
  simp only [in_eq, Option.bind_some]
  by_cases h : 1 ≤ (s.size : Int) ∧ (s.size : Int) ≤ 6
  · simp only [h, and_self, decide_true, if_true]
    have hsl := size_list s
    obtain ⟨hlt, hb⟩ := bt_list s 0 (by omega) (by omega)
    have hhd : s.data.toList.head? = some (s.data.toList[(0 : Int).toNat]) := by
      rw [List.head?_eq_getElem?]
      exact List.getElem?_eq_getElem hlt
    have h0 := l1Read_l0_ev s (by omega) 0 (by omega) (by omega) 0 (by simp)
    simp only [Int.toNat_zero, List.drop_zero] at h0
    refine Ev.congr (fun k => by rw [if_pos (by omega)]) ?_
    by_cases z : bt s 0 = 48 ∧ (s.size : Int) > 1
    · refine Ev.congr (fun k => by rw [if_pos z.1]) ?_
      refine Ev.step (fun k => by simp only [spec_l1Read.j0]; rw [if_pos (decide_eq_true z.2)]) ?_
      have e : rdS s = -1 := by
        unfold rdS
        refine if_neg (fun hc => ?_)
        unfold canon at hc
        rw [Bool.and_eq_true, Bool.and_eq_true, decide_eq_true_iff, decide_eq_true_iff] at hc
        rcases hc.2.1 with h2 | h2
        · refine h2 ?_
          rw [hhd]
          congr 1
          have := z.1
          rw [hb] at this
          exact UInt8.toNat_inj.1 (by simpa using (by omega : (s.data.toList[(0 : Int).toNat]).toNat = 48))
        · omega
      rw [e]
      exact Ev.now _
    · have key : Ev (fun k => spec_l1Read.j0 k s false) (rdS s) := by
        refine Ev.step (fun k => by simp only [spec_l1Read.j0]; rw [if_neg (by simp)]) ?_
        have e : rdS s = (if s.data.toList.all isDig = true then ((foldN 0 s.data.toList : Nat) : Int) else -1) := by
          unfold rdS canon
          rw [decide_eq_true (by omega : 1 ≤ s.data.toList.length ∧ s.data.toList.length ≤ 6), Bool.true_and, decide_eq_true (show s.data.toList.head? ≠ some 48 ∨ s.data.toList.length = 1 from ?_), Bool.true_and]
          by_cases h1 : s.data.toList.length = 1
          · exact .inr h1
          · left
            rw [hhd]
            intro e
            injection e with e
            exact z ⟨by rw [hb, e]; rfl, by omega⟩
        rw [e]
        exact h0
      by_cases z1 : bt s 0 = 48
      · refine Ev.congr (fun k => by rw [if_pos z1, decide_eq_false (fun h2 => z ⟨z1, h2⟩)]) key
      · exact Ev.congr (fun k => by rw [if_neg z1]) key
  · simp only [h, decide_false, Bool.false_eq_true, if_false]
    have e : rdS s = -1 := by
      unfold rdS
      refine if_neg (fun hc => ?_)
      unfold canon at hc
      rw [Bool.and_eq_true, decide_eq_true_iff] at hc
      have := size_list s
      omega
    rw [e]
    exact Ev.step (fun k => by simp only [spec_l1Read.j0, if_true]) (Ev.now _)
/-! what the program reads -/
theorem parse10 : ∀ (l : List UInt8), l.all isDig = true → ∀ a : Nat, (a + 1) * 10 ^ l.length ≤ 1000000000000000000 → Lib.parseUint10 a l = .ok (foldN a l) := by
  intro l
  induction l with
  | nil => intro _ a _; rfl
  | cons c l ih =>
    intro h a ha
    rw [List.all_cons, Bool.and_eq_true] at h
    have hc : 48 ≤ c.toNat ∧ c.toNat ≤ 57 := by simpa [isDig] using h.1
    rw [List.length_cons, Nat.pow_succ] at ha
    have hp : 1 ≤ 10 ^ l.length := Nat.one_le_iff_ne_zero.2 (by simp)
    have h2 : (a * 10 + (c.toNat - 48) + 1) * 10 ^ l.length ≤ ((a + 1) * 10) * 10 ^ l.length := Nat.mul_le_mul_right _ (by omega)
    have h3 : ((a + 1) * 10) * 10 ^ l.length = (a + 1) * (10 ^ l.length * 10) := by rw [Nat.mul_assoc, Nat.mul_comm 10]
    have h4 : (a * 10 + (c.toNat - 48) + 1) * 1 ≤ (a * 10 + (c.toNat - 48) + 1) * 10 ^ l.length := Nat.mul_le_mul_left _ hp
    unfold Lib.parseUint10
    rw [if_pos hc, if_neg (by omega), if_neg (by omega), ih h.2 _ (by omega), foldN_cons]
theorem atoi_dec (n : Nat) (h : n ≤ 999999) : Lib.atoiAll (Lib.decDigits n) = .ok (n : Int) := by
  have hd := dec_dig n
  have hl := dec_len 5 n (by omega)
  have hp : 10 ^ (Lib.decDigits n).length ≤ 10 ^ 6 := Nat.pow_le_pow_right (by omega) hl
  have h10 := parse10 _ hd.1 0 (by omega)
  rw [hd.2] at h10
  cases e : Lib.decDigits n with
  | nil => exact absurd e (dec_ne n)
  | cons c r =>
    have hc : 48 ≤ c.toNat ∧ c.toNat ≤ 57 := by
      have := hd.1
      rw [e, List.all_cons, Bool.and_eq_true] at this
      simpa [isDig] using this.1
    rw [e] at h10
    unfold Lib.atoiAll
    simp only
    rw [if_neg (by omega)]
    unfold Lib.parseMag
    rw [if_neg (by simp), h10]
    simp only
    rw [if_neg (by omega), if_neg (by omega), if_neg (by omega)]
theorem rdNum_ok {s : ByteArray} {v : Int} (h : XText.rdNum s = (v, true)) : s.data.toList = Lib.itoa v := by
  unfold XText.rdNum at h
  split at h
  · next u _ =>
    split at h
    · next he =>
      injection h with h1 _
      subst h1
      have := toList_inj _ _ he
      rw [← this]
    · simp at h
  · simp at h
theorem rdNum_itoa (s : ByteArray) (v : Int) (h0 : 0 ≤ v) (h1 : v ≤ 999999) (h : s.data.toList = Lib.itoa v) : XText.rdNum s = (v, true) := by
  obtain ⟨n, rfl⟩ := Int.eq_ofNat_of_zero_le h0
  have ha : Lib.atoiAll s.data.toList = .ok (n : Int) := by rw [h, itoa_nat]; exact atoi_dec n (by omega)
  unfold XText.rdNum
  rw [ha]
  simp only
  rw [if_pos]
  rw [toList_eq, toList_eq, h]
theorem itoa_free (v : Int) (h0 : 0 ≤ v) (c : UInt8) (hc : isDig c = false) : c ∉ Lib.itoa v := by
  obtain ⟨n, rfl⟩ := Int.eq_ofNat_of_zero_le h0
  rw [itoa_nat]
  intro hm
  have := List.all_eq_true.1 (dec_dig n).1 c hm
  rw [hc] at this
  cases this
theorem cutL_len (c : UInt8) : ∀ l, (cutL c l).length ≤ l.length + 1 := by
  intro l
  induction l with
  | nil => simp [cutL]
  | cons x xs ih =>
    unfold cutL
    split
    · simp; omega
    · cases e : cutL c xs with
      | nil => simp
      | cons y ys => rw [e] at ih; simp at ih ⊢; omega
theorem cutB_len (c : UInt8) (s : ByteArray) : (cutB c s).length ≤ s.size + 1 := by
  unfold cutB
  rw [List.length_map, size_list]
  exact cutL_len c _
theorem cutB_lists (c : UInt8) (s : ByteArray) : (cutB c s).map (fun (x : ByteArray) => x.data.toList) = cutL c s.data.toList := by
  unfold cutB
  rw [List.map_map]
  have : (fun (x : ByteArray) => x.data.toList) ∘ mkB = id := by funext l; exact mkB_list l
  rw [this, List.map_id]
/-- The text is its parts with the byte between them. -/
theorem cutB_join (c : UInt8) (s : ByteArray) : s.data.toList = Lib.join ((cutB c s).map (fun (x : ByteArray) => x.data.toList)) [c] := by
  rw [cutB_lists, cutL_join]
theorem cutB_of (c : UInt8) (s : ByteArray) (ps : List (List UInt8)) (hne : ps ≠ []) (hf : ∀ p, p ∈ ps → c ∉ p) (h : s.data.toList = Lib.join ps [c]) : cutB c s = ps.map mkB := by
  unfold cutB
  rw [h, cutL_of_join c ps hne hf]
def rdAll : List ByteArray → Option (List Int)
  | [] => some []
  | q :: qs => if (XText.rdNum q).2 = true then (rdAll qs).map (fun l => (XText.rdNum q).1 :: l) else none
theorem rdAll_some : ∀ (qs : List ByteArray) (l : List Int), rdAll qs = some l → qs.map (fun (x : ByteArray) => x.data.toList) = l.map Lib.itoa := by
  intro qs
  induction qs with
  | nil => intro l h; simp only [rdAll, Option.some.injEq] at h; subst h; rfl
  | cons q qs ih =>
    intro l h
    unfold rdAll at h
    split at h
    · next hq =>
      obtain ⟨m, hm, rfl⟩ := Option.map_eq_some_iff.1 h
      rw [List.map_cons, List.map_cons, ih m hm]
      congr 1
      exact rdNum_ok (v := (XText.rdNum q).1) (Prod.ext rfl hq)
    · cases h
theorem rdAll_of : ∀ (qs : List ByteArray) (l : List Int), qs.map (fun (x : ByteArray) => x.data.toList) = l.map Lib.itoa → (∀ v, v ∈ l → 0 ≤ v ∧ v ≤ 999999) → rdAll qs = some l := by
  intro qs
  induction qs with
  | nil =>
    intro l h _
    cases l with
    | nil => rfl
    | cons v l => simp at h
  | cons q qs ih =>
    intro l h hb
    cases l with
    | nil => simp at h
    | cons v l =>
      rw [List.map_cons, List.map_cons, List.cons.injEq] at h
      have hv := hb v List.mem_cons_self
      have hr := rdNum_itoa q v hv.1 hv.2 h.1
      unfold rdAll
      rw [hr, if_pos rfl, ih l h.2 (fun x hx => hb x (List.mem_cons_of_mem _ hx))]
      rfl
theorem rdOf_mem (qs : List ByteArray) (i : Int) (h0 : 0 ≤ i) (h1 : i < qs.length) : rdOf ByteArray.empty qs i ∈ qs := get_mem qs ByteArray.empty i h0 h1
def numsR (acc : List Int) : Option (List Int) → List Int × Bool
  | some l => (acc ++ l, true)
  | none => ([], false)
theorem readNums_l0_ev (qs : List ByteArray) (hl : qs.length ≤ 16777217) (hs : ∀ q, q ∈ qs → q.size ≤ 16777216) : ∀ i : Int, 0 ≤ i → i ≤ qs.length → ∀ acc : List Int, (acc.length : Int) ≤ i → Ev (fun k => impl_readNumbers.l0 k acc qs qs.length i) (numsR acc (rdAll (qs.drop i.toNat))) := by
  refine downI (fun acc ha => ?_) (fun i h0 h1 ih acc ha => ?_)
  · refine Ev.step (fun k => by simp only [impl_readNumbers.l0]; rw [if_neg (by omega)]) ?_
    rw [List.drop_of_length_le (by omega)]
    simp only [rdAll, numsR, List.append_nil]
    exact Ev.now _
  · have hq := hs _ (rdOf_mem qs i h0 h1)
    rw [drop_get qs ByteArray.empty i h0 h1]
    change Ev _ (numsR acc (rdAll (rdOf ByteArray.empty qs i :: qs.drop (i + 1).toNat)))
    unfold rdAll
    have st : ∀ k, impl_readNumbers.l0 (k + 1) acc qs qs.length i = if (XText.rdNum (rdOf ByteArray.empty qs i)).2 = true then impl_readNumbers.l0 k (acc ++ [(XText.rdNum (rdOf ByteArray.empty qs i)).1]) qs qs.length (i + 1) else some ([], false) := by
      intro k
      simp only [impl_readNumbers.l0, impl_readNumber.f]
      rw [if_pos h1, if_pos h0, if_pos h1, if_pos (show (rdOf ByteArray.empty qs i).size ≤ 281474976710656 by omega), Option.bind_some]
      simp only
      rw [if_pos (show acc.length < 17592186044416 by omega), w64 (x := i + 1) (by omega) (by omega)]
    by_cases c : (XText.rdNum (rdOf ByteArray.empty qs i)).2 = true
    · refine Ev.step (fun k => by rw [st, if_pos c]) ?_
      rw [if_pos c]
      have h := ih (acc ++ [(XText.rdNum (rdOf ByteArray.empty qs i)).1]) (by simp; omega)
      cases e : rdAll (qs.drop (i + 1).toNat) with
      | none => rw [e] at h; exact h
      | some l =>
        rw [e] at h
        simp only [numsR, List.append_assoc, List.singleton_append] at h
        exact h
    · rw [if_neg c]
      exact Ev.step (fun k => by rw [st, if_neg c]; rfl) (Ev.now _)
theorem readNums_ev (c : UInt8) (s : ByteArray) (hs : s.size ≤ 16777216) : Ev (fun k => impl_readNumbers.f k s (⟨#[c]⟩ : ByteArray)) (numsR [] (rdAll (cutB c s))) := by
  unfold impl_readNumbers.f
  rw [split_eq c s (by omega)]
  simp only [Option.bind_some]
  have hl := cutB_len c s
  exact readNums_l0_ev (cutB c s) (by omega) (fun q hq => by have := cutB_mem hq; omega) 0 (by omega) (by omega) [] (by simp)
structure GoodLine (f e c : Int) (st : List Int) : Prop where
  first : 0 ≤ f ∧ f ≤ 2000
  every : 1 ≤ e ∧ e ≤ 2000
  count : 1 ≤ c ∧ c ≤ 60
  last : f + (c - 1) * e ≤ 2000
  stops : 2 ≤ (st.length : Int) ∧ (st.length : Int) ≤ 12
  zero : rd st 0 = 0
  rise : ∀ i : Int, 1 ≤ i → i < st.length → rd st (i - 1) < rd st i
  top : rd st (st.length - 1) ≤ 500
theorem GoodLine.range {f e c : Int} {st : List Int} (h : GoodLine f e c st) : ∀ i : Int, 0 ≤ i → i < st.length → 0 ≤ rd st i ∧ rd st i ≤ 500 := by
  have up : ∀ n : Nat, (n : Int) < st.length → 0 ≤ rd st n := by
    intro n
    induction n with
    | zero => intro _; have := h.zero; simp at this ⊢; omega
    | succ n ih =>
      intro hn
      have := h.rise ((n + 1 : Nat) : Int) (by omega) hn
      have := ih (by omega)
      rw [show (((n + 1 : Nat) : Int) - 1) = (n : Int) by omega] at *
      omega
  have dn : ∀ i : Int, 0 ≤ i → i ≤ st.length - 1 → rd st i ≤ 500 := by
    refine downI h.top (fun i h0 h1 ih => ?_)
    have := h.rise (i + 1) (by omega) (by omega)
    rw [show i + 1 - 1 = i by omega] at this
    omega
  intro i h0 h1
  have := up i.toNat (by omega)
  rw [show ((i.toNat : Nat) : Int) = i by omega] at this
  exact ⟨this, dn i h0 (by omega)⟩
theorem rising_ev (st : List Int) (hs : st.length ≤ 12) : ∀ i : Int, 0 ≤ i → i ≤ st.length → ∃ b : Bool, Ev (fun k => spec_l1Rising.l0 k st 0 500 st st.length i) b ∧ (b = true ↔ ∀ j : Int, i ≤ j → j < st.length → (0 ≤ rd st j ∧ rd st j ≤ 500) ∧ (0 < j → rd st (j - 1) < rd st j)) := by
  refine downI ?_ (fun i h0 h1 ih => ?_)
  · exact ⟨true, Ev.step (fun k => by simp only [spec_l1Rising.l0]; rw [if_neg (by omega)]) (Ev.now _), by simp; intro j hj hj2; omega⟩
  · obtain ⟨b, hb, hiff⟩ := ih
    have st0 : ∀ k, spec_l1Rising.l0 (k + 1) st 0 500 st st.length i = if decide (0 ≤ rd st i ∧ rd st i ≤ 500) = true then (if i > 0 then (if 0 ≤ i - 1 then (if i - 1 < (st.length : Int) then (if rd st (i - 1) ≥ rd st i then some false else spec_l1Rising.l0 k st 0 500 st st.length (i + 1)) else none) else none) else spec_l1Rising.l0 k st 0 500 st st.length (i + 1)) else some false := fun k => by
      simp only [spec_l1Rising.l0, in_eq, Option.bind_some]
      rw [if_pos h1, if_pos h0, if_pos h1, w64 (x := i + 1) (by omega) (by omega), w64 (x := i - 1) (by omega) (by omega)]
    by_cases a : 0 ≤ rd st i ∧ rd st i ≤ 500
    · by_cases z : i > 0
      · by_cases r : rd st (i - 1) ≥ rd st i
        · refine ⟨false, Ev.step (fun k => by rw [st0, if_pos (decide_eq_true a), if_pos z, if_pos (by omega), if_pos (by omega), if_pos r]) (Ev.now _), ?_⟩
          refine ⟨fun h => (by cases h), fun h => ?_⟩
          have := (h i (Int.le_refl _) h1).2 z
          omega
        · refine ⟨b, Ev.step (fun k => by rw [st0, if_pos (decide_eq_true a), if_pos z, if_pos (by omega), if_pos (by omega), if_neg r]) hb, ?_⟩
          rw [hiff]
          refine ⟨fun h j hj hj2 => ?_, fun h j hj hj2 => h j (by omega) hj2⟩
          by_cases e : j = i
          · subst e; exact ⟨a, fun _ => by omega⟩
          · exact h j (by omega) hj2
      · refine ⟨b, Ev.step (fun k => by rw [st0, if_pos (decide_eq_true a), if_neg z]) hb, ?_⟩
        rw [hiff]
        refine ⟨fun h j hj hj2 => ?_, fun h j hj hj2 => h j (by omega) hj2⟩
        by_cases e : j = i
        · subst e; exact ⟨a, fun q => absurd q z⟩
        · exact h j (by omega) hj2
    · refine ⟨false, Ev.step (fun k => by rw [st0, if_neg (by simpa using a)]) (Ev.now _), ?_⟩
      exact ⟨fun h => (by cases h), fun h => absurd (h i (Int.le_refl _) h1).1 a⟩
theorem increasing_ev (st : List Int) (hs : st.length ≤ 12) : ∀ i : Int, 1 ≤ i → i ≤ st.length → ∃ b : Bool, Ev (fun k => impl_increasing.l0 k st i) b ∧ (b = true ↔ ∀ j : Int, i ≤ j → j < st.length → rd st (j - 1) < rd st j) := by
  refine downA ?_ (fun i h0 h1 ih => ?_)
  · exact ⟨true, Ev.step (fun k => by simp only [impl_increasing.l0]; rw [if_neg (by omega)]) (Ev.now _), by simp; intro j hj hj2; omega⟩
  · obtain ⟨b, hb, hiff⟩ := ih
    have st0 : ∀ k, impl_increasing.l0 (k + 1) st i = if rd st (i - 1) ≥ rd st i then some false else impl_increasing.l0 k st (i + 1) := fun k => by
      simp only [impl_increasing.l0]
      rw [w64 (x := i + 1) (by omega) (by omega), w64 (x := i - 1) (by omega) (by omega), if_pos h1, if_pos (by omega), if_pos (by omega), if_pos (by omega)]
    by_cases r : rd st (i - 1) ≥ rd st i
    · refine ⟨false, Ev.step (fun k => by rw [st0, if_pos r]) (Ev.now _), ?_⟩
      refine ⟨fun h => (by cases h), fun h => ?_⟩
      have := h i (Int.le_refl _) h1
      omega
    · refine ⟨b, Ev.step (fun k => by rw [st0, if_neg r]) hb, ?_⟩
      rw [hiff]
      refine ⟨fun h j hj hj2 => ?_, fun h j hj hj2 => h j (by omega) hj2⟩
      by_cases e : j = i
      · subst e; omega
      · exact h j (by omega) hj2
theorem line_sum {f e c : Int} (hf : 0 ≤ f ∧ f ≤ 2000) (he : 1 ≤ e ∧ e ≤ 2000) (hc : 1 ≤ c ∧ c ≤ 60) : wrap64 (f + wrap64 (wrap64 (c - 1) * e)) = f + (c - 1) * e := by
  have b := mul_bd (A := 60) (B := 2000) (by omega : 0 ≤ c - 1) (by omega) (by omega : 0 ≤ e) (by omega)
  rw [w64 (x := c - 1) (by omega) (by omega), w64 (x := (c - 1) * e) (by omega) (by omega), w64 (by omega) (by omega)]
theorem buGood_ev (f e c : Int) (st : List Int) : Ev (fun k => spec_buGood.f k f e c st) (dec (GoodLine f e c st)) := by
  have bad : ∀ {x : Bool}, ¬ GoodLine f e c st → x = true → Ev (fun k => spec_buGood.j0 k x f e c st) (dec (GoodLine f e c st)) := by
    intro x hn hx
    subst hx
    rw [dec_false hn]
    exact Ev.step (fun k => by simp only [spec_buGood.j0]; rw [if_pos trivial]) (Ev.now _)
  unfold spec_buGood.f
  simp only [in_eq, Option.bind_some, decide_eq_true_eq]
  by_cases h1 : 0 ≤ f ∧ f ≤ 2000
  · by_cases h2 : 1 ≤ e ∧ e ≤ 2000
    · simp only [if_pos h1, if_pos h2]
      by_cases h3 : 1 ≤ c ∧ c ≤ 60
      · have e3 : (!decide (1 ≤ c ∧ c ≤ 60)) = false := by rw [decide_eq_true h3]; rfl
        rw [e3]
        refine Ev.step (fun k => by simp only [spec_buGood.j0]; rw [if_neg (by simp), line_sum h1 h2 h3, in_eq, Option.bind_some]) ?_
        by_cases h4 : f + (c - 1) * e > 2000
        · rw [dec_false (fun g => by have := g.last; omega)]
          simp only [if_pos h4]; exact Ev.now _
        · simp only [if_neg h4]
          by_cases h5 : 2 ≤ (st.length : Int) ∧ (st.length : Int) ≤ 12
          · simp only [if_pos (decide_eq_true h5), if_pos (show 0 < (st.length : Int) by omega)]
            by_cases h6 : rd st 0 = 0
            · simp only [if_pos h6]
              obtain ⟨b, hb, hiff⟩ := rising_ev st (by omega) 0 (by omega) (by omega)
              have : b = dec (GoodLine f e c st) := dec_of (by
                rw [hiff]
                refine ⟨fun h => ⟨h1, h2, h3, by omega, h5, h6, fun i hi hi2 => (h i (by omega) hi2).2 (by omega), (h (st.length - 1) (by omega) (by omega)).1.2⟩, fun g j hj hj2 => ⟨g.range j hj hj2, fun hp => g.rise j (by omega) hj2⟩⟩)
              rw [← this]
              exact Ev.bind hb (Ev.now _)
            · rw [dec_false (fun g => h6 g.zero)]
              simp only [if_neg h6]; exact Ev.now _
          · rw [dec_false (fun g => h5 g.stops)]
            have : decide (2 ≤ (st.length : Int) ∧ (st.length : Int) ≤ 12) = false := decide_eq_false h5
            simp only [this, Bool.false_eq_true, if_false]; exact Ev.now _
      · exact bad (fun g => h3 g.count) (by rw [decide_eq_false h3]; rfl)
    · simp only [if_pos h1, if_neg h2]
      exact bad (fun g => h2 g.every) rfl
  · simp only [if_neg h1]
    exact bad (fun g => h1 g.first) rfl
theorem isLine_ev (f e c : Int) (st : List Int) : Ev (fun k => impl_IsLine.f k f e c st) (dec (GoodLine f e c st)) := by
  have bad : ∀ {x : Bool}, ¬ GoodLine f e c st → x = true → Ev (fun k => impl_IsLine.j0 k x f e c st) (dec (GoodLine f e c st)) := by
    intro x hn hx
    subst hx
    rw [dec_false hn]
    exact Ev.step (fun k => by simp only [impl_IsLine.j0]; rw [if_pos trivial]) (Ev.now _)
  unfold impl_IsLine.f impl_isMinute.f
  simp only [within_eq, Option.bind_some, decide_eq_true_eq]
  by_cases h1 : 0 ≤ f ∧ f ≤ 2000
  · by_cases h2 : 1 ≤ e ∧ e ≤ 2000
    · by_cases h3 : 1 ≤ c ∧ c ≤ 60
      · simp only [if_pos h1, if_pos h2, if_pos h3, line_sum h1 h2 h3]
        by_cases h4 : f + (c - 1) * e > 2000
        · exact bad (fun g => by have := g.last; omega) (decide_eq_true h4)
        · rw [decide_eq_false h4]
          refine Ev.step (fun k => by simp only [impl_IsLine.j0]; rw [if_neg (by simp), within_eq, Option.bind_some]) ?_
          by_cases h5 : 2 ≤ (st.length : Int) ∧ (st.length : Int) ≤ 12
          · simp only [if_pos (decide_eq_true h5), if_pos (show 0 < (st.length : Int) by omega)]
            by_cases h6 : rd st 0 = 0
            · simp only [if_pos h6]
              obtain ⟨b, hb, hiff⟩ := increasing_ev st (by omega) 1 (by omega) (by omega)
              refine Ev.bind (g := fun k => impl_increasing.f k st) hb ?_
              rw [w64 (x := (st.length : Int) - 1) (by omega) (by omega)]
              simp only [if_pos (show 0 ≤ (st.length : Int) - 1 by omega), if_pos (show (st.length : Int) - 1 < st.length by omega)]
              by_cases hb2 : b = true
              · simp only [if_pos hb2]
                have : decide (rd st ((st.length : Int) - 1) ≤ 500) = dec (GoodLine f e c st) := dec_of (by
                  rw [decide_eq_true_iff]
                  exact ⟨fun h => ⟨h1, h2, h3, by omega, h5, h6, hiff.1 hb2, h⟩, fun g => g.top⟩)
                rw [← this]
                exact Ev.now _
              · rw [dec_false (fun g => hb2 (hiff.2 g.rise))]
                simp only [if_neg hb2]; exact Ev.now _
            · rw [dec_false (fun g => h6 g.zero)]
              simp only [if_neg h6]; exact Ev.now _
          · rw [dec_false (fun g => h5 g.stops)]
            have : decide (2 ≤ (st.length : Int) ∧ (st.length : Int) ≤ 12) = false := decide_eq_false h5
            simp only [this, Bool.false_eq_true, if_false]; exact Ev.now _
      · simp only [if_pos h1, if_pos h2, if_neg h3]
        exact bad (fun g => h3 g.count) rfl
    · simp only [if_pos h1, if_neg h2]
      exact bad (fun g => h2 g.every) rfl
  · simp only [if_neg h1]
    exact bad (fun g => h1 g.first) rfl
theorem joinNums_l0_ev (s : ByteArray) (l : List Int) (hl : l.length ≤ 1048576) (hr : ∀ x, x ∈ l → 0 ≤ x ∧ x ≤ 1000000000) (hj : (Lib.join (l.map Lib.itoa) s.data.toList).length ≤ 140737488355328) : ∀ i : Int, 0 ≤ i → i ≤ l.length → ∀ acc : List ByteArray, acc.length = l.length → acc.take i.toNat = (l.map txt).take i.toNat → Ev (fun k => impl_joinNumbers.l0 k s acc l l.length i) (⟨(Lib.join (l.map Lib.itoa) s.data.toList).toArray⟩ : ByteArray) := by
  refine downI (fun acc ha ht => ?_) (fun i h0 h1 ih acc ha ht => ?_)
  · have e : acc = l.map txt := by
      rw [List.take_of_length_le (by omega), List.take_of_length_le (by simp)] at ht
      exact ht
    have e2 : (l.map txt).map (fun (x : ByteArray) => x.data.toList) = l.map Lib.itoa := by
      rw [List.map_map]
      rfl
    refine Ev.step (fun k => by simp only [impl_joinNumbers.l0]; rw [if_neg (by omega), strings_Join.f, e, e2, if_pos ⟨by simp; omega, hj⟩]; rfl) (Ev.now _)
  · have hx := hr _ (get_mem l 0 i h0 h1)
    change 0 ≤ rd l i ∧ rd l i ≤ 1000000000 at hx
    refine Ev.step (fun k => by simp only [impl_joinNumbers.l0]; rw [if_pos h1, if_pos h0, if_pos h1, itoa_ev _ (by omega) (by omega), Option.bind_some, if_pos (by omega), w64 (x := i + 1) (by omega) (by omega)]) (ih (acc.set i.toNat (txt (rd l i))) (by simpa using ha) ?_)
    have hg : (l.map txt)[i.toNat]? = some (txt (rd l i)) := by
      rw [List.getElem?_map, List.getElem?_eq_getElem (show i.toNat < l.length by omega)]
      unfold rd
      rw [List.getD_eq_getElem?_getD, List.getElem?_eq_getElem (show i.toNat < l.length by omega)]
      rfl
    rw [show (i + 1).toNat = i.toNat + 1 by omega, List.take_succ_eq_append_getElem (by rw [List.length_set]; omega), List.getElem_set_self, List.take_set_of_le (Nat.le_refl _), ht, List.take_add_one, hg]
    rfl
theorem joinNums_ev (s : ByteArray) (l : List Int) (hl : l.length ≤ 1048576) (hr : ∀ x, x ∈ l → 0 ≤ x ∧ x ≤ 1000000000) (hj : (Lib.join (l.map Lib.itoa) s.data.toList).length ≤ 140737488355328) : Ev (fun k => impl_joinNumbers.f k l s) (⟨(Lib.join (l.map Lib.itoa) s.data.toList).toArray⟩ : ByteArray) := by
  unfold impl_joinNumbers.f
  refine Ev.congr (fun k => by rw [if_pos (by omega), if_pos (by omega)]) ?_
  exact joinNums_l0_ev s l hl hr hj 0 (by omega) (by omega) _ (by simp) (by simp)
/-- Two numbers with a text between them. -/
def txt2 (s : List UInt8) (a b : Int) : List UInt8 := Lib.itoa a ++ (s ++ Lib.itoa b)
theorem joinNums2_ev (s : ByteArray) (hs : s.size ≤ 1000) (a b : Int) (ha : 0 ≤ a ∧ a ≤ 1000000000) (hb : 0 ≤ b ∧ b ≤ 1000000000) : Ev (fun k => impl_joinNumbers.f k [a, b] s) (⟨(txt2 s.data.toList a b).toArray⟩ : ByteArray) := by
  have e : Lib.join ([a, b].map Lib.itoa) s.data.toList = txt2 s.data.toList a b := by
    unfold txt2
    rw [List.map_cons, List.map_cons, List.map_nil, Lib.join_cons]
    simp [Lib.joinTail]
  have la := itoa_len a ha.1
  have lb := itoa_len b hb.1
  have ls : s.data.toList.length = s.size := Array.length_toList
  have h := joinNums_ev s [a, b] (by simp) (fun x hx => by
    rcases List.mem_cons.1 hx with rfl | hx
    · exact ha
    · rw [List.mem_singleton.1 hx]; exact hb) (by rw [e]; unfold txt2; simp only [List.length_append]; omega)
  rw [e] at h
  exact h
theorem join_snoc (xs : List (List UInt8)) (x sep : List UInt8) (h : xs ≠ []) : Lib.join (xs ++ [x]) sep = Lib.join xs sep ++ sep ++ x := by
  cases xs with
  | nil => exact absurd rfl h
  | cons y ys =>
    rw [List.cons_append, Lib.join_cons, Lib.join_cons]
    simp [Lib.joinTail, List.append_assoc]
theorem joinTail_len (M : Nat) (sep : List UInt8) : ∀ xs : List (List UInt8), (∀ x, x ∈ xs → x.length ≤ M) → (Lib.joinTail sep xs).length ≤ xs.length * (M + sep.length) := by
  intro xs
  induction xs with
  | nil => intro _; simp [Lib.joinTail]
  | cons y ys ih =>
    intro h
    have h1 := ih (fun x hx => h x (List.mem_cons_of_mem _ hx))
    have h2 := h y List.mem_cons_self
    have e : Lib.joinTail sep (y :: ys) = sep ++ y ++ Lib.joinTail sep ys := by simp [Lib.joinTail]
    rw [e, List.length_append, List.length_append, List.length_cons, Nat.succ_mul]
    omega
theorem join_len (M : Nat) (sep : List UInt8) (xs : List (List UInt8)) (h : ∀ x, x ∈ xs → x.length ≤ M) : (Lib.join xs sep).length ≤ xs.length * (M + sep.length) := by
  cases xs with
  | nil => simp [Lib.join_nil]
  | cons y ys =>
    have h1 := joinTail_len M sep ys (fun x hx => h x (List.mem_cons_of_mem _ hx))
    have h2 := h y List.mem_cons_self
    rw [Lib.join_cons, List.length_append, List.length_cons, Nat.succ_mul]
    omega
theorem nums_take (l : List Int) (i : Int) (h0 : 0 ≤ i) (h1 : i < l.length) : (l.map Lib.itoa).take (i + 1).toNat = (l.map Lib.itoa).take i.toNat ++ [Lib.itoa (rd l i)] := by
  rw [show (i + 1).toNat = i.toNat + 1 by omega, List.take_add_one]
  have hg : (l.map Lib.itoa)[i.toNat]? = some (Lib.itoa (rd l i)) := by
    rw [List.getElem?_map, List.getElem?_eq_getElem (show i.toNat < l.length by omega)]
    unfold rd
    rw [List.getD_eq_getElem?_getD, List.getElem?_eq_getElem (show i.toNat < l.length by omega)]
    rfl
  rw [hg]
  rfl
/-- The head of a line's text. -/
def headT (f e c : Int) : List UInt8 := Lib.itoa f ++ [43] ++ Lib.itoa e ++ [120] ++ Lib.itoa c ++ [58]
def lineT (f e c : Int) (st : List Int) : List UInt8 := headT f e c ++ Lib.join (st.map Lib.itoa) [44]
theorem GoodLine.mem {f e c : Int} {st : List Int} (h : GoodLine f e c st) (x : Int) (hx : x ∈ st) : 0 ≤ x ∧ x ≤ 500 := by
  obtain ⟨j, hj, rfl⟩ := List.getElem_of_mem hx
  have := h.range (j : Int) (by omega) (by omega)
  unfold rd at this
  rw [Int.toNat_natCast, List.getD_eq_getElem?_getD, List.getElem?_eq_getElem hj] at this
  exact this
theorem GoodLine.head_len {f e c : Int} {st : List Int} (h : GoodLine f e c st) : (headT f e c).length ≤ 4070 := by
  have a := h.first
  have b := h.every
  have d := h.count
  have l1 := itoa_len f a.1
  have l2 := itoa_len e (by omega)
  have l3 := itoa_len c (by omega)
  unfold headT
  simp only [List.length_append, List.length_cons, List.length_nil]
  omega
theorem GoodLine.joinT_len {f e c : Int} {st : List Int} (h : GoodLine f e c st) (n : Nat) : (Lib.join ((st.map Lib.itoa).take n) [44]).length ≤ 6024 := by
  have h1 := join_len 501 [44] ((st.map Lib.itoa).take n) (fun x hx => by
    obtain ⟨y, hy, rfl⟩ := List.mem_map.1 (List.mem_of_mem_take hx)
    have hm := h.mem y hy
    have := itoa_len y hm.1
    omega)
  have h2 : ((st.map Lib.itoa).take n).length ≤ 12 := by
    have := h.stops
    rw [List.length_take, List.length_map]; omega
  have h3 : ((st.map Lib.itoa).take n).length * (501 + ([44] : List UInt8).length) ≤ 12 * (501 + ([44] : List UInt8).length) := Nat.mul_le_mul_right _ h2
  simp only [List.length_cons, List.length_nil] at h1 h3
  omega
theorem buText_l0_ev {f e c : Int} {st : List Int} (g : GoodLine f e c st) : ∀ i : Int, 0 ≤ i → i ≤ st.length → Ev (fun k => spec_buText.l0 k (⟨(headT f e c ++ Lib.join ((st.map Lib.itoa).take i.toNat) [44]).toArray⟩ : ByteArray) st st.length i) (⟨(lineT f e c st).toArray⟩ : ByteArray) := by
  have hst := g.stops
  have hh := g.head_len
  refine downI ?_ (fun i h0 h1 ih => ?_)
  · refine Ev.step (fun k => by simp only [spec_buText.l0]; rw [if_neg (by omega)]) ?_
    rw [List.take_of_length_le (by simp)]
    exact Ev.now _
  · have hr := g.range i h0 h1
    have lj := g.joinT_len i.toNat
    have n1 := l1Num_txt (rd st i) (by omega) (by omega)
    have la := txt_size (rd st i) (by omega)
    by_cases z : i > 0
    · have hne : (st.map Lib.itoa).take i.toNat ≠ [] := by
        intro h
        have := congrArg List.length h
        rw [List.length_take, List.length_map, List.length_nil] at this
        omega
      have e44 : (⟨#[44]⟩ : ByteArray).size = 1 := rfl
      have e : (⟨(headT f e c ++ Lib.join ((st.map Lib.itoa).take i.toNat) [44]).toArray⟩ : ByteArray) ++ (⟨#[44]⟩ : ByteArray) ++ txt (rd st i) = ⟨(headT f e c ++ Lib.join ((st.map Lib.itoa).take (i + 1).toNat) [44]).toArray⟩ := by
        unfold txt
        rw [nums_take st i h0 h1, join_snoc _ _ _ hne, show (⟨#[44]⟩ : ByteArray) = ⟨([44] : List UInt8).toArray⟩ from rfl, ba_append, ba_append]
        simp only [List.append_assoc]
      refine Ev.step (fun k => by simp only [spec_buText.l0]; rw [if_pos h1, if_pos h0, if_pos h1, if_pos z, if_pos (by rw [ba_size, List.length_append]; omega), w64 (x := i + 1) (by omega) (by omega)]) ?_
      refine Ev.bind n1 (Ev.congr (fun k => by rw [if_pos (by rw [ByteArray.size_append, ba_size, List.length_append]; omega), e]) ih)
    · obtain rfl : i = 0 := by omega
      have e : (⟨(headT f e c ++ Lib.join ((st.map Lib.itoa).take (0 : Int).toNat) [44]).toArray⟩ : ByteArray) ++ txt (rd st 0) = ⟨(headT f e c ++ Lib.join ((st.map Lib.itoa).take (0 + 1 : Int).toNat) [44]).toArray⟩ := by
        unfold txt
        rw [nums_take st 0 h0 h1, ba_append]
        simp [Lib.join_nil, Lib.join_one]
      refine Ev.step (fun k => by simp only [spec_buText.l0]; rw [if_pos h1, if_pos h0, if_pos h1, if_neg z, w64 (x := 0 + 1) (by omega) (by omega)]) ?_
      refine Ev.bind n1 (Ev.congr (fun k => by rw [if_pos (by rw [ba_size, List.length_append]; omega), e]) ih)
theorem headTxt (f e c : Int) : txt f ++ (⟨#[43]⟩ : ByteArray) ++ txt e ++ (⟨#[120]⟩ : ByteArray) ++ txt c ++ (⟨#[58]⟩ : ByteArray) = ⟨(headT f e c).toArray⟩ := by
  unfold txt headT
  rw [show (⟨#[43]⟩ : ByteArray) = ⟨([43] : List UInt8).toArray⟩ from rfl, show (⟨#[120]⟩ : ByteArray) = ⟨([120] : List UInt8).toArray⟩ from rfl, show (⟨#[58]⟩ : ByteArray) = ⟨([58] : List UInt8).toArray⟩ from rfl, ba_append, ba_append, ba_append, ba_append, ba_append]
theorem buText_ev {f e c : Int} {st : List Int} (g : GoodLine f e c st) : Ev (fun k => spec_buText.f k f e c st) (⟨(lineT f e c st).toArray⟩ : ByteArray) := by
  have a := g.first
  have b := g.every
  have d := g.count
  have l1 := txt_size f a.1
  have l2 := txt_size e (by omega)
  have l3 := txt_size c (by omega)
  have e43 : (⟨#[43]⟩ : ByteArray).size = 1 := rfl
  have e120 : (⟨#[120]⟩ : ByteArray).size = 1 := rfl
  have e58 : (⟨#[58]⟩ : ByteArray).size = 1 := rfl
  unfold spec_buText.f
  refine Ev.bind (l1Num_txt f a.1 (by omega)) ?_
  refine Ev.congr (fun k => by rw [if_pos (by omega)]) ?_
  refine Ev.bind (l1Num_txt e (by omega) (by omega)) ?_
  refine Ev.congr (fun k => by rw [if_pos (by simp only [ByteArray.size_append]; omega), if_pos (by simp only [ByteArray.size_append]; omega)]) ?_
  refine Ev.bind (l1Num_txt c (by omega) (by omega)) ?_
  refine Ev.congr (fun k => by rw [if_pos (by simp only [ByteArray.size_append]; omega), if_pos (by simp only [ByteArray.size_append]; omega), headTxt]) ?_
  have h := buText_l0_ev g 0 (by omega) (by omega)
  simp only [Int.toNat_zero, List.take_zero, Lib.join_nil, List.append_nil] at h
  exact h
theorem lineText_ev {f e c : Int} {st : List Int} (g : GoodLine f e c st) : Ev (fun k => impl_lineText.f k f e c st) (⟨(lineT f e c st).toArray⟩ : ByteArray) := by
  have a := g.first
  have b := g.every
  have d := g.count
  have hst := g.stops
  have l1 := txt_size f a.1
  have l2 := txt_size e (by omega)
  have l3 := txt_size c (by omega)
  have e43 : (⟨#[43]⟩ : ByteArray).size = 1 := rfl
  have e120 : (⟨#[120]⟩ : ByteArray).size = 1 := rfl
  have e58 : (⟨#[58]⟩ : ByteArray).size = 1 := rfl
  have lj := g.joinT_len st.length
  rw [List.take_of_length_le (by simp)] at lj
  have hh := g.head_len
  have hj := joinNums_ev (⟨#[44]⟩ : ByteArray) st (by omega) (fun x hx => by have := g.mem x hx; omega) (show (Lib.join (st.map Lib.itoa) [44]).length ≤ 140737488355328 by omega)
  unfold impl_lineText.f
  simp only [itoa_ev f (by omega) (by omega), itoa_ev e (by omega) (by omega), itoa_ev c (by omega) (by omega), Option.bind_some]
  refine Ev.congr (fun k => by rw [if_pos (by omega), if_pos (by simp only [ByteArray.size_append]; omega), if_pos (by simp only [ByteArray.size_append]; omega), if_pos (by simp only [ByteArray.size_append]; omega), if_pos (by simp only [ByteArray.size_append]; omega), headTxt]) ?_
  refine Ev.bind hj ?_
  refine Ev.congr (fun k => by rw [if_pos (by rw [ba_size, ba_size]; change _ + (Lib.join (st.map Lib.itoa) [44]).length ≤ _; omega), ba_append]; rfl) (Ev.now _)
theorem eqIntS_l0_ev (l : List Int) (hl : l.length ≤ 1048576) : ∀ i : Int, 0 ≤ i → i ≤ l.length → Ev (fun k => laws_eqIntS.l0 k l l i) true := by
  refine downI ?_ (fun i h0 h1 ih => ?_)
  · exact Ev.step (fun k => by simp only [laws_eqIntS.l0]; rw [if_neg (by omega)]) (Ev.now _)
  · refine Ev.step (fun k => by simp only [laws_eqIntS.l0, if_true]; rw [if_pos h1, if_pos h0, if_pos h1, w64 (x := i + 1) (by omega) (by omega)]) ih
theorem eqIntS_ev (l : List Int) (hl : l.length ≤ 1048576) : Ev (fun k => laws_eqIntS.f k l l) true := by
  refine Ev.congr (fun k => by unfold laws_eqIntS.f; rw [if_pos rfl]) ?_
  exact eqIntS_l0_ev l hl 0 (by omega) (by omega)
/-- m, m + 1, m + 2, ..: n of them. -/
def upFrom (m : Int) : Nat → List Int
  | 0 => []
  | n + 1 => m :: upFrom (m + 1) n
theorem upFrom_length : ∀ (n : Nat) (m : Int), (upFrom m n).length = n := by
  intro n
  induction n with
  | zero => intro m; rfl
  | succ n ih => intro m; simp [upFrom, ih]
theorem markIntS_l0_ev : ∀ (d : Nat) (x : List Int) (m i : Int), 0 ≤ i → (x.length : Int) - i = d → x.length ≤ 1048576 → -1000000000 ≤ m → m + d ≤ 1000000000000 → Ev (fun k => laws_markIntS.l0 k x m i) (m + d, x.take i.toNat ++ upFrom m d) := by
  intro d
  induction d with
  | zero =>
    intro x m i h0 hd hl _ _
    refine Ev.step (fun k => by simp only [laws_markIntS.l0]; rw [if_neg (by omega)]) ?_
    rw [List.take_of_length_le (by omega)]
    simp only [upFrom, List.append_nil]
    have : m + ((0 : Nat) : Int) = m := by omega
    rw [this]
    exact Ev.now _
  | succ d ih =>
    intro x m i h0 hd hl hm hm2
    refine Ev.step (fun k => by simp only [laws_markIntS.l0]; rw [if_pos (by omega), if_pos h0, w64 (x := m + 1) (by omega) (by omega), w64 (x := i + 1) (by omega) (by omega)]) ?_
    have h := ih (x.set i.toNat m) (m + 1) (i + 1) (by omega) (by simp; omega) (by simpa using hl) (by omega) (by omega)
    rw [show (i + 1).toNat = i.toNat + 1 by omega, set_fill x (upFrom (m + 1) d) i.toNat m (by omega)] at h
    rw [show m + ((d + 1 : Nat) : Int) = m + 1 + (d : Int) by omega]
    exact h
theorem heldIntS_l0_ev : ∀ (d : Nat) (x : List Int) (m i : Int), 0 ≤ i → x.length ≤ 1048576 → x.drop i.toNat = upFrom m d → (x.length : Int) - i = d → -1000000000 ≤ m → m + d ≤ 1000000000000 → Ev (fun k => laws_heldIntS.l0 k x m i) (m + d) := by
  intro d
  induction d with
  | zero =>
    intro x m i h0 hl hx hd _ _
    refine Ev.step (fun k => by simp only [laws_heldIntS.l0]; rw [if_neg (by omega)]) ?_
    have : m + ((0 : Nat) : Int) = m := by omega
    rw [this]
    exact Ev.now _
  | succ d ih =>
    intro x m i h0 hl hx hd hm hm2
    have hi : i < (x.length : Int) := by omega
    rw [drop_get x 0 i h0 hi] at hx
    simp only [upFrom, List.cons.injEq] at hx
    have e : rd x i = m := hx.1
    refine Ev.step (fun k => by simp only [laws_heldIntS.l0]; rw [if_pos hi, if_pos h0, if_pos e, w64 (x := m + 1) (by omega) (by omega), w64 (x := i + 1) (by omega) (by omega)]) ?_
    rw [show m + ((d + 1 : Nat) : Int) = m + 1 + (d : Int) by omega]
    exact ih x (m + 1) (i + 1) (by omega) hl hx.2 (by omega) (by omega) (by omega)
theorem markIntS_ev (x : List Int) (m : Int) (hl : x.length ≤ 1048576) (h0 : 0 ≤ m) (h1 : m ≤ 1000000000) : Ev (fun k => laws_markIntS.f k x m) (m + x.length, upFrom m x.length) := by
  unfold laws_markIntS.f
  have h := markIntS_l0_ev x.length x m 0 (by omega) (by omega) hl (by omega) (by omega)
  simpa using h
theorem heldIntS_ev (n : Nat) (m : Int) (hl : n ≤ 1048576) (h0 : 0 ≤ m) (h1 : m ≤ 1000000000) : Ev (fun k => laws_heldIntS.f k (upFrom m n) m) (m + n) := by
  unfold laws_heldIntS.f
  have h := heldIntS_l0_ev n (upFrom m n) m 0 (by omega) (by rw [upFrom_length]; exact hl) (by simp) (by rw [upFrom_length]; omega) (by omega) (by omega)
  simpa using h
theorem dec_len' (k : Nat) (v : Int) (h0 : 0 ≤ v) (h : v < 10 ^ (k + 1)) : (Lib.itoa v).length ≤ k + 1 := by
  obtain ⟨n, rfl⟩ := Int.eq_ofNat_of_zero_le h0
  rw [itoa_nat]
  exact dec_len k n (by exact_mod_cast h)
theorem cut_app (c : UInt8) (a b : List UInt8) (h : c ∉ a) : Lib.cut (a ++ c :: b) [c] = (a, b, true) := by
  have hi : Lib.index (a ++ c :: b) [c] = (a.length : Int) := by
    rw [Lib.index_one]
    induction a with
    | nil => simp [Lib.indexByte]
    | cons x a ih =>
      rw [List.mem_cons, not_or] at h
      have h2 := ih h.2
      show Lib.indexByte (x :: (a ++ c :: b)) c = _
      unfold Lib.indexByte
      rw [h2]
      have e1 : (x == c) = false := beq_false_of_ne (fun e => h.1 e.symm)
      have e2 : ((a.length : Int) == -1) = false := beq_false_of_ne (by omega)
      rw [e1, e2]
      simp
  unfold Lib.cut
  rw [hi, if_pos (by omega), Int.toNat_natCast]
  simp
theorem cut_len (s : List UInt8) (c : UInt8) : (Lib.cut s [c]).1.length ≤ s.length ∧ (Lib.cut s [c]).2.1.length ≤ s.length := by
  unfold Lib.cut
  split
  · simp only [List.length_take, List.length_drop]; omega
  · simp
theorem cut_ev (s : ByteArray) (c : UInt8) (h : s.size < 4294967281) : strings_Cut.f s (⟨#[c]⟩ : ByteArray) = some (mkB (Lib.cut s.data.toList [c]).1, mkB (Lib.cut s.data.toList [c]).2.1, (Lib.cut s.data.toList [c]).2.2) := by
  unfold strings_Cut.f
  rw [if_pos h]
  rfl
/-- The head of a line's text, without its colon. -/
def headN (f e c : Int) : List UInt8 := Lib.itoa f ++ 43 :: (Lib.itoa e ++ 120 :: Lib.itoa c)
theorem lineT_eq (f e c : Int) (st : List Int) : lineT f e c st = headN f e c ++ 58 :: Lib.join (st.map Lib.itoa) [44] := by
  unfold lineT headT headN
  simp
structure LineOf (s : ByteArray) (f e c : Int) (st : List Int) : Prop where
  good : GoodLine f e c st
  text : s.data.toList = lineT f e c st
theorem nums_free (st : List Int) (h : ∀ x, x ∈ st → 0 ≤ x ∧ x ≤ 500) (c : UInt8) (hc : isDig c = false) (p : List UInt8) (hp : p ∈ st.map Lib.itoa) : c ∉ p := by
  obtain ⟨y, hy, rfl⟩ := List.mem_map.1 hp
  exact itoa_free y (h y hy).1 c hc
theorem join_free (c d : UInt8) (hcd : c ≠ d) : ∀ ps : List (List UInt8), (∀ p, p ∈ ps → c ∉ p) → c ∉ Lib.join ps [d] := by
  intro ps
  induction ps with
  | nil => intro _; simp [Lib.join_nil]
  | cons p r ih =>
    intro h
    have hp := h p List.mem_cons_self
    cases r with
    | nil => rw [Lib.join_one]; exact hp
    | cons q r =>
      rw [join_cons2, List.mem_append, List.mem_cons, not_or, not_or]
      exact ⟨hp, hcd, ih (fun x hx => h x (List.mem_cons_of_mem _ hx))⟩
theorem headN_free (f e c : Int) (hf : 0 ≤ f) (he : 0 ≤ e) (hc : 0 ≤ c) : (58 : UInt8) ∉ headN f e c := by
  unfold headN
  simp only [List.mem_append, List.mem_cons, not_or]
  exact ⟨itoa_free f hf 58 (by decide), by decide, itoa_free e he 58 (by decide), by decide, itoa_free c hc 58 (by decide)⟩
theorem line_size {s : ByteArray} {f e c : Int} {st : List Int} (h : LineOf s f e c st) : s.size ≤ 80 := by
  have a := h.good.first
  have b := h.good.every
  have d := h.good.count
  have hs := h.good.stops
  have l1 := dec_len' 3 f (by omega) (by omega)
  have l2 := dec_len' 3 e (by omega) (by omega)
  have l3 := dec_len' 1 c (by omega) (by omega)
  have hj := join_len 3 [44] (st.map Lib.itoa) (fun x hx => by
    obtain ⟨y, hy, rfl⟩ := List.mem_map.1 hx
    have := h.good.mem y hy
    exact dec_len' 2 y (by omega) (by omega))
  rw [List.length_map] at hj
  have hm : st.length * (3 + ([44] : List UInt8).length) ≤ 12 * (3 + ([44] : List UInt8).length) := Nat.mul_le_mul_right _ (by omega)
  rw [size_list, h.text, lineT_eq]
  unfold headN
  simp only [List.length_append, List.length_cons, List.length_nil] at hj hm ⊢
  omega
theorem cut_two (c : UInt8) (q : ByteArray) (a b : List UInt8) (h : q.data.toList = a ++ c :: b) (ha : c ∉ a) (hb : c ∉ b) : cutB c q = [mkB a, mkB b] := by
  unfold cutB
  rw [h, cutL_app c b a ha, cutL_free c b hb]
  rfl
/-- The stops that the reference reads. -/
theorem buParse_l0_ev (s : ByteArray) (f e c : Int) (qs : List ByteArray) (hl : qs.length ≤ 1048577) (v : Int × Int × Int × List Int × Bool) (hv : Ev (fun k => (spec_buGood.f k f e c (qs.map rdS)).bind fun t291 => (if t291 = true then ((spec_buText.f k f e c (qs.map rdS)).bind fun t292 => (some (f, e, c, qs.map rdS, (t292.toList == s.toList)))) else (some (f, e, c, qs.map rdS, false)))) v) : ∀ i : Int, 0 ≤ i → i ≤ qs.length → Ev (fun k => spec_buParse.l0 k s qs qs.length i f e c ((qs.take i.toNat).map rdS)) v := by
  refine downI ?_ (fun i h0 h1 ih => ?_)
  · refine Ev.step (fun k => by simp only [spec_buParse.l0]; rw [if_neg (by omega)]) ?_
    rw [List.take_of_length_le (by omega)]
    exact hv
  · refine Ev.step (fun k => by simp only [spec_buParse.l0]; rw [if_pos h1, if_pos h0, if_pos h1, w64 (x := i + 1) (by omega) (by omega)]) ?_
    refine Ev.bind (l1Read_ev _) ?_
    refine Ev.congr (fun k => by rw [if_pos (show ((qs.take i.toNat).map rdS).length < 17592186044416 by rw [List.length_map, List.length_take]; omega)]) ?_
    rw [take_get qs ByteArray.empty i h0 h1, List.map_append] at ih
    exact ih
theorem spec_line_yes (s : ByteArray) (f e c : Int) (st : List Int) (h : LineOf s f e c st) : Ev (fun k => spec_ParseLine.f k s) (f, e, c, st, true) := by
  have g := h.good
  have a := g.first
  have b := g.every
  have d := g.count
  have h80 := line_size h
  have hmem := fun x hx => g.mem x hx
  have p0 : cutB 58 s = [mkB (headN f e c), mkB (Lib.join (st.map Lib.itoa) [44])] := cut_two 58 s _ _ (by rw [h.text, lineT_eq]) (headN_free f e c a.1 (by omega) (by omega)) (join_free 58 44 (by decide) _ (fun p hp => nums_free st hmem 58 (by decide) p hp))
  have p1 : cutB 43 (mkB (headN f e c)) = [mkB (Lib.itoa f), mkB (Lib.itoa e ++ 120 :: Lib.itoa c)] := cut_two 43 _ _ _ (mkB_list _) (itoa_free f a.1 43 (by decide)) (by
    simp only [List.mem_append, List.mem_cons, not_or]
    exact ⟨itoa_free e (by omega) 43 (by decide), by decide, itoa_free c (by omega) 43 (by decide)⟩)
  have p2 : cutB 120 (mkB (Lib.itoa e ++ 120 :: Lib.itoa c)) = [mkB (Lib.itoa e), mkB (Lib.itoa c)] := cut_two 120 _ _ _ (mkB_list _) (itoa_free e (by omega) 120 (by decide)) (itoa_free c (by omega) 120 (by decide))
  have hst := g.stops
  have p3 : cutB 44 (mkB (Lib.join (st.map Lib.itoa) [44])) = (st.map Lib.itoa).map mkB := cutB_of 44 _ _ (by
    intro e
    have := congrArg List.length e
    rw [List.length_map, List.length_nil] at this
    omega) (fun p hp => nums_free st hmem 44 (by decide) p hp) (mkB_list _)
  have hrd : ((st.map Lib.itoa).map mkB).map rdS = st := by
    rw [List.map_map, List.map_map]
    refine (List.map_congr_left (fun x hx => ?_)).trans (List.map_id st)
    have := hmem x hx
    exact rdS_itoa _ x (by omega) (by omega) (mkB_list _)
  have sz : ∀ l : List UInt8, l.length ≤ s.size → (mkB l).size ≤ 1048576 := fun l hl => by rw [mkB_size]; omega
  have hlen : s.size = (lineT f e c st).length := by rw [size_list, h.text]
  rw [lineT_eq] at hlen
  have hlen2 : (headN f e c).length + ((Lib.join (st.map Lib.itoa) [44]).length + 1) = s.size := by rw [hlen]; simp
  have hlen3 : (headN f e c).length = (Lib.itoa f).length + ((Lib.itoa e ++ 120 :: Lib.itoa c).length + 1) := by unfold headN; simp
  unfold spec_ParseLine.f
  refine Ev.bind (a := (f, e, c, st, true)) ?_ ?_
  · unfold spec_buParse.f
    refine Ev.bind (l1Split_ev 58 s (by omega) 58 rfl) ?_
    rw [p0]
    refine Ev.congr (fun k => by rw [if_neg (by omega)]) ?_
    refine Ev.step (fun k => by simp only [spec_buParse.j0]; rw [if_neg (by simp), if_pos (by simp)]) ?_
    refine Ev.bind (l1Split_ev 43 (rdOf ByteArray.empty [mkB (headN f e c), mkB (Lib.join (st.map Lib.itoa) [44])] 0) (sz _ (by omega)) 43 rfl) ?_
    rw [show rdOf ByteArray.empty [mkB (headN f e c), mkB (Lib.join (st.map Lib.itoa) [44])] 0 = mkB (headN f e c) from rfl, p1]
    refine Ev.congr (fun k => by rw [if_pos (by simp), if_pos (by simp)]) ?_
    refine Ev.bind (l1Split_ev 120 (rdOf ByteArray.empty [mkB (Lib.itoa f), mkB (Lib.itoa e ++ 120 :: Lib.itoa c)] 1) (sz _ (by omega)) 120 rfl) ?_
    rw [show rdOf ByteArray.empty [mkB (Lib.itoa f), mkB (Lib.itoa e ++ 120 :: Lib.itoa c)] 1 = mkB (Lib.itoa e ++ 120 :: Lib.itoa c) from rfl, p2]
    refine Ev.congr (fun k => by rw [if_pos (by simp), if_pos (by simp)]) ?_
    refine Ev.bind (l1Read_ev _) ?_
    rw [show rdS (rdOf ByteArray.empty [mkB (Lib.itoa f), mkB (Lib.itoa e ++ 120 :: Lib.itoa c)] 0) = f from rdS_itoa _ f (by omega) (by omega) (mkB_list _)]
    refine Ev.congr (fun k => by rw [if_pos (by simp)]) ?_
    refine Ev.bind (l1Read_ev _) ?_
    rw [show rdS (rdOf ByteArray.empty [mkB (Lib.itoa e), mkB (Lib.itoa c)] 0) = e from rdS_itoa _ e (by omega) (by omega) (mkB_list _)]
    refine Ev.congr (fun k => by rw [if_pos (by simp)]) ?_
    refine Ev.bind (l1Read_ev _) ?_
    rw [show rdS (rdOf ByteArray.empty [mkB (Lib.itoa e), mkB (Lib.itoa c)] 1) = c from rdS_itoa _ c (by omega) (by omega) (mkB_list _)]
    refine Ev.congr (fun k => by rw [if_pos (by simp)]) ?_
    refine Ev.bind (l1Split_ev 44 (rdOf ByteArray.empty [mkB (headN f e c), mkB (Lib.join (st.map Lib.itoa) [44])] 1) (sz _ (by omega)) 44 rfl) ?_
    rw [show rdOf ByteArray.empty [mkB (headN f e c), mkB (Lib.join (st.map Lib.itoa) [44])] 1 = mkB (Lib.join (st.map Lib.itoa) [44]) from rfl, p3]
    refine buParse_l0_ev s f e c ((st.map Lib.itoa).map mkB) (by simp; omega) _ ?_ 0 (by omega) (by omega)
    rw [hrd]
    refine Ev.bind (buGood_ev f e c st) ?_
    rw [dec_true g]
    simp only [if_true]
    refine Ev.bind (buText_ev g) ?_
    have e : ((⟨(lineT f e c st).toArray⟩ : ByteArray).toList == s.toList) = true := by
      rw [beq_iff_eq, toList_eq s, h.text]
      exact mkB_toList _
    rw [e]
    exact Ev.now _
  · exact Ev.congr (fun k => by rw [if_pos rfl]) (Ev.now _)
theorem spec_line_no (s : ByteArray) (hs : s.size ≤ 1048576) (H : ¬ ∃ f e c st, LineOf s f e c st) : Ev (fun k => spec_ParseLine.f k s) (0, 0, 0, [], false) := by
  unfold spec_ParseLine.f
  have fin : ∀ v : Int × Int × Int × List Int × Bool, v.2.2.2.2 = false → Ev (fun k => spec_buParse.f k s) v → Ev (fun k => (spec_buParse.f k s).bind fun bt294 => (if bt294.2.2.2.2 = true then (some (bt294.1, bt294.2.1, bt294.2.2.1, bt294.2.2.2.1, true)) else (some (0, 0, 0, ([] : List Int), false)))) (0, 0, 0, [], false) := fun v hv h => by
    refine Ev.bind h ?_
    exact Ev.congr (fun k => by rw [if_neg (by rw [hv]; simp)]) (Ev.now _)
  suffices h : ∃ v : Int × Int × Int × List Int × Bool, v.2.2.2.2 = false ∧ Ev (fun k => spec_buParse.f k s) v by
    obtain ⟨v, h1, h2⟩ := h
    exact fin v h1 h2
  unfold spec_buParse.f
  have hsp := l1Split_ev 58 s hs 58 rfl
  have zero : Ev (fun k => spec_buParse.j0 k s (cutB 58 s) true) (0, 0, 0, [], false) := Ev.step (fun k => by simp only [spec_buParse.j0, if_true]) (Ev.now _)
  by_cases h80 : (s.size : Int) > 80
  · exact ⟨_, rfl, Ev.bind hsp (Ev.congr (fun k => by rw [if_pos h80]) zero)⟩
  by_cases h2 : (cutB 58 s).length = 2
  rotate_left
  · refine ⟨_, rfl, Ev.bind hsp (Ev.congr (fun k => by rw [if_neg h80, show (((cutB 58 s).length : Int) != 2) = true from by simp; omega]) zero)⟩
  have m0 := cutB_mem (rdOf_mem (cutB 58 s) 0 (by omega) (by omega))
  have m1 := cutB_mem (rdOf_mem (cutB 58 s) 1 (by omega) (by omega))
  have sp1 := l1Split_ev 43 (rdOf ByteArray.empty (cutB 58 s) 0) (by omega) 43 rfl
  have pre : ∀ v, Ev (fun k => (spec_l1Split.f k (rdOf ByteArray.empty (cutB 58 s) 0) 43).bind fun t268 => (if (t268.length : Int) = 2 then (if 1 < (t268.length : Int) then ((spec_l1Split.f k (rdOf ByteArray.empty t268 1) 120).bind fun t272 => (if (t272.length : Int) = 2 then (if 0 < (t268.length : Int) then ((spec_l1Read.f k (rdOf ByteArray.empty t268 0)).bind fun t276 => (if 0 < (t272.length : Int) then ((spec_l1Read.f k (rdOf ByteArray.empty t272 0)).bind fun t278 => (if 1 < (t272.length : Int) then ((spec_l1Read.f k (rdOf ByteArray.empty t272 1)).bind fun t280 => (if 1 < ((cutB 58 s).length : Int) then ((spec_l1Split.f k (rdOf ByteArray.empty (cutB 58 s) 1) 44).bind fun t283 => (spec_buParse.l0 k s t283 (t283.length : Int) 0 t276 t278 t280 ([] : List Int))) else (none))) else (none))) else (none))) else (none)) else (some (0, 0, 0, ([] : List Int), false)))) else (none)) else (some (0, 0, 0, ([] : List Int), false)))) v → Ev (fun k => (spec_l1Split.f k s 58).bind fun t264 => (if (s.size : Int) > 80 then (spec_buParse.j0 k s t264 true) else (spec_buParse.j0 k s t264 ((t264.length : Int) != 2)))) v := fun v hv => by
    refine Ev.bind hsp ?_
    refine Ev.congr (fun k => by rw [if_neg h80, show (((cutB 58 s).length : Int) != 2) = false from by simp [h2]]) ?_
    refine Ev.step (fun k => by simp only [spec_buParse.j0]; rw [if_neg (by simp), if_pos (by omega)]) hv
  by_cases h3 : (cutB 43 (rdOf ByteArray.empty (cutB 58 s) 0)).length = 2
  rotate_left
  · exact ⟨_, rfl, pre _ (Ev.bind sp1 (Ev.congr (fun k => by rw [if_neg (by omega)]) (Ev.now _)))⟩
  generalize hH : cutB 43 (rdOf ByteArray.empty (cutB 58 s) 0) = hd at *
  have m2 := cutB_mem (c := 43) (s := rdOf ByteArray.empty (cutB 58 s) 0) (q := rdOf ByteArray.empty hd 1) (by rw [hH]; exact rdOf_mem hd 1 (by omega) (by omega))
  have sp2 := l1Split_ev 120 (rdOf ByteArray.empty hd 1) (by omega) 120 rfl
  by_cases h4 : (cutB 120 (rdOf ByteArray.empty hd 1)).length = 2
  rotate_left
  · exact ⟨_, rfl, pre _ (Ev.bind sp1 (Ev.congr (fun k => by rw [if_pos (by omega), if_pos (by omega)]) (Ev.bind sp2 (Ev.congr (fun k => by rw [if_neg (by omega)]) (Ev.now _)))))⟩
  generalize hM : cutB 120 (rdOf ByteArray.empty hd 1) = mn at *
  have sp3 := l1Split_ev 44 (rdOf ByteArray.empty (cutB 58 s) 1) (by omega) 44 rfl
  have hlen := cutB_len 44 (rdOf ByteArray.empty (cutB 58 s) 1)
  generalize hQ : cutB 44 (rdOf ByteArray.empty (cutB 58 s) 1) = qs at *
  have r0 := l1Read_ev (rdOf ByteArray.empty hd 0)
  have r1 := l1Read_ev (rdOf ByteArray.empty mn 0)
  have r2 := l1Read_ev (rdOf ByteArray.empty mn 1)
  generalize hf : rdS (rdOf ByteArray.empty hd 0) = f at *
  generalize he : rdS (rdOf ByteArray.empty mn 0) = e at *
  generalize hc : rdS (rdOf ByteArray.empty mn 1) = c at *
  have tail : ∀ v, Ev (fun k => (spec_buGood.f k f e c (qs.map rdS)).bind fun t291 => (if t291 = true then ((spec_buText.f k f e c (qs.map rdS)).bind fun t292 => (some (f, e, c, qs.map rdS, (t292.toList == s.toList)))) else (some (f, e, c, qs.map rdS, false)))) v → Ev (fun k => (spec_l1Split.f k s 58).bind fun t264 => (if (s.size : Int) > 80 then (spec_buParse.j0 k s t264 true) else (spec_buParse.j0 k s t264 ((t264.length : Int) != 2)))) v := fun v hv => by
    refine pre v (Ev.bind sp1 ?_)
    refine Ev.congr (fun k => by rw [if_pos (by omega), if_pos (by omega)]) ?_
    refine Ev.bind sp2 ?_
    refine Ev.congr (fun k => by rw [if_pos (by omega), if_pos (by omega)]) ?_
    refine Ev.bind r0 ?_
    refine Ev.congr (fun k => by rw [if_pos (by omega)]) ?_
    refine Ev.bind r1 ?_
    refine Ev.congr (fun k => by rw [if_pos (by omega)]) ?_
    refine Ev.bind r2 ?_
    refine Ev.congr (fun k => by rw [if_pos (by omega)]) ?_
    refine Ev.bind sp3 ?_
    exact buParse_l0_ev s f e c qs (by omega) v hv 0 (by omega) (by omega)
  cases g : dec (GoodLine f e c (qs.map rdS))
  · refine ⟨_, rfl, tail (f, e, c, qs.map rdS, false) ?_⟩
    refine Ev.bind (buGood_ev f e c _) ?_
    rw [g]
    exact Ev.now _
  · have g' := dec_iff.1 g
    refine ⟨(f, e, c, qs.map rdS, false), rfl, tail _ ?_⟩
    refine Ev.bind (buGood_ev f e c _) ?_
    rw [g]
    simp only [if_true]
    refine Ev.bind (buText_ev g') ?_
    have ne : ((⟨(lineT f e c (qs.map rdS)).toArray⟩ : ByteArray).toList == s.toList) = false := by
      refine beq_false_of_ne (fun h => H ⟨f, e, c, qs.map rdS, g', ?_⟩)
      rw [toList_eq s] at h
      rw [← h]
      exact mkB_toList _
    rw [ne]
    exact Ev.now _
/-- What the program cuts a text into. -/
def cutsOf (l : List UInt8) : List UInt8 × List UInt8 × List UInt8 × List UInt8 :=
  ((Lib.cut l [43]).1, (Lib.cut (Lib.cut l [43]).2.1 [120]).1, (Lib.cut (Lib.cut (Lib.cut l [43]).2.1 [120]).2.1 [58]).1, (Lib.cut (Lib.cut (Lib.cut l [43]).2.1 [120]).2.1 [58]).2.1)
theorem impl_line_ev (s : ByteArray) (hs : s.size ≤ 1048576) (v : Int × Int × Int × List Int × Bool) (hv : ∀ a b d r, cutsOf s.data.toList = (a, b, d, r) → Ev (fun k => (impl_readNumbers.f k (mkB (a ++ 44 :: (b ++ 44 :: d))) (⟨#[44]⟩ : ByteArray)).bind fun bt336 => ((impl_readNumbers.f k (mkB r) (⟨#[44]⟩ : ByteArray)).bind fun bt340 => (if bt336.2 = true then (if bt340.2 = true then (impl_ParseLine.j0 k s bt336.1 bt340.1 ((bt336.1.length : Int) != 3)) else (impl_ParseLine.j0 k s bt336.1 bt340.1 true)) else (impl_ParseLine.j0 k s bt336.1 bt340.1 true)))) v) : Ev (fun k => impl_ParseLine.f k s) v := by
  have l1 := cut_len s.data.toList 43
  have l2 := cut_len (Lib.cut s.data.toList [43]).2.1 120
  have l3 := cut_len (Lib.cut (Lib.cut s.data.toList [43]).2.1 [120]).2.1 58
  rw [← size_list] at l1
  have h := hv _ _ _ _ rfl
  unfold impl_ParseLine.f
  have c1 := cut_ev s 43 (by omega)
  have c2 := cut_ev (mkB (Lib.cut s.data.toList [43]).2.1) 120 (by rw [mkB_size]; omega)
  rw [mkB_list] at c2
  have c3 := cut_ev (mkB (Lib.cut (Lib.cut s.data.toList [43]).2.1 [120]).2.1) 58 (by rw [mkB_size]; omega)
  rw [mkB_list] at c3
  generalize hA : (Lib.cut s.data.toList [43]).1 = a at *
  generalize hA2 : (Lib.cut s.data.toList [43]).2.1 = a2 at *
  generalize hB : (Lib.cut a2 [120]).1 = b at *
  generalize hB2 : (Lib.cut a2 [120]).2.1 = b2 at *
  generalize hD : (Lib.cut b2 [58]).1 = d at *
  generalize hD2 : (Lib.cut b2 [58]).2.1 = r at *
  have e44 : (⟨#[44]⟩ : ByteArray) = mkB [44] := rfl
  have hcat : (((mkB a ++ mkB [44]) ++ mkB b) ++ mkB [44]) ++ mkB d = mkB (a ++ 44 :: (b ++ 44 :: d)) := by
    unfold mkB
    rw [ba_append, ba_append, ba_append, ba_append]
    simp
  simp only [c1, c2, c3, Option.bind_some]
  refine Ev.congr (fun k => by rw [e44, if_pos (by rw [mkB_size]; omega), if_pos (by simp only [ByteArray.size_append, mkB_size, List.length_cons, List.length_nil]; omega), if_pos (by simp only [ByteArray.size_append, mkB_size, List.length_cons, List.length_nil]; omega), if_pos (by simp only [ByteArray.size_append, mkB_size, List.length_cons, List.length_nil]; omega), hcat]) ?_
  exact h
theorem impl_line_yes (s : ByteArray) (f e c : Int) (st : List Int) (h : LineOf s f e c st) : Ev (fun k => impl_ParseLine.f k s) (f, e, c, st, true) := by
  have g := h.good
  have a := g.first
  have b := g.every
  have d := g.count
  have h80 := line_size h
  have hst := g.stops
  have hmem := fun x hx => g.mem x hx
  have hlen : s.size = (lineT f e c st).length := by rw [size_list, h.text]
  rw [lineT_eq] at hlen
  have hlen2 : (headN f e c).length + ((Lib.join (st.map Lib.itoa) [44]).length + 1) = s.size := by rw [hlen]; simp
  have hlen3 : (headN f e c).length = (Lib.itoa f).length + ((Lib.itoa e).length + ((Lib.itoa c).length + 1) + 1) := by unfold headN; simp
  refine impl_line_ev s (by omega) _ (fun a' b' d' r' hc => ?_)
  have hcut : cutsOf s.data.toList = (Lib.itoa f, Lib.itoa e, Lib.itoa c, Lib.join (st.map Lib.itoa) [44]) := by
    unfold cutsOf
    have e1 : s.data.toList = Lib.itoa f ++ 43 :: (Lib.itoa e ++ 120 :: (Lib.itoa c ++ 58 :: Lib.join (st.map Lib.itoa) [44])) := by
      rw [h.text, lineT_eq]
      unfold headN
      simp
    rw [e1, cut_app 43 _ _ (itoa_free f a.1 43 (by decide))]
    simp only
    rw [cut_app 120 _ _ (itoa_free e (by omega) 120 (by decide))]
    simp only
    rw [cut_app 58 _ _ (itoa_free c (by omega) 58 (by decide))]
  rw [hcut] at hc
  injection hc with h1 hc
  injection hc with h2 hc
  injection hc with h3 h4
  subst h1
  subst h2
  subst h3
  subst h4
  have j3 : Lib.itoa f ++ 44 :: (Lib.itoa e ++ 44 :: Lib.itoa c) = Lib.join ([f, e, c].map Lib.itoa) [44] := by
    simp only [List.map_cons, List.map_nil]
    rw [join_cons2, join_cons2, Lib.join_one]
  have p1 : cutB 44 (mkB (Lib.itoa f ++ 44 :: (Lib.itoa e ++ 44 :: Lib.itoa c))) = ([f, e, c].map Lib.itoa).map mkB := cutB_of 44 _ _ (by simp) (fun p hp => by
    simp only [List.map_cons, List.map_nil, List.mem_cons, List.not_mem_nil, or_false] at hp
    rcases hp with rfl | rfl | rfl
    · exact itoa_free f (by omega) 44 (by decide)
    · exact itoa_free e (by omega) 44 (by decide)
    · exact itoa_free c (by omega) 44 (by decide)) (by rw [mkB_list, j3])
  have p3 : cutB 44 (mkB (Lib.join (st.map Lib.itoa) [44])) = (st.map Lib.itoa).map mkB := cutB_of 44 _ _ (by
    intro e
    have := congrArg List.length e
    rw [List.length_map, List.length_nil] at this
    omega) (fun p hp => nums_free st hmem 44 (by decide) p hp) (mkB_list _)
  have un : ∀ l : List Int, ((l.map Lib.itoa).map mkB).map (fun (x : ByteArray) => x.data.toList) = l.map Lib.itoa := fun l => by
    rw [List.map_map]
    have : (fun (x : ByteArray) => x.data.toList) ∘ mkB = id := by funext l; exact mkB_list l
    rw [this, List.map_id]
  have n1 := readNums_ev 44 (mkB (Lib.itoa f ++ 44 :: (Lib.itoa e ++ 44 :: Lib.itoa c))) (by rw [mkB_size]; simp; omega)
  rw [p1, rdAll_of _ [f, e, c] (un _) (fun v hv => by
    simp only [List.mem_cons, List.not_mem_nil, or_false] at hv
    rcases hv with rfl | rfl | rfl <;> omega)] at n1
  have n2 := readNums_ev 44 (mkB (Lib.join (st.map Lib.itoa) [44])) (by rw [mkB_size]; omega)
  rw [p3, rdAll_of _ st (un _) (fun v hv => by have := hmem v hv; omega)] at n2
  refine Ev.bind (show Ev _ ([f, e, c], true) from n1) ?_
  refine Ev.bind (show Ev _ (st, true) from n2) ?_
  dsimp only
  refine Ev.congr (fun k => by rw [if_pos rfl, if_pos rfl]) ?_
  refine Ev.step (fun k => by simp only [impl_ParseLine.j0]; rw [if_neg (by simp), if_pos (by simp), if_pos (by simp), if_pos (by simp)]) ?_
  rw [show rd [f, e, c] 0 = f from rfl, show rd [f, e, c] 1 = e from rfl, show rd [f, e, c] 2 = c from rfl]
  refine Ev.bind (isLine_ev f e c st) ?_
  rw [dec_true g]
  simp only [if_true]
  refine Ev.bind (lineText_ev g) ?_
  refine Ev.congr (fun k => by rw [if_pos (by rw [toList_eq s, h.text]; exact mkB_toList _)]) (Ev.now _)
theorem impl_line_no (s : ByteArray) (hs : s.size ≤ 1048576) (H : ¬ ∃ f e c st, LineOf s f e c st) : Ev (fun k => impl_ParseLine.f k s) (0, 0, 0, [], false) := by
  refine impl_line_ev s hs _ (fun a b d r hc => ?_)
  have zero : ∀ n st, Ev (fun k => impl_ParseLine.j0 k s n st true) (0, 0, 0, [], false) := fun n st => Ev.step (fun k => by simp only [impl_ParseLine.j0, if_true]) (Ev.now _)
  have l1 := cut_len s.data.toList 43
  have l2 := cut_len (Lib.cut s.data.toList [43]).2.1 120
  have l3 := cut_len (Lib.cut (Lib.cut s.data.toList [43]).2.1 [120]).2.1 58
  rw [← size_list] at l1
  unfold cutsOf at hc
  injection hc with h1 hc
  injection hc with h2 hc
  injection hc with h3 h4
  subst h1
  subst h2
  subst h3
  subst h4
  have n1 := readNums_ev 44 (mkB ((Lib.cut s.data.toList [43]).1 ++ 44 :: ((Lib.cut (Lib.cut s.data.toList [43]).2.1 [120]).1 ++ 44 :: (Lib.cut (Lib.cut (Lib.cut s.data.toList [43]).2.1 [120]).2.1 [58]).1))) (by rw [mkB_size]; simp only [List.length_append, List.length_cons]; omega)
  have n2 := readNums_ev 44 (mkB (Lib.cut (Lib.cut (Lib.cut s.data.toList [43]).2.1 [120]).2.1 [58]).2.1) (by rw [mkB_size]; omega)
  generalize mkB ((Lib.cut s.data.toList [43]).1 ++ 44 :: ((Lib.cut (Lib.cut s.data.toList [43]).2.1 [120]).1 ++ 44 :: (Lib.cut (Lib.cut (Lib.cut s.data.toList [43]).2.1 [120]).2.1 [58]).1)) = s1 at *
  generalize mkB (Lib.cut (Lib.cut (Lib.cut s.data.toList [43]).2.1 [120]).2.1 [58]).2.1 = s2 at *
  have b2 : ∃ st b, Ev (fun k => impl_readNumbers.f k s2 (⟨#[44]⟩ : ByteArray)) (st, b) := by
    cases e2 : rdAll (cutB 44 s2) with
    | none => rw [e2] at n2; exact ⟨[], false, n2⟩
    | some st => rw [e2] at n2; exact ⟨st, true, n2⟩
  obtain ⟨st, b, b2⟩ := b2
  cases e1 : rdAll (cutB 44 s1) with
  | none =>
    rw [e1] at n1
    refine Ev.bind (show Ev _ (([] : List Int), false) from n1) ?_
    refine Ev.bind b2 ?_
    dsimp only
    exact Ev.congr (fun k => by rw [if_neg (by simp)]) (zero _ _)
  | some n =>
    rw [e1] at n1
    refine Ev.bind (show Ev _ (n, true) from n1) ?_
    refine Ev.bind b2 ?_
    dsimp only
    refine Ev.congr (fun k => by rw [if_pos rfl]) ?_
    cases b
    · exact Ev.congr (fun k => by rw [if_neg (by simp)]) (zero _ _)
    · refine Ev.congr (fun k => by rw [if_pos rfl]) ?_
      by_cases hn : n.length = 3
      · refine Ev.step (fun k => by simp only [impl_ParseLine.j0]; rw [if_neg (by simp [hn]), if_pos (by omega), if_pos (by omega), if_pos (by omega)]) ?_
        refine Ev.bind (isLine_ev _ _ _ _) ?_
        cases g : dec (GoodLine (rd n 0) (rd n 1) (rd n 2) st)
        · simp only [Bool.false_eq_true, if_false]
          exact Ev.now _
        · have g' := dec_iff.1 g
          simp only [if_true]
          refine Ev.bind (lineText_ev g') ?_
          refine Ev.congr (fun k => by rw [if_neg (fun h => H ⟨_, _, _, _, g', by rw [toList_eq s] at h; rw [← h]; exact mkB_toList _⟩)]) (Ev.now _)
      · refine Ev.congr (fun k => by rw [show ((n.length : Int) != 3) = true from by simp; omega]) (zero _ _)
theorem parseLine_both (s : ByteArray) (hs : s.size ≤ 1048576) : ∃ (f e c : Int) (st : List Int) (b : Bool), st.length ≤ 12 ∧ Ev (fun k => spec_ParseLine.f k s) (f, e, c, st, b) ∧ Ev (fun k => impl_ParseLine.f k s) (f, e, c, st, b) := by
  by_cases H : ∃ f e c st, LineOf s f e c st
  · obtain ⟨f, e, c, st, h⟩ := H
    have := h.good.stops
    exact ⟨f, e, c, st, true, by omega, spec_line_yes s f e c st h, impl_line_yes s f e c st h⟩
  · exact ⟨0, 0, 0, [], false, by simp, spec_line_no s hs H, impl_line_no s hs H⟩
theorem FnExactParseLine : laws_FnExactParseLine.Pure := by
  intro s hs
  refine Ev.rounds ?_
  unfold laws_FnExactParseLine.f
  by_cases c : (s.size : Int) > 1048576
  · exact Ev.congr (fun k => by rw [if_pos c]) (Ev.now _)
  · refine Ev.congr (fun k => by rw [if_neg c]) ?_
    obtain ⟨f, e, cc, st, b, h0, h1, h2⟩ := parseLine_both s (by omega)
    have q1 : Ev (fun k => laws_eqLine.f k f e cc st f e cc st) true := by
      unfold laws_eqLine.f
      simp only [if_true]
      refine Ev.bind (eqIntS_ev st (by omega)) ?_
      simp only [if_true]
      exact Ev.now _
    have m1 : Ev (fun k => laws_markLine.f k f e cc st 1) (1 + (st.length : Int), upFrom 1 st.length) := by
      unfold laws_markLine.f
      exact Ev.bind (markIntS_ev st 1 (by omega) (by omega) (by omega)) (Ev.now _)
    have m2 : Ev (fun k => laws_heldLine.f k f e cc (upFrom 1 st.length) 1) (1 + (st.length : Int)) := by
      unfold laws_heldLine.f
      refine Ev.bind (heldIntS_ev st.length 1 (by omega) (by omega) (by omega)) ?_
      exact Ev.congr (fun k => by rw [if_neg (by omega)]) (Ev.now _)
    refine Ev.bind h1 (Ev.bind h2 (Ev.bind q1 ?_))
    simp only [if_true, bne_self_eq_false]
    refine Ev.step (fun k => by simp only [laws_FnExactParseLine.j0]; rw [if_neg (by simp)]) ?_
    refine Ev.bind m1 (Ev.bind m2 ?_)
    refine Ev.congr (fun k => by rw [if_neg (by omega), if_pos rfl]) ?_
    refine Ev.bind h2 (Ev.bind q1 ?_)
    simp only [if_true, bne_self_eq_false]
    refine Ev.step (fun k => by simp only [laws_FnExactParseLine.j1]; rw [if_neg (by simp)]) ?_
    refine Ev.bind m2 ?_
    exact Ev.congr (fun k => by rw [if_neg (by omega), if_pos rfl]) (Ev.now _)
end Go.Proofs.YtoaacabnlfglmaaDoor.Pure
