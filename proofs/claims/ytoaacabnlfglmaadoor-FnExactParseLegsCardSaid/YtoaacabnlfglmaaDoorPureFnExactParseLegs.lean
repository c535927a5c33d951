/- The program's ParseLegs returns what the reference's ParseLegs returns, for all arguments. No conditions. -/
import Derived.Test.YtoaacabnlfglmaaDoorQVx6
import Derived.Test.YtoaacabnlfglmaaDoorPlain
set_option linter.unusedVariables false
set_option linter.unusedSimpArgs false
namespace Go.Proofs.YtoaacabnlfglmaaDoor.Pure
open Go.RowKit Go.Proofs.YtoaacabnlfglmaaDoor.QV Go.Proofs.YtoaacabnlfglmaaDoorW.PrintWords Go.Proofs.YtoaacabnlfglmaaDoorW.PrintLast Go.Proofs.YtoaacabnlfglmaaDoorW.PrintMore Go.Proofs.YtoaacabnlfglmaaDoor.Plain
theorem in_eq (a b c : Int) : spec_l1In.f a b c = some (decide (b ≤ a ∧ a ≤ c)) := by
  unfold spec_l1In.f
  by_cases h : a ≥ b
  · rw [if_pos h]; congr 1; simp; omega
  · rw [if_neg h]; congr 1; simp; omega
theorem within_eq (a b c : Int) : impl_within.f a b c = some (decide (b ≤ a ∧ a ≤ c)) := by
  unfold impl_within.f
  by_cases h : a ≥ b
  · rw [if_pos h]; congr 1; simp; omega
  · rw [if_neg h]; congr 1; simp; omega
theorem w64 {x : Int} (h1 : -9223372036854775808 ≤ x) (h2 : x ≤ 9223372036854775807) : wrap64 x = x := by unfold wrap64; omega
theorem decDigits_len : ∀ n : Nat, (Lib.decDigits n).length ≤ n + 1 := by
  intro n
  induction n using Nat.strongRecOn with
  | ind n ih =>
    rw [Lib.decDigits]
    split
    · simp
    · next h =>
      have := ih (n / 10) (by omega)
      simp
      omega
theorem ba_append (a b : List UInt8) : (⟨a.toArray⟩ : ByteArray) ++ ⟨b.toArray⟩ = ⟨(a ++ b).toArray⟩ := by
  apply ByteArray.ext
  simp
theorem ba_size (a : List UInt8) : (⟨a.toArray⟩ : ByteArray).size = a.length := by
  simp [ByteArray.size]
theorem digit_str (d : Nat) (h : d < 10) : strOfNums [(wrap64 (48 + (d : Int))) % 256] = ⟨([UInt8.ofNat (48 + d)] : List UInt8).toArray⟩ := by
  unfold strOfNums
  rw [w64 (by omega) (by omega), show (48 + (d : Int)) % 256 = ((48 + d : Nat) : Int) by omega]
  rw [List.map_cons, List.map_nil, Int.toNat_natCast]
theorem itoa_nat (n : Nat) : Lib.itoa (n : Int) = Lib.decDigits n := by
  unfold Lib.itoa
  rw [if_neg (by omega), Int.toNat_natCast]
/-- A number's text, as both tell it. -/
def txt (n : Int) : ByteArray := ⟨(Lib.itoa n).toArray⟩
theorem txt_size (n : Int) (h0 : 0 ≤ n) : (txt n).size ≤ n.toNat + 1 := by
  obtain ⟨m, rfl⟩ := Int.eq_ofNat_of_zero_le h0
  unfold txt
  rw [itoa_nat, ba_size]
  exact decDigits_len m
theorem itoa_len (n : Int) (h0 : 0 ≤ n) : (Lib.itoa n).length ≤ n.toNat + 1 := by
  have := txt_size n h0
  unfold txt at this
  rwa [ba_size] at this
/-- A text cut at each byte c. -/
def cutL (c : UInt8) : List UInt8 → List (List UInt8)
  | [] => [[]]
  | x :: xs => if x = c then [] :: cutL c xs else (match cutL c xs with | [] => [[x]] | y :: ys => (x :: y) :: ys)
theorem cutL_ne (c : UInt8) : ∀ l, cutL c l ≠ [] := by
  intro l
  cases l with
  | nil => simp [cutL]
  | cons x xs =>
    unfold cutL
    split
    · simp
    · split <;> simp
theorem cutL_free (c : UInt8) : ∀ l, c ∉ l → cutL c l = [l] := by
  intro l
  induction l with
  | nil => intro _; rfl
  | cons x xs ih =>
    intro h
    rw [List.mem_cons, not_or] at h
    unfold cutL
    rw [if_neg (fun e => h.1 e.symm), ih h.2]
theorem cutL_app (c : UInt8) (b : List UInt8) : ∀ a, c ∉ a → cutL c (a ++ c :: b) = a :: cutL c b := by
  intro a
  induction a with
  | nil =>
    intro _
    show cutL c (c :: b) = _
    rw [cutL, if_pos rfl]
  | cons x xs ih =>
    intro h
    rw [List.mem_cons, not_or] at h
    show cutL c (x :: (xs ++ c :: b)) = _
    rw [cutL, if_neg (fun e => h.1 e.symm), ih h.2]
theorem cutL_join (c : UInt8) : ∀ l, Lib.join (cutL c l) [c] = l := by
  intro l
  induction l with
  | nil => rfl
  | cons x xs ih =>
    unfold cutL
    split
    · next h =>
      subst h
      cases e : cutL x xs with
      | nil => exact absurd e (cutL_ne x xs)
      | cons y ys =>
        rw [e, Lib.join_cons] at ih
        rw [Lib.join_cons]
        have : Lib.joinTail [x] (y :: ys) = [x] ++ y ++ Lib.joinTail [x] ys := by simp [Lib.joinTail]
        rw [this, ← ih]
        simp
    · cases e : cutL c xs with
      | nil => exact absurd e (cutL_ne c xs)
      | cons y ys =>
        rw [e, Lib.join_cons] at ih
        simp only [Lib.join_cons]
        rw [← ih]
        rfl
theorem join_cons2 (p q : List UInt8) (r : List (List UInt8)) (c : UInt8) : Lib.join (p :: q :: r) [c] = p ++ c :: Lib.join (q :: r) [c] := by
  rw [Lib.join_cons, Lib.join_cons]
  simp [Lib.joinTail]
theorem cutL_of_join (c : UInt8) : ∀ ps : List (List UInt8), ps ≠ [] → (∀ p, p ∈ ps → c ∉ p) → cutL c (Lib.join ps [c]) = ps := by
  intro ps
  induction ps with
  | nil => intro h; exact absurd rfl h
  | cons p r ih =>
    intro _ h
    have hp := h p List.mem_cons_self
    cases r with
    | nil => rw [Lib.join_one]; exact cutL_free c p hp
    | cons q r => rw [join_cons2, cutL_app c _ p hp, ih (by simp) (fun x hx => h x (List.mem_cons_of_mem _ hx))]
def mkB (l : List UInt8) : ByteArray := ⟨l.toArray⟩
theorem mkB_list (l : List UInt8) : (mkB l).data.toList = l := by simp [mkB]
theorem mkB_of (s : ByteArray) : mkB s.data.toList = s := by
  apply ByteArray.ext
  simp [mkB]
theorem mkB_inj {a b : List UInt8} (h : mkB a = mkB b) : a = b := by
  have := congrArg (fun x : ByteArray => x.data.toList) h
  simpa [mkB] using this
theorem mkB_size (l : List UInt8) : (mkB l).size = l.length := ba_size l
theorem size_list (s : ByteArray) : s.size = s.data.toList.length := by rw [Array.length_toList]; rfl
def cutB (c : UInt8) (s : ByteArray) : List ByteArray := (cutL c s.data.toList).map mkB
theorem ext_list {a b : ByteArray} (h : a.data.toList = b.data.toList) : a = b := by
  rw [← mkB_of a, ← mkB_of b, h]
theorem mkB_toList (l : List UInt8) : (mkB l).toList = l := by simp [mkB]
theorem toList_eq (x : ByteArray) : x.toList = x.data.toList := by
  have h := mkB_toList x.data.toList
  rwa [mkB_of] at h
theorem toList_inj (a b : ByteArray) (h : a.toList = b.toList) : a = b := by
  rw [toList_eq, toList_eq] at h
  exact ext_list h
theorem sep_size (c : UInt8) : (⟨#[c]⟩ : ByteArray).size = 1 := rfl
theorem splitB_cut (c : UInt8) : ∀ (n : Nat) (s : ByteArray), s.size ≤ n → Lib.splitB (⟨#[c]⟩ : ByteArray) 0 (Lib.countB s ⟨#[c]⟩) s = cutB c s := by
  intro n
  induction n with
  | zero =>
    intro s hs
    have hl : s.data.toList = [] := List.eq_nil_of_length_eq_zero (by rw [← size_list]; omega)
    have hi : Lib.indexB s (⟨#[c]⟩ : ByteArray) = -1 := by
      show Lib.index s.data.toList [c] = -1
      rw [hl]; rfl
    rw [Lib.countB_miss s _ hi, Lib.splitB_zero]
    unfold cutB
    rw [hl]
    show [s] = [mkB []]
    rw [← hl, mkB_of]
  | succ n ih =>
    intro s hs
    have hix : Lib.indexB s (⟨#[c]⟩ : ByteArray) = Lib.indexByte s.data.toList c := by
      show Lib.index s.data.toList [c] = _
      exact Lib.index_one _ _
    rcases Lib.indexB_cases s ⟨#[c]⟩ with hi | ⟨i, hi, hr⟩
    · rw [Lib.countB_miss s _ hi, Lib.splitB_zero]
      rw [hix] at hi
      have hn : c ∉ s.data.toList := fun hm => by
        obtain ⟨k, hk, e⟩ := List.getElem_of_mem hm
        exact Lib.indexByte_none hi k (by rw [List.getElem?_eq_getElem hk, e])
      unfold cutB
      rw [cutL_free c _ hn]
      show [s] = [mkB _]
      rw [mkB_of]
    · rw [Lib.countB_hit s _ i (by rw [sep_size]; omega) hi, Nat.add_comm 1, Lib.splitB_hit _ _ _ s i hi]
      rw [sep_size] at hr ⊢
      have e2 : (s.extract (i + 1) s.size).size = s.size - (i + 1) := by rw [ByteArray.size_extract]; omega
      rw [ih _ (by omega)]
      rw [hix] at hi
      obtain ⟨h1, h2⟩ := Lib.indexByte_some hi
      have hlt : i < s.data.toList.length := by rw [← size_list]; omega
      have hdec : s.data.toList = s.data.toList.take i ++ c :: s.data.toList.drop (i + 1) := by
        conv => lhs; rw [← List.take_append_drop i s.data.toList]
        rw [List.drop_eq_getElem_cons hlt]
        rw [List.getElem?_eq_getElem hlt] at h1
        injection h1 with h1
        rw [h1]
      have hfree : c ∉ s.data.toList.take i := fun hm => by
        obtain ⟨k, hk, e⟩ := List.getElem_of_mem hm
        rw [List.length_take] at hk
        rw [List.getElem_take] at e
        exact h2 k (by omega) (by rw [List.getElem?_eq_getElem (by omega), e])
      have hc : cutB c s = mkB (s.data.toList.take i) :: cutB c (s.extract (i + 1) s.size) := by
        unfold cutB
        rw [Lib.extract_to_end]
        conv => lhs; rw [hdec]
        rw [cutL_app c _ _ hfree, List.map_cons]
      rw [hc]
      congr 1
      apply ext_list
      rw [mkB_list, Lib.extract_from_zero, Nat.add_zero]
theorem split_eq (c : UInt8) (s : ByteArray) (hs : s.size < 4294967281) : strings_Split.f s (⟨#[c]⟩ : ByteArray) = some (cutB c s) := by
  unfold strings_Split.f
  rw [if_pos ⟨hs, by rw [sep_size]; omega⟩, splitB_cut c s.size s (Nat.le_refl _)]
theorem bt_list (s : ByteArray) (i : Int) (h0 : 0 ≤ i) (h1 : i < s.size) : ∃ h : i.toNat < s.data.toList.length, bt s i = ((s.data.toList[i.toNat]).toNat : Int) := by
  have h : i.toNat < s.size := by omega
  refine ⟨by rw [← size_list]; exact h, ?_⟩
  rw [← bt_at s i h]
  rfl
theorem ext_take (s : ByteArray) (a b : Nat) (h : a ≤ b) : (s.extract a b).data.toList = (s.data.toList.drop a).take (b - a) := by
  simp [List.take_drop]
theorem l1Split_l0_ev (c : UInt8) (s : ByteArray) (hs : s.size ≤ 1048576) : ∀ i : Int, 0 ≤ i → i ≤ s.size → ∀ (acc : List ByteArray) (f : Int), 0 ≤ f → f ≤ i → (acc.length : Int) ≤ f → c ∉ (s.data.toList.drop f.toNat).take (i.toNat - f.toNat) → Ev (fun k => spec_l1Split.l0 k s c.toNat acc f i) (acc ++ (cutL c (s.data.toList.drop f.toNat)).map mkB) := by
  refine downI (fun acc f f0 f1 ha hn => ?_) (fun i h0 h1 ih acc f f0 f1 ha hn => ?_)
  · have hd : (s.data.toList.drop f.toNat).take ((s.size : Int).toNat - f.toNat) = s.data.toList.drop f.toNat := by
      refine List.take_of_length_le ?_
      rw [List.length_drop, ← size_list]; omega
    rw [hd] at hn
    refine Ev.step (fun k => by simp only [spec_l1Split.l0]; rw [if_neg (by omega), if_pos f0, if_pos f1, if_pos (by omega)]) ?_
    rw [cutL_free c _ hn]
    have e : s.extract f.toNat s.size = mkB (s.data.toList.drop f.toNat) := ext_list (by rw [Lib.extract_to_end, mkB_list])
    rw [e]
    exact Ev.now _
  · obtain ⟨hlt, hb⟩ := bt_list s i h0 h1
    by_cases hc : s.data.toList[i.toNat] = c
    · have hbc : bt s i = (c.toNat : Int) := by rw [hb, hc]
      have hdec : s.data.toList.drop f.toNat = (s.data.toList.drop f.toNat).take (i.toNat - f.toNat) ++ c :: s.data.toList.drop (i + 1).toNat := by
        conv => lhs; rw [← List.take_append_drop (i.toNat - f.toNat) (s.data.toList.drop f.toNat)]
        rw [List.drop_drop, show f.toNat + (i.toNat - f.toNat) = i.toNat by omega, List.drop_eq_getElem_cons hlt, hc, show (i + 1).toNat = i.toNat + 1 by omega]
      have e : s.extract f.toNat i.toNat = mkB ((s.data.toList.drop f.toNat).take (i.toNat - f.toNat)) := ext_list (by rw [ext_take _ _ _ (by omega), mkB_list])
      refine Ev.step (fun k => by simp only [spec_l1Split.l0]; rw [if_pos h1, if_pos h0, if_pos hbc, if_pos f0, if_pos f1, if_pos (by omega), if_pos (by omega), w64 (x := i + 1) (by omega) (by omega), e]) ?_
      have h := ih (acc ++ [mkB ((s.data.toList.drop f.toNat).take (i.toNat - f.toNat))]) (i + 1) (by omega) (by omega) (by simp; omega) (by simp)
      have hg : (cutL c (s.data.toList.drop f.toNat)).map mkB = mkB ((s.data.toList.drop f.toNat).take (i.toNat - f.toNat)) :: (cutL c (s.data.toList.drop (i + 1).toNat)).map mkB := by
        conv => lhs; rw [hdec]
        rw [cutL_app c _ _ hn, List.map_cons]
      rw [hg]
      rw [List.append_assoc] at h
      exact h
    · have hbc : ¬ bt s i = (c.toNat : Int) := by
        rw [hb]
        intro e
        exact hc (UInt8.toNat_inj.1 (by omega))
      refine Ev.step (fun k => by simp only [spec_l1Split.l0]; rw [if_pos h1, if_pos h0, if_neg hbc, w64 (x := i + 1) (by omega) (by omega)]) (ih acc f f0 (by omega) ha ?_)
      rw [show (i + 1).toNat - f.toNat = (i.toNat - f.toNat) + 1 by omega, List.take_add_one, List.mem_append, not_or]
      refine ⟨hn, ?_⟩
      rw [List.getElem?_drop, show f.toNat + (i.toNat - f.toNat) = i.toNat by omega, List.getElem?_eq_getElem hlt]
      simp only [Option.toList_some, List.mem_singleton]
      exact fun e => hc e.symm
theorem l1Split_ev (c : UInt8) (s : ByteArray) (hs : s.size ≤ 1048576) (b : Int) (hb : b = (c.toNat : Int)) : Ev (fun k => spec_l1Split.f k s b) (cutB c s) := by
  subst hb
  unfold spec_l1Split.f
  have h := l1Split_l0_ev c s hs 0 (by omega) (by omega) [] 0 (by omega) (by omega) (by simp) (by simp)
  simpa [cutB] using h
theorem cutB_mem {c : UInt8} {s q : ByteArray} (h : q ∈ cutB c s) : q.size ≤ s.size := by
  have key : ∀ (l : List UInt8) (p : List UInt8), p ∈ cutL c l → p.length ≤ l.length := by
    intro l
    induction l with
    | nil => intro p hp; simp [cutL] at hp; simp [hp]
    | cons x xs ih =>
      intro p hp
      unfold cutL at hp
      split at hp
      · rcases List.mem_cons.1 hp with rfl | hp
        · simp
        · have := ih p hp; simp; omega
      · cases e : cutL c xs with
        | nil => rw [e] at hp; simp at hp; simp [hp]
        | cons y ys =>
          rw [e] at hp
          rcases List.mem_cons.1 hp with rfl | hp
          · have := ih y (by rw [e]; exact List.mem_cons_self); simp; omega
          · have := ih p (by rw [e]; exact List.mem_cons_of_mem _ hp); simp; omega
  obtain ⟨p, hp, rfl⟩ := List.mem_map.1 h
  rw [mkB_size, size_list]
  exact key _ p hp
def isDig (c : UInt8) : Bool := decide (48 ≤ c.toNat ∧ c.toNat ≤ 57)
def foldN (a : Nat) (l : List UInt8) : Nat := l.foldl (fun a c => a * 10 + (c.toNat - 48)) a
theorem foldN_cons (a : Nat) (c : UInt8) (l : List UInt8) : foldN a (c :: l) = foldN (a * 10 + (c.toNat - 48)) l := by
  unfold foldN
  rw [List.foldl_cons]
theorem foldN_snoc (a : Nat) (l : List UInt8) (c : UInt8) : foldN a (l ++ [c]) = foldN a l * 10 + (c.toNat - 48) := by
  unfold foldN
  rw [List.foldl_append]
  rfl
theorem foldN_ge : ∀ (l : List UInt8) (a : Nat), a ≤ foldN a l := by
  intro l
  induction l with
  | nil => intro a; exact Nat.le_refl _
  | cons c l ih => intro a; rw [foldN_cons]; exact Nat.le_trans (by omega) (ih _)
theorem foldN_lt : ∀ (l : List UInt8), l.all isDig = true → ∀ a : Nat, foldN a l < (a + 1) * 10 ^ l.length := by
  intro l
  induction l with
  | nil => intro _ a; simp [foldN]
  | cons c l ih =>
    intro h a
    rw [List.all_cons, Bool.and_eq_true] at h
    have hc : 48 ≤ c.toNat ∧ c.toNat ≤ 57 := by simpa [isDig] using h.1
    have h1 := ih h.2 (a * 10 + (c.toNat - 48))
    rw [foldN_cons, List.length_cons, Nat.pow_succ]
    have h2 : (a * 10 + (c.toNat - 48) + 1) * 10 ^ l.length ≤ ((a + 1) * 10) * 10 ^ l.length := Nat.mul_le_mul_right _ (by omega)
    rw [Nat.mul_comm (10 ^ l.length) 10, ← Nat.mul_assoc]
    omega
/-- At most six digits, none of them superfluous. -/
def canon (l : List UInt8) : Bool := decide (1 ≤ l.length ∧ l.length ≤ 6) && (decide (l.head? ≠ some 48 ∨ l.length = 1) && l.all isDig)
theorem digit_char (d : Nat) (h : d < 10) : isDig (UInt8.ofNat (48 + d)) = true ∧ (UInt8.ofNat (48 + d)).toNat - 48 = d := by
  have e : (UInt8.ofNat (48 + d)).toNat = 48 + d := by simp [UInt8.toNat_ofNat]; omega
  unfold isDig
  rw [e]
  exact ⟨decide_eq_true (by omega), by omega⟩
theorem dec_dig : ∀ n : Nat, (Lib.decDigits n).all isDig = true ∧ foldN 0 (Lib.decDigits n) = n := by
  intro n
  induction n using Nat.strongRecOn with
  | ind n ih =>
    rw [Lib.decDigits]
    split
    · next h =>
      obtain ⟨h1, h2⟩ := digit_char n h
      refine ⟨by rw [List.all_cons, h1]; rfl, ?_⟩
      simp only [foldN, List.foldl_cons, List.foldl_nil, h2]
      omega
    · next h =>
      obtain ⟨h1, h2⟩ := digit_char (n % 10) (by omega)
      obtain ⟨h3, h4⟩ := ih (n / 10) (by omega)
      refine ⟨by rw [List.all_append, h3, List.all_cons, h1]; rfl, ?_⟩
      rw [foldN_snoc, h4, h2]
      omega
theorem dec_ne (n : Nat) : Lib.decDigits n ≠ [] := by
  rw [Lib.decDigits]
  split <;> simp
theorem dec_head : ∀ n : Nat, 1 ≤ n → (Lib.decDigits n).head? ≠ some 48 := by
  intro n
  induction n using Nat.strongRecOn with
  | ind n ih =>
    intro hn
    rw [Lib.decDigits]
    split
    · next h =>
      intro e
      simp only [List.head?_cons, Option.some.injEq] at e
      have := (digit_char n h).2
      rw [e] at this
      simp at this
      omega
    · next h =>
      have := ih (n / 10) (by omega) (by omega)
      cases e : Lib.decDigits (n / 10) with
      | nil => exact absurd e (dec_ne _)
      | cons y ys =>
        rw [e] at this
        simpa using this
theorem dec_len : ∀ (k n : Nat), n < 10 ^ (k + 1) → (Lib.decDigits n).length ≤ k + 1 := by
  intro k
  induction k with
  | zero =>
    intro n h
    rw [Lib.decDigits, dif_pos (by simpa using h)]
    simp
  | succ k ih =>
    intro n h
    rw [Lib.decDigits]
    split
    · simp
    · have h2 : n / 10 < 10 ^ (k + 1) := by
        rw [Nat.pow_succ] at h
        omega
      have := ih (n / 10) h2
      simp
      omega
theorem canon_dec (n : Nat) (h : n ≤ 999999) : canon (Lib.decDigits n) = true := by
  unfold canon
  have hl := dec_len 5 n (by omega)
  have hn := dec_ne n
  have h1 : 1 ≤ (Lib.decDigits n).length := by
    cases e : Lib.decDigits n with
    | nil => exact absurd e hn
    | cons _ _ => simp
  rw [(dec_dig n).1, Bool.and_true, Bool.and_eq_true, decide_eq_true_iff, decide_eq_true_iff]
  refine ⟨⟨h1, by omega⟩, ?_⟩
  by_cases z : 1 ≤ n
  · exact .inl (dec_head n z)
  · right
    rw [Lib.decDigits, dif_pos (by omega)]
    rfl
theorem dec_of : ∀ (m : Nat) (l : List UInt8), l.length = m → 1 ≤ m → (l.head? ≠ some 48 ∨ l.length = 1) → l.all isDig = true → Lib.decDigits (foldN 0 l) = l := by
  intro m
  induction m with
  | zero => intro l _ h; omega
  | succ m ih =>
    intro l hl _ hh hd
    have hne : l ≠ [] := by intro e; rw [e] at hl; simp at hl
    obtain ⟨p, d, rfl⟩ : ∃ p d, l = p ++ [d] := ⟨l.dropLast, l.getLast hne, (List.dropLast_concat_getLast hne).symm⟩
    rw [List.all_append, Bool.and_eq_true] at hd
    have hdd : 48 ≤ d.toNat ∧ d.toNat ≤ 57 := by simpa [isDig] using hd.2
    have hchar : UInt8.ofNat (48 + (d.toNat - 48)) = d := by
      rw [show 48 + (d.toNat - 48) = d.toNat by omega]
      simp
    rw [foldN_snoc]
    rw [List.length_append, List.length_singleton] at hl
    cases p with
    | nil =>
      have e : foldN 0 [] = 0 := rfl
      rw [e, Lib.decDigits, dif_pos (by omega), Nat.zero_mul, Nat.zero_add, hchar]
      rfl
    | cons c p =>
      have hc0 : c ≠ 48 := by
        rcases hh with hh | hh
        · intro e; exact hh (by simp [e])
        · simp at hh
      have hcd : 48 ≤ c.toNat ∧ c.toNat ≤ 57 := by
        have := hd.1
        rw [List.all_cons, Bool.and_eq_true] at this
        simpa [isDig] using this.1
      have hpos : 1 ≤ foldN 0 (c :: p) := by
        rw [foldN_cons]
        refine Nat.le_trans ?_ (foldN_ge _ _)
        have : c.toNat ≠ 48 := fun e => hc0 (UInt8.toNat_inj.1 (by simpa using e))
        omega
      have h2 := ih (c :: p) (by simpa using hl) (by simp at hl; omega) (.inl (by simpa using hc0)) hd.1
      rw [Lib.decDigits, dif_neg (by omega), show (foldN 0 (c :: p) * 10 + (d.toNat - 48)) / 10 = foldN 0 (c :: p) by omega, show (foldN 0 (c :: p) * 10 + (d.toNat - 48)) % 10 = d.toNat - 48 by omega, h2, hchar]
/-- What the reference reads: -1 where it is no numeral of at most six digits. -/
def rdS (s : ByteArray) : Int := if canon s.data.toList = true then ((foldN 0 s.data.toList : Nat) : Int) else -1
theorem rdS_cases (s : ByteArray) : rdS s = -1 ∨ (0 ≤ rdS s ∧ rdS s ≤ 999999 ∧ s.data.toList = Lib.itoa (rdS s)) := by
  unfold rdS
  split
  · next h =>
    right
    unfold canon at h
    rw [Bool.and_eq_true, Bool.and_eq_true, decide_eq_true_iff, decide_eq_true_iff] at h
    obtain ⟨⟨h1, h2⟩, h3, h4⟩ := h
    have hlt := foldN_lt _ h4 0
    have hp : 10 ^ s.data.toList.length ≤ 10 ^ 6 := Nat.pow_le_pow_right (by omega) h2
    refine ⟨by omega, by omega, ?_⟩
    rw [itoa_nat]
    exact (dec_of _ _ rfl h1 h3 h4).symm
  · exact .inl rfl
theorem rdS_itoa (s : ByteArray) (v : Int) (h0 : 0 ≤ v) (h1 : v ≤ 999999) (h : s.data.toList = Lib.itoa v) : rdS s = v := by
  obtain ⟨n, rfl⟩ := Int.eq_ofNat_of_zero_le h0
  unfold rdS
  rw [h, itoa_nat, if_pos (canon_dec n (by omega)), (dec_dig n).2]
theorem bt_dig (s : ByteArray) (i : Int) (h0 : 0 ≤ i) (h1 : i < s.size) : ∃ h : i.toNat < s.data.toList.length, bt s i = ((s.data.toList[i.toNat]).toNat : Int) := bt_list s i h0 h1
theorem l1Read_l0_ev (s : ByteArray) (hs : s.size ≤ 6) : ∀ i : Int, 0 ≤ i → i ≤ s.size → ∀ a : Nat, a < 10 ^ i.toNat → Ev (fun k => spec_l1Read.l0 k s a i) (if (s.data.toList.drop i.toNat).all isDig = true then ((foldN a (s.data.toList.drop i.toNat) : Nat) : Int) else -1) := by
  refine downI (fun a ha => ?_) (fun i h0 h1 ih a ha => ?_)
  · refine Ev.step (fun k => by simp only [spec_l1Read.l0]; rw [if_neg (by omega)]) ?_
    rw [List.drop_of_length_le (by rw [← size_list]; omega)]
    exact Ev.now _
  · obtain ⟨hlt, hb⟩ := bt_list s i h0 h1
    rw [List.drop_eq_getElem_cons hlt]
    have hpw : 10 ^ i.toNat ≤ 10 ^ 5 := Nat.pow_le_pow_right (by omega) (by omega)
    by_cases c : 48 ≤ (s.data.toList[i.toNat]).toNat ∧ (s.data.toList[i.toNat]).toNat ≤ 57
    · have e : wrap64 (wrap64 (10 * (a : Int)) + (bt s i - 48) % 256) = ((a * 10 + ((s.data.toList[i.toNat]).toNat - 48) : Nat) : Int) := by
        rw [w64 (x := 10 * (a : Int)) (by omega) (by omega), hb, show (((s.data.toList[i.toNat]).toNat : Int) - 48) % 256 = (((s.data.toList[i.toNat]).toNat - 48 : Nat) : Int) by omega, w64 (by omega) (by omega)]
        omega
      refine Ev.step (fun k => by simp only [spec_l1Read.l0]; rw [if_pos h1, if_pos h0, if_neg (by rw [hb]; omega), if_neg (by rw [hb]; omega), e, w64 (x := i + 1) (by omega) (by omega)]) ?_
      have h := ih (a * 10 + ((s.data.toList[i.toNat]).toNat - 48)) (by rw [show (i + 1).toNat = i.toNat + 1 by omega, Nat.pow_succ]; omega)
      rw [show (i + 1).toNat = i.toNat + 1 by omega] at h
      rw [List.all_cons, show isDig (s.data.toList[i.toNat]) = true from decide_eq_true c, Bool.true_and]
      exact h
    · rw [List.all_cons, show isDig (s.data.toList[i.toNat]) = false from decide_eq_false c, Bool.false_and, if_neg (by simp)]
      by_cases c1 : bt s i < 48
      · exact Ev.step (fun k => by simp only [spec_l1Read.l0]; rw [if_pos h1, if_pos h0, if_pos c1]) (Ev.now _)
      · exact Ev.step (fun k => by simp only [spec_l1Read.l0]; rw [if_pos h1, if_pos h0, if_neg c1, if_pos (by rw [hb] at c1 ⊢; omega)]) (Ev.now _)
theorem l1Read_ev (s : ByteArray) : Ev (fun k => spec_l1Read.f k s) (rdS s) := by
  unfold spec_l1Read.f
  simp only [in_eq, Option.bind_some]
  by_cases h : 1 ≤ (s.size : Int) ∧ (s.size : Int) ≤ 6
  · simp only [h, and_self, decide_true, if_true]
    have hsl := size_list s
    obtain ⟨hlt, hb⟩ := bt_list s 0 (by omega) (by omega)
    have hhd : s.data.toList.head? = some (s.data.toList[(0 : Int).toNat]) := by
      rw [List.head?_eq_getElem?]
      exact List.getElem?_eq_getElem hlt
    have h0 := l1Read_l0_ev s (by omega) 0 (by omega) (by omega) 0 (by simp)
    simp only [Int.toNat_zero, List.drop_zero] at h0
    refine Ev.congr (fun k => by rw [if_pos (by omega)]) ?_
    by_cases z : bt s 0 = 48 ∧ (s.size : Int) > 1
    · refine Ev.congr (fun k => by rw [if_pos z.1]) ?_
      refine Ev.step (fun k => by simp only [spec_l1Read.j0]; rw [if_pos (decide_eq_true z.2)]) ?_
      have e : rdS s = -1 := by
        unfold rdS
        refine if_neg (fun hc => ?_)
        unfold canon at hc
        rw [Bool.and_eq_true, Bool.and_eq_true, decide_eq_true_iff, decide_eq_true_iff] at hc
        rcases hc.2.1 with h2 | h2
        · refine h2 ?_
          rw [hhd]
          congr 1
          have := z.1
          rw [hb] at this
          exact UInt8.toNat_inj.1 (by simpa using (by omega : (s.data.toList[(0 : Int).toNat]).toNat = 48))
        · omega
      rw [e]
      exact Ev.now _
    · have key : Ev (fun k => spec_l1Read.j0 k s false) (rdS s) := by
        refine Ev.step (fun k => by simp only [spec_l1Read.j0]; rw [if_neg (by simp)]) ?_
        have e : rdS s = (if s.data.toList.all isDig = true then ((foldN 0 s.data.toList : Nat) : Int) else -1) := by
          unfold rdS canon
          rw [decide_eq_true (by omega : 1 ≤ s.data.toList.length ∧ s.data.toList.length ≤ 6), Bool.true_and, decide_eq_true (show s.data.toList.head? ≠ some 48 ∨ s.data.toList.length = 1 from ?_), Bool.true_and]
          by_cases h1 : s.data.toList.length = 1
          · exact .inr h1
          · left
            rw [hhd]
            intro e
            injection e with e
            exact z ⟨by rw [hb, e]; rfl, by omega⟩
        rw [e]
        exact h0
      by_cases z1 : bt s 0 = 48
      · refine Ev.congr (fun k => by rw [if_pos z1, decide_eq_false (fun h2 => z ⟨z1, h2⟩)]) key
      · exact Ev.congr (fun k => by rw [if_neg z1]) key
  · simp only [h, decide_false, Bool.false_eq_true, if_false]
    have e : rdS s = -1 := by
      unfold rdS
      refine if_neg (fun hc => ?_)
      unfold canon at hc
      rw [Bool.and_eq_true, decide_eq_true_iff] at hc
      have := size_list s
      omega
    rw [e]
    exact Ev.step (fun k => by simp only [spec_l1Read.j0, if_true]) (Ev.now _)
/-! what the program reads -/
theorem parse10 : ∀ (l : List UInt8), l.all isDig = true → ∀ a : Nat, (a + 1) * 10 ^ l.length ≤ 1000000000000000000 → Lib.parseUint10 a l = .ok (foldN a l) := by
  intro l
  induction l with
  | nil => intro _ a _; rfl
  | cons c l ih =>
    intro h a ha
    rw [List.all_cons, Bool.and_eq_true] at h
    have hc : 48 ≤ c.toNat ∧ c.toNat ≤ 57 := by simpa [isDig] using h.1
    rw [List.length_cons, Nat.pow_succ] at ha
    have hp : 1 ≤ 10 ^ l.length := Nat.one_le_iff_ne_zero.2 (by simp)
    have h2 : (a * 10 + (c.toNat - 48) + 1) * 10 ^ l.length ≤ ((a + 1) * 10) * 10 ^ l.length := Nat.mul_le_mul_right _ (by omega)
    have h3 : ((a + 1) * 10) * 10 ^ l.length = (a + 1) * (10 ^ l.length * 10) := by rw [Nat.mul_assoc, Nat.mul_comm 10]
    have h4 : (a * 10 + (c.toNat - 48) + 1) * 1 ≤ (a * 10 + (c.toNat - 48) + 1) * 10 ^ l.length := Nat.mul_le_mul_left _ hp
    unfold Lib.parseUint10
    rw [if_pos hc, if_neg (by omega), if_neg (by omega), ih h.2 _ (by omega), foldN_cons]
theorem atoi_dec (n : Nat) (h : n ≤ 999999) : Lib.atoiAll (Lib.decDigits n) = .ok (n : Int) := by
  have hd := dec_dig n
  have hl := dec_len 5 n (by omega)
  have hp : 10 ^ (Lib.decDigits n).length ≤ 10 ^ 6 := Nat.pow_le_pow_right (by omega) hl
  have h10 := parse10 _ hd.1 0 (by omega)
  rw [hd.2] at h10
  cases e : Lib.decDigits n with
  | nil => exact absurd e (dec_ne n)
  | cons c r =>
    have hc : 48 ≤ c.toNat ∧ c.toNat ≤ 57 := by
      have := hd.1
      rw [e, List.all_cons, Bool.and_eq_true] at this
      simpa [isDig] using this.1
    rw [e] at h10
    unfold Lib.atoiAll
    simp only
    rw [if_neg (by omega)]
    unfold Lib.parseMag
    rw [if_neg (by simp), h10]
    simp only
    rw [if_neg (by omega), if_neg (by omega), if_neg (by omega)]
theorem rdNum_ok {s : ByteArray} {v : Int} (h : XText.rdNum s = (v, true)) : s.data.toList = Lib.itoa v := by
  unfold XText.rdNum at h
  split at h
  · next u _ =>
    split at h
    · next he =>
      injection h with h1 _
      subst h1
      have := toList_inj _ _ he
      rw [← this]
    · simp at h
  · simp at h
theorem rdNum_itoa (s : ByteArray) (v : Int) (h0 : 0 ≤ v) (h1 : v ≤ 999999) (h : s.data.toList = Lib.itoa v) : XText.rdNum s = (v, true) := by
  obtain ⟨n, rfl⟩ := Int.eq_ofNat_of_zero_le h0
  have ha : Lib.atoiAll s.data.toList = .ok (n : Int) := by rw [h, itoa_nat]; exact atoi_dec n (by omega)
  unfold XText.rdNum
  rw [ha]
  simp only
  rw [if_pos]
  rw [toList_eq, toList_eq, h]
theorem itoa_free (v : Int) (h0 : 0 ≤ v) (c : UInt8) (hc : isDig c = false) : c ∉ Lib.itoa v := by
  obtain ⟨n, rfl⟩ := Int.eq_ofNat_of_zero_le h0
  rw [itoa_nat]
  intro hm
  have := List.all_eq_true.1 (dec_dig n).1 c hm
  rw [hc] at this
  cases this
theorem cutL_len (c : UInt8) : ∀ l, (cutL c l).length ≤ l.length + 1 := by
  intro l
  induction l with
  | nil => simp [cutL]
  | cons x xs ih =>
    unfold cutL
    split
    · simp; omega
    · cases e : cutL c xs with
      | nil => simp
      | cons y ys => rw [e] at ih; simp at ih ⊢; omega
theorem cutB_len (c : UInt8) (s : ByteArray) : (cutB c s).length ≤ s.size + 1 := by
  unfold cutB
  rw [List.length_map, size_list]
  exact cutL_len c _
theorem cutB_lists (c : UInt8) (s : ByteArray) : (cutB c s).map (fun (x : ByteArray) => x.data.toList) = cutL c s.data.toList := by
  unfold cutB
  rw [List.map_map]
  have : (fun (x : ByteArray) => x.data.toList) ∘ mkB = id := by funext l; exact mkB_list l
  rw [this, List.map_id]
/-- The text is its parts with the byte between them. -/
theorem cutB_join (c : UInt8) (s : ByteArray) : s.data.toList = Lib.join ((cutB c s).map (fun (x : ByteArray) => x.data.toList)) [c] := by
  rw [cutB_lists, cutL_join]
theorem cutB_of (c : UInt8) (s : ByteArray) (ps : List (List UInt8)) (hne : ps ≠ []) (hf : ∀ p, p ∈ ps → c ∉ p) (h : s.data.toList = Lib.join ps [c]) : cutB c s = ps.map mkB := by
  unfold cutB
  rw [h, cutL_of_join c ps hne hf]
def rdAll : List ByteArray → Option (List Int)
  | [] => some []
  | q :: qs => if (XText.rdNum q).2 = true then (rdAll qs).map (fun l => (XText.rdNum q).1 :: l) else none
theorem rdAll_some : ∀ (qs : List ByteArray) (l : List Int), rdAll qs = some l → qs.map (fun (x : ByteArray) => x.data.toList) = l.map Lib.itoa := by
  intro qs
  induction qs with
  | nil => intro l h; simp only [rdAll, Option.some.injEq] at h; subst h; rfl
  | cons q qs ih =>
    intro l h
    unfold rdAll at h
    split at h
    · next hq =>
      obtain ⟨m, hm, rfl⟩ := Option.map_eq_some_iff.1 h
      rw [List.map_cons, List.map_cons, ih m hm]
      congr 1
      exact rdNum_ok (v := (XText.rdNum q).1) (Prod.ext rfl hq)
    · cases h
theorem rdAll_of : ∀ (qs : List ByteArray) (l : List Int), qs.map (fun (x : ByteArray) => x.data.toList) = l.map Lib.itoa → (∀ v, v ∈ l → 0 ≤ v ∧ v ≤ 999999) → rdAll qs = some l := by
  intro qs
  induction qs with
  | nil =>
    intro l h _
    cases l with
    | nil => rfl
    | cons v l => simp at h
  | cons q qs ih =>
    intro l h hb
    cases l with
    | nil => simp at h
    | cons v l =>
      rw [List.map_cons, List.map_cons, List.cons.injEq] at h
      have hv := hb v List.mem_cons_self
      have hr := rdNum_itoa q v hv.1 hv.2 h.1
      unfold rdAll
      rw [hr, if_pos rfl, ih l h.2 (fun x hx => hb x (List.mem_cons_of_mem _ hx))]
      rfl
theorem rdOf_mem (qs : List ByteArray) (i : Int) (h0 : 0 ≤ i) (h1 : i < qs.length) : rdOf ByteArray.empty qs i ∈ qs := get_mem qs ByteArray.empty i h0 h1
def numsR (acc : List Int) : Option (List Int) → List Int × Bool
  | some l => (acc ++ l, true)
  | none => ([], false)
theorem readNums_l0_ev (qs : List ByteArray) (hl : qs.length ≤ 16777217) (hs : ∀ q, q ∈ qs → q.size ≤ 16777216) : ∀ i : Int, 0 ≤ i → i ≤ qs.length → ∀ acc : List Int, (acc.length : Int) ≤ i → Ev (fun k => impl_readNumbers.l0 k acc qs qs.length i) (numsR acc (rdAll (qs.drop i.toNat))) := by
  refine downI (fun acc ha => ?_) (fun i h0 h1 ih acc ha => ?_)
  · refine Ev.step (fun k => by simp only [impl_readNumbers.l0]; rw [if_neg (by omega)]) ?_
    rw [List.drop_of_length_le (by omega)]
    simp only [rdAll, numsR, List.append_nil]
    exact Ev.now _
  · have hq := hs _ (rdOf_mem qs i h0 h1)
    rw [drop_get qs ByteArray.empty i h0 h1]
    change Ev _ (numsR acc (rdAll (rdOf ByteArray.empty qs i :: qs.drop (i + 1).toNat)))
    unfold rdAll
    have st : ∀ k, impl_readNumbers.l0 (k + 1) acc qs qs.length i = if (XText.rdNum (rdOf ByteArray.empty qs i)).2 = true then impl_readNumbers.l0 k (acc ++ [(XText.rdNum (rdOf ByteArray.empty qs i)).1]) qs qs.length (i + 1) else some ([], false) := by
      intro k
      simp only [impl_readNumbers.l0, impl_readNumber.f]
      rw [if_pos h1, if_pos h0, if_pos h1, if_pos (show (rdOf ByteArray.empty qs i).size ≤ 281474976710656 by omega), Option.bind_some]
      simp only
      rw [if_pos (show acc.length < 17592186044416 by omega), w64 (x := i + 1) (by omega) (by omega)]
    by_cases c : (XText.rdNum (rdOf ByteArray.empty qs i)).2 = true
    · refine Ev.step (fun k => by rw [st, if_pos c]) ?_
      rw [if_pos c]
      have h := ih (acc ++ [(XText.rdNum (rdOf ByteArray.empty qs i)).1]) (by simp; omega)
      cases e : rdAll (qs.drop (i + 1).toNat) with
      | none => rw [e] at h; exact h
      | some l =>
        rw [e] at h
        simp only [numsR, List.append_assoc, List.singleton_append] at h
        exact h
    · rw [if_neg c]
      exact Ev.step (fun k => by rw [st, if_neg c]; rfl) (Ev.now _)
theorem readNums_ev (c : UInt8) (s : ByteArray) (hs : s.size ≤ 16777216) : Ev (fun k => impl_readNumbers.f k s (⟨#[c]⟩ : ByteArray)) (numsR [] (rdAll (cutB c s))) := by
  unfold impl_readNumbers.f
  rw [split_eq c s (by omega)]
  simp only [Option.bind_some]
  have hl := cutB_len c s
  exact readNums_l0_ev (cutB c s) (by omega) (fun q hq => by have := cutB_mem hq; omega) 0 (by omega) (by omega) [] (by simp)
def okLeg (x : S61) : Bool := decide (1 ≤ x.f0 ∧ x.f0 ≤ 1000) && decide (1 ≤ x.f1 ∧ x.f1 ≤ 100)
def goodLegs (l : List S61) : Bool := decide (1 ≤ (l.length : Int) ∧ (l.length : Int) ≤ 5) && l.all okLeg
theorem okLeg_iff {x : S61} : okLeg x = true ↔ (1 ≤ x.f0 ∧ x.f0 ≤ 1000) ∧ (1 ≤ x.f1 ∧ x.f1 ≤ 100) := by
  unfold okLeg; rw [Bool.and_eq_true, decide_eq_true_iff, decide_eq_true_iff]
theorem reGood_l0_ev (l : List S61) (hl : l.length ≤ 5) : ∀ i : Int, 0 ≤ i → i ≤ l.length → Ev (fun k => spec_reGood.l0 k l l.length i) ((l.drop i.toNat).all okLeg) := by
  refine downI ?_ (fun i h0 h1 ih => ?_)
  · refine Ev.step (fun k => by simp only [spec_reGood.l0]; rw [if_neg (by omega)]) ?_
    rw [List.drop_of_length_le (by omega)]
    exact Ev.now _
  · rw [drop_get l z61 i h0 h1, List.all_cons]
    refine Ev.step (f := fun k => if decide (1 ≤ (rd_T61 l i).f0 ∧ (rd_T61 l i).f0 ≤ 1000) = true then (if decide (1 ≤ (rd_T61 l i).f1 ∧ (rd_T61 l i).f1 ≤ 100) = true then spec_reGood.l0 k l l.length (i + 1) else some false) else some false) (fun k => by simp only [spec_reGood.l0, in_eq, Option.bind_some]; rw [if_pos h1, if_pos h0, if_pos h1, w64 (x := i + 1) (by omega) (by omega)]) ?_
    show Ev _ (okLeg (rd_T61 l i) && _)
    unfold okLeg
    by_cases a : decide (1 ≤ (rd_T61 l i).f0 ∧ (rd_T61 l i).f0 ≤ 1000) = true
    · by_cases b : decide (1 ≤ (rd_T61 l i).f1 ∧ (rd_T61 l i).f1 ≤ 100) = true
      · simp only [a, b, if_true, Bool.true_and]; exact ih
      · simp only [a, b, if_true, Bool.true_and, Bool.false_and, Bool.false_eq_true, if_false]; exact Ev.now _
    · simp only [a, Bool.false_and, Bool.false_eq_true, if_false]; exact Ev.now _
theorem reGood_ev (l : List S61) : Ev (fun k => spec_reGood.f k l) (goodLegs l) := by
  unfold spec_reGood.f goodLegs
  simp only [in_eq, Option.bind_some]
  by_cases h : 1 ≤ (l.length : Int) ∧ (l.length : Int) ≤ 5
  · simp only [h, and_self, decide_true, if_true, Bool.true_and]
    exact reGood_l0_ev l (by omega) 0 (by omega) (by omega)
  · simp only [h, decide_false, Bool.false_and, Bool.false_eq_true, if_false]
    exact Ev.now _
theorem areLegs_1_eq (x : S61) : impl_AreLegs_1.f x.f0 x.f1 = some (!okLeg x) := by
  unfold impl_AreLegs_1.f impl_isLong.f impl_isFast.f okLeg
  simp only [within_eq, Option.bind_some]
  by_cases a : decide (1 ≤ x.f0 ∧ x.f0 ≤ 1000) = true
  · simp [a]
  · simp [a]
theorem indexLeg_ev (l : List S61) (hl : l.length ≤ 5) : ∀ i : Int, 0 ≤ i → i ≤ l.length → ∃ r : Int, Ev (fun k => impl_Leg_78.l0 k l l.length i) r ∧ decide (r ≥ 0) = !((l.drop i.toNat).all okLeg) := by
  refine downI ?_ (fun i h0 h1 ih => ?_)
  · refine ⟨-1, Ev.step (fun k => by simp only [impl_Leg_78.l0]; rw [if_neg (by omega)]) (Ev.now _), ?_⟩
    rw [List.drop_of_length_le (by omega)]
    rfl
  · rw [drop_get l z61 i h0 h1, List.all_cons]
    have st : ∀ k, impl_Leg_78.l0 (k + 1) l l.length i = if (!okLeg (rd_T61 l i)) = true then some i else impl_Leg_78.l0 k l l.length (i + 1) := fun k => by
      simp only [impl_Leg_78.l0, areLegs_1_eq, Option.bind_some]; rw [if_pos h1, if_pos h0, if_pos h1, w64 (x := i + 1) (by omega) (by omega)]
    show ∃ r : Int, _ ∧ _ = !(okLeg (rd_T61 l i) && _)
    cases a : okLeg (rd_T61 l i)
    · exact ⟨i, Ev.step (fun k => by rw [st, a]; rfl) (Ev.now i), by simp [h0]⟩
    · obtain ⟨r, h2, h3⟩ := ih
      exact ⟨r, Ev.step (fun k => by rw [st, a]; rfl) h2, by simpa using h3⟩
theorem areLegs_ev (l : List S61) : Ev (fun k => impl_AreLegs.f k l) (goodLegs l) := by
  unfold impl_AreLegs.f goodLegs
  simp only [within_eq, Option.bind_some]
  by_cases h : 1 ≤ (l.length : Int) ∧ (l.length : Int) ≤ 5
  · simp only [h, and_self, decide_true, if_true, Bool.true_and]
    obtain ⟨r, h1, h2⟩ := indexLeg_ev l (by omega) 0 (by omega) (by omega)
    unfold impl_Leg_64.f impl_Leg_78.f
    refine Ev.bind (Ev.bind h1 (Ev.now _)) ?_
    rw [h2]
    simp only [Bool.not_not]
    exact Ev.now _
  · simp only [h, decide_false, Bool.false_and, Bool.false_eq_true, if_false]
    exact Ev.now _
theorem eqLegS_l0_ev (l : List S61) (hl : l.length ≤ 1048576) : ∀ i : Int, 0 ≤ i → i ≤ l.length → Ev (fun k => laws_eqLegS.l0 k l l i) true := by
  refine downI ?_ (fun i h0 h1 ih => ?_)
  · exact Ev.step (fun k => by simp only [laws_eqLegS.l0]; rw [if_neg (by omega)]) (Ev.now _)
  · refine Ev.step (fun k => by simp only [laws_eqLegS.l0, laws_eqLeg.f, if_true, Option.bind_some]; rw [if_pos h1, if_pos h0, if_pos h1, w64 (x := i + 1) (by omega) (by omega)]) ih
theorem eqLegS_ev (l : List S61) (hl : l.length ≤ 1048576) : Ev (fun k => laws_eqLegS.f k l l) true := by
  refine Ev.congr (fun k => by unfold laws_eqLegS.f; rw [if_pos rfl]) ?_
  exact eqLegS_l0_ev l hl 0 (by omega) (by omega)
/-- Legs marked from m on. -/
def legsFrom (m : Int) : Nat → List S61
  | 0 => []
  | n + 1 => ⟨m, m + 1⟩ :: legsFrom (m + 2) n
theorem legsFrom_length : ∀ (n : Nat) (m : Int), (legsFrom m n).length = n := by
  intro n
  induction n with
  | zero => intro m; rfl
  | succ n ih => intro m; simp [legsFrom, ih]
theorem markLegS_l0_ev : ∀ (d : Nat) (x : List S61) (m i : Int), 0 ≤ i → (x.length : Int) - i = d → x.length ≤ 1048576 → 0 ≤ m → m + 2 * d ≤ 1000000000000 → Ev (fun k => laws_markLegS.l0 k x m i) (m + 2 * d, x.take i.toNat ++ legsFrom m d) := by
  intro d
  induction d with
  | zero =>
    intro x m i h0 hd hl _ _
    refine Ev.step (fun k => by simp only [laws_markLegS.l0]; rw [if_neg (by omega)]) ?_
    rw [List.take_of_length_le (by omega)]
    simp only [legsFrom, List.append_nil]
    have : m + 2 * ((0 : Nat) : Int) = m := by omega
    rw [this]
    exact Ev.now _
  | succ d ih =>
    intro x m i h0 hd hl hm hm2
    have hi : i.toNat < x.length := by omega
    have e : ((x.set i.toNat (⟨m, (rd_T61 x i).f1⟩ : S61)).set i.toNat (⟨(rd_T61 (x.set i.toNat (⟨m, (rd_T61 x i).f1⟩ : S61)) i).f0, m + 1⟩ : S61)) = x.set i.toNat ⟨m, m + 1⟩ := by
      rw [List.set_set]
      congr 1
      unfold rd_T61
      rw [List.getD_eq_getElem?_getD, List.getElem?_set_self hi]
      rfl
    refine Ev.step (fun k => by simp only [laws_markLegS.l0, Option.bind_some]; rw [if_pos (by omega), if_pos h0, w64 (x := m + 1) (by omega) (by omega), w64 (x := m + 1 + 1) (by omega) (by omega), w64 (x := i + 1) (by omega) (by omega), e]) ?_
    have h := ih (x.set i.toNat ⟨m, m + 1⟩) (m + 2) (i + 1) (by omega) (by simp; omega) (by simpa using hl) (by omega) (by omega)
    rw [show (i + 1).toNat = i.toNat + 1 by omega, set_fill x (legsFrom (m + 2) d) i.toNat _ hi] at h
    rw [show m + 2 * ((d + 1 : Nat) : Int) = m + 2 + 2 * (d : Int) by omega, show m + 1 + 1 = m + 2 by omega]
    exact h
theorem heldLegS_l0_ev : ∀ (d : Nat) (x : List S61) (m i : Int), 0 ≤ i → x.length ≤ 1048576 → x.drop i.toNat = legsFrom m d → (x.length : Int) - i = d → 0 ≤ m → m + 2 * d ≤ 1000000000000 → Ev (fun k => laws_heldLegS.l0 k x m i) (m + 2 * d) := by
  intro d
  induction d with
  | zero =>
    intro x m i h0 hl hx hd _ _
    refine Ev.step (fun k => by simp only [laws_heldLegS.l0]; rw [if_neg (by omega)]) ?_
    have : m + 2 * ((0 : Nat) : Int) = m := by omega
    rw [this]
    exact Ev.now _
  | succ d ih =>
    intro x m i h0 hl hx hd hm hm2
    have hi : i < (x.length : Int) := by omega
    rw [drop_get x z61 i h0 hi] at hx
    simp only [legsFrom, List.cons.injEq] at hx
    have e : rd_T61 x i = ⟨m, m + 1⟩ := hx.1
    refine Ev.step (fun k => by simp only [laws_heldLegS.l0, e]; rw [if_pos hi, if_pos h0, if_pos trivial, w64 (x := m + 1) (by omega) (by omega), if_pos rfl, w64 (x := m + 1 + 1) (by omega) (by omega), w64 (x := i + 1) (by omega) (by omega)]) ?_
    rw [show m + 2 * ((d + 1 : Nat) : Int) = m + 2 + 2 * (d : Int) by omega, show m + 1 + 1 = m + 2 by omega]
    exact ih x (m + 2) (i + 1) (by omega) hl hx.2 (by omega) (by omega) (by omega)
theorem markLegS_ev (x : List S61) (hl : x.length ≤ 1048576) : Ev (fun k => laws_markLegS.f k x 1) (1 + 2 * x.length, legsFrom 1 x.length) := by
  unfold laws_markLegS.f
  have h := markLegS_l0_ev x.length x 1 0 (by omega) (by omega) hl (by omega) (by omega)
  simpa using h
theorem heldLegS_ev (n : Nat) (hl : n ≤ 1048576) : Ev (fun k => laws_heldLegS.f k (legsFrom 1 n) 1) (1 + 2 * n) := by
  unfold laws_heldLegS.f
  have h := heldLegS_l0_ev n (legsFrom 1 n) 1 0 (by omega) (by rw [legsFrom_length]; exact hl) (by simp) (by rw [legsFrom_length]; omega) (by omega) (by omega)
  simpa using h
theorem join_snoc (xs : List (List UInt8)) (x sep : List UInt8) (h : xs ≠ []) : Lib.join (xs ++ [x]) sep = Lib.join xs sep ++ sep ++ x := by
  cases xs with
  | nil => exact absurd rfl h
  | cons y ys =>
    rw [List.cons_append, Lib.join_cons, Lib.join_cons]
    simp [Lib.joinTail, List.append_assoc]
theorem joinTail_len (M : Nat) (sep : List UInt8) : ∀ xs : List (List UInt8), (∀ x, x ∈ xs → x.length ≤ M) → (Lib.joinTail sep xs).length ≤ xs.length * (M + sep.length) := by
  intro xs
  induction xs with
  | nil => intro _; simp [Lib.joinTail]
  | cons y ys ih =>
    intro h
    have h1 := ih (fun x hx => h x (List.mem_cons_of_mem _ hx))
    have h2 := h y List.mem_cons_self
    have e : Lib.joinTail sep (y :: ys) = sep ++ y ++ Lib.joinTail sep ys := by simp [Lib.joinTail]
    rw [e, List.length_append, List.length_append, List.length_cons, Nat.succ_mul]
    omega
theorem join_len (M : Nat) (sep : List UInt8) (xs : List (List UInt8)) (h : ∀ x, x ∈ xs → x.length ≤ M) : (Lib.join xs sep).length ≤ xs.length * (M + sep.length) := by
  cases xs with
  | nil => simp [Lib.join_nil]
  | cons y ys =>
    have h1 := joinTail_len M sep ys (fun x hx => h x (List.mem_cons_of_mem _ hx))
    have h2 := h y List.mem_cons_self
    rw [Lib.join_cons, List.length_append, List.length_cons, Nat.succ_mul]
    omega
theorem dec_len' (k : Nat) (v : Int) (h0 : 0 ≤ v) (h : v < 10 ^ (k + 1)) : (Lib.itoa v).length ≤ k + 1 := by
  obtain ⟨n, rfl⟩ := Int.eq_ofNat_of_zero_le h0
  rw [itoa_nat]
  exact dec_len k n (by exact_mod_cast h)
/-- A leg's text. -/
def legT (x : S61) : List UInt8 := Lib.join [Lib.itoa x.f0, Lib.itoa x.f1] [47]
theorem legT_eq (x : S61) : legT x = Lib.itoa x.f0 ++ ([47] ++ Lib.itoa x.f1) := by
  unfold legT
  rw [Lib.join_cons]
  simp [Lib.joinTail]
theorem legT_len {x : S61} (h : okLeg x = true) : (legT x).length ≤ 8 := by
  have h := okLeg_iff.1 h
  have := dec_len' 3 x.f0 (by omega) (by omega)
  have := dec_len' 2 x.f1 (by omega) (by omega)
  rw [legT_eq]
  simp only [List.length_append, List.length_cons, List.length_nil]
  omega
theorem legT_free {x : S61} (h : okLeg x = true) : (43 : UInt8) ∉ legT x := by
  have h := okLeg_iff.1 h
  rw [legT_eq, List.mem_append, List.mem_append, not_or, not_or]
  exact ⟨itoa_free _ (by omega) 43 (by decide), by decide, itoa_free _ (by omega) 43 (by decide)⟩
theorem legT_cut {x : S61} (h : okLeg x = true) (q : ByteArray) (hq : q.data.toList = legT x) : cutB 47 q = [mkB (Lib.itoa x.f0), mkB (Lib.itoa x.f1)] := by
  have h := okLeg_iff.1 h
  have := cutB_of 47 q [Lib.itoa x.f0, Lib.itoa x.f1] (by simp) (fun p hp => by
    rcases List.mem_cons.1 hp with rfl | hp
    · exact itoa_free _ (by omega) 47 (by decide)
    · rw [List.mem_singleton.1 hp]; exact itoa_free _ (by omega) 47 (by decide)) hq
  simpa using this
/-- What the reference takes a part for. -/
def legS (q : ByteArray) : Option S61 := if (cutB 47 q).length = 2 then some ⟨rdS (rdOf ByteArray.empty (cutB 47 q) 0), rdS (rdOf ByteArray.empty (cutB 47 q) 1)⟩ else none
/-- What the program takes a part for. -/
def legI (q : ByteArray) : Option S61 := match rdAll (cutB 47 q) with
  | some l => if l.length = 2 then some ⟨rd l 0, rd l 1⟩ else none
  | none => none
def allL (f : ByteArray → Option S61) : List ByteArray → Option (List S61)
  | [] => some []
  | q :: qs => (f q).bind fun x => (allL f qs).map (fun l => x :: l)
theorem two_get (l : List ByteArray) (h : l.length = 2) : l = [rdOf ByteArray.empty l 0, rdOf ByteArray.empty l 1] := by
  match l, h with
  | [a, b], _ => rfl
theorem two_getI (l : List Int) (h : l.length = 2) : l = [rd l 0, rd l 1] := by
  match l, h with
  | [a, b], _ => rfl
theorem legS_some {q : ByteArray} {x : S61} (h : legS q = some x) (hx : okLeg x = true) : q.data.toList = legT x := by
  unfold legS at h
  split at h
  · next hl =>
    injection h with h
    have hk := okLeg_iff.1 hx
    rw [← h] at hk
    simp only at hk
    have h0 := rdS_cases (rdOf ByteArray.empty (cutB 47 q) 0)
    have h1 := rdS_cases (rdOf ByteArray.empty (cutB 47 q) 1)
    rcases h0 with h0 | ⟨_, _, h0⟩
    · omega
    rcases h1 with h1 | ⟨_, _, h1⟩
    · omega
    have e := cutB_join 47 q
    rw [two_get _ hl] at e
    rw [e]
    unfold legT
    rw [← h]
    simp only [List.map_cons, List.map_nil]
    rw [h0, h1]
  · cases h
theorem legI_some {q : ByteArray} {x : S61} (h : legI q = some x) : q.data.toList = legT x := by
  unfold legI at h
  split at h
  · next l hl =>
    split at h
    · next h2 =>
      injection h with h
      have h3 := rdAll_some _ _ hl
      rw [two_getI l h2] at h3
      rw [cutB_join 47 q, h3, ← h]
      rfl
    · cases h
  · cases h
theorem legS_of {q : ByteArray} {x : S61} (hx : okLeg x = true) (hq : q.data.toList = legT x) : legS q = some x := by
  have hk := okLeg_iff.1 hx
  have hc := legT_cut hx q hq
  unfold legS
  rw [hc, if_pos (show ([mkB (Lib.itoa x.f0), mkB (Lib.itoa x.f1)] : List ByteArray).length = 2 from rfl)]
  have g0 := rdS_itoa (rdOf ByteArray.empty [mkB (Lib.itoa x.f0), mkB (Lib.itoa x.f1)] 0) x.f0 (by omega) (by omega) (mkB_list _)
  have g1 := rdS_itoa (rdOf ByteArray.empty [mkB (Lib.itoa x.f0), mkB (Lib.itoa x.f1)] 1) x.f1 (by omega) (by omega) (mkB_list _)
  rw [g0, g1]
theorem legI_of {q : ByteArray} {x : S61} (hx : okLeg x = true) (hq : q.data.toList = legT x) : legI q = some x := by
  have hk := okLeg_iff.1 hx
  have hc := legT_cut hx q hq
  have hr : rdAll (cutB 47 q) = some [x.f0, x.f1] := rdAll_of _ _ (by rw [hc]; simp [mkB_list]) (fun v hv => by
    rcases List.mem_cons.1 hv with rfl | hv
    · omega
    · rw [List.mem_singleton.1 hv]; omega)
  unfold legI
  rw [hr]
  rfl
theorem allL_of {f : ByteArray → Option S61} (hf : ∀ (q : ByteArray) (x : S61), okLeg x = true → q.data.toList = legT x → f q = some x) : ∀ (qs : List ByteArray) (l : List S61), l.all okLeg = true → qs.map (fun (x : ByteArray) => x.data.toList) = l.map legT → allL f qs = some l := by
  intro qs
  induction qs with
  | nil =>
    intro l _ h
    cases l with
    | nil => rfl
    | cons v l => simp at h
  | cons q qs ih =>
    intro l hk h
    cases l with
    | nil => simp at h
    | cons v l =>
      rw [List.map_cons, List.map_cons, List.cons.injEq] at h
      rw [List.all_cons, Bool.and_eq_true] at hk
      unfold allL
      rw [hf q v hk.1 h.1, Option.bind_some, ih l hk.2 h.2]
      rfl
theorem allL_some {f : ByteArray → Option S61} (hf : ∀ (q : ByteArray) (x : S61), f q = some x → okLeg x = true → q.data.toList = legT x) : ∀ (qs : List ByteArray) (l : List S61), allL f qs = some l → l.all okLeg = true → qs.map (fun (x : ByteArray) => x.data.toList) = l.map legT := by
  intro qs
  induction qs with
  | nil => intro l h _; simp only [allL, Option.some.injEq] at h; subst h; rfl
  | cons q qs ih =>
    intro l h hk
    unfold allL at h
    obtain ⟨x, hx, h⟩ := Option.bind_eq_some_iff.1 h
    obtain ⟨m, hm, rfl⟩ := Option.map_eq_some_iff.1 h
    rw [List.all_cons, Bool.and_eq_true] at hk
    rw [List.map_cons, List.map_cons, ih m hm hk.2, hf q x hx hk.1]
/-- How both end, once all parts are taken. -/
def endL (acc : List S61) : Option (List S61) → List S61 × Bool
  | some l => if goodLegs (acc ++ l) = true then (acc ++ l, true) else ([], false)
  | none => ([], false)
theorem endL_step (acc : List S61) (x : S61) (o : Option (List S61)) : endL (acc ++ [x]) o = endL acc (o.map (fun l => x :: l)) := by
  cases o with
  | none => rfl
  | some l =>
    simp only [endL, Option.map_some, List.append_assoc, List.singleton_append]
theorem reParse_l0_ev (qs : List ByteArray) (hl : qs.length ≤ 1048577) (hs : ∀ q, q ∈ qs → q.size ≤ 1048576) : ∀ i : Int, 0 ≤ i → i ≤ qs.length → ∀ acc : List S61, (acc.length : Int) ≤ i → Ev (fun k => spec_reParse.l0 k acc qs qs.length i) (endL acc (allL legS (qs.drop i.toNat))) := by
  refine downI (fun acc ha => ?_) (fun i h0 h1 ih acc ha => ?_)
  · refine Ev.step (fun k => by simp only [spec_reParse.l0]; rw [if_neg (by omega)]) ?_
    rw [List.drop_of_length_le (by omega)]
    refine Ev.bind (reGood_ev acc) ?_
    simp only [allL, endL, List.append_nil]
    cases goodLegs acc
    · exact Ev.now _
    · exact Ev.now _
  · have hq := hs _ (rdOf_mem qs i h0 h1)
    rw [drop_get qs ByteArray.empty i h0 h1]
    change Ev _ (endL acc (allL legS (rdOf ByteArray.empty qs i :: qs.drop (i + 1).toNat)))
    unfold allL
    refine Ev.step (fun k => by simp only [spec_reParse.l0]; rw [if_pos h1, if_pos h0, if_pos h1, w64 (x := i + 1) (by omega) (by omega)]) ?_
    refine Ev.bind (l1Split_ev 47 (rdOf ByteArray.empty qs i) hq 47 rfl) ?_
    by_cases c : (cutB 47 (rdOf ByteArray.empty qs i)).length = 2
    · have e : legS (rdOf ByteArray.empty qs i) = some ⟨rdS (rdOf ByteArray.empty (cutB 47 (rdOf ByteArray.empty qs i)) 0), rdS (rdOf ByteArray.empty (cutB 47 (rdOf ByteArray.empty qs i)) 1)⟩ := by unfold legS; rw [if_pos c]
      rw [e, Option.bind_some]
      refine Ev.congr (fun k => by rw [if_pos (by omega), if_pos (by omega)]) ?_
      refine Ev.bind (l1Read_ev _) ?_
      refine Ev.congr (fun k => by rw [if_pos (by omega)]) ?_
      refine Ev.bind (l1Read_ev _) ?_
      refine Ev.congr (fun k => by rw [if_pos (by omega)]) ?_
      rw [← endL_step]
      exact ih (acc ++ [_]) (by simp; omega)
    · have e : legS (rdOf ByteArray.empty qs i) = none := by unfold legS; rw [if_neg c]
      rw [e, Option.bind_none]
      exact Ev.congr (fun k => by rw [if_neg (by omega)]; rfl) (Ev.now _)
theorem parseLegs_l0_ev (qs : List ByteArray) (hl : qs.length ≤ 1048577) (hs : ∀ q, q ∈ qs → q.size ≤ 1048576) : ∀ i : Int, 0 ≤ i → i ≤ qs.length → ∀ acc : List S61, (acc.length : Int) ≤ i → Ev (fun k => impl_ParseLegs.l0 k acc qs qs.length i) (endL acc (allL legI (qs.drop i.toNat))) := by
  refine downI (fun acc ha => ?_) (fun i h0 h1 ih acc ha => ?_)
  · refine Ev.step (fun k => by simp only [impl_ParseLegs.l0]; rw [if_neg (by omega)]) ?_
    rw [List.drop_of_length_le (by omega)]
    refine Ev.bind (areLegs_ev acc) ?_
    simp only [allL, endL, List.append_nil]
    cases goodLegs acc
    · exact Ev.now _
    · exact Ev.now _
  · have hq := hs _ (rdOf_mem qs i h0 h1)
    rw [drop_get qs ByteArray.empty i h0 h1]
    change Ev _ (endL acc (allL legI (rdOf ByteArray.empty qs i :: qs.drop (i + 1).toNat)))
    unfold allL
    have hrn := readNums_ev 47 (rdOf ByteArray.empty qs i) (by omega)
    refine Ev.step (fun k => by simp only [impl_ParseLegs.l0]; rw [if_pos h1, if_pos h0, if_pos h1, w64 (x := i + 1) (by omega) (by omega)]) ?_
    cases hr : rdAll (cutB 47 (rdOf ByteArray.empty qs i)) with
    | none =>
      rw [hr] at hrn
      have e : legI (rdOf ByteArray.empty qs i) = none := by unfold legI; rw [hr]
      rw [e, Option.bind_none]
      refine Ev.bind (show Ev _ (([] : List Int), false) from hrn) ?_
      dsimp only
      exact Ev.congr (fun k => by rw [if_neg (by simp)]; rfl) (Ev.now _)
    | some l =>
      rw [hr] at hrn
      refine Ev.bind (show Ev _ (l, true) from hrn) ?_
      dsimp only
      refine Ev.congr (fun k => by rw [if_pos rfl]) ?_
      by_cases c : l.length = 2
      · have e : legI (rdOf ByteArray.empty qs i) = some ⟨rd l 0, rd l 1⟩ := by unfold legI; rw [hr]; simp only [c, if_true]
        rw [e, Option.bind_some]
        refine Ev.congr (fun k => by rw [if_pos (by omega), if_pos (by omega), if_pos (by omega), if_pos (by omega)]) ?_
        rw [← endL_step]
        exact ih (acc ++ [_]) (by simp; omega)
      · have e : legI (rdOf ByteArray.empty qs i) = none := by unfold legI; rw [hr]; simp only [c, if_false]
        rw [e, Option.bind_none]
        exact Ev.congr (fun k => by rw [if_neg (by omega)]; rfl) (Ev.now _)
theorem legs_endL {f : ByteArray → Option S61} (hf : ∀ (q : ByteArray) (x : S61), f q = some x → okLeg x = true → q.data.toList = legT x) (s : ByteArray) (H : ¬ ∃ l : List S61, goodLegs l = true ∧ s.data.toList = Lib.join (l.map legT) [43]) : endL [] (allL f (cutB 43 s)) = ([], false) := by
  cases e : allL f (cutB 43 s) with
  | none => rfl
  | some l =>
    simp only [endL, List.nil_append]
    refine if_neg (fun hg => H ⟨l, hg, ?_⟩)
    have hg2 := hg
    unfold goodLegs at hg2
    rw [Bool.and_eq_true] at hg2
    rw [cutB_join 43 s, allL_some hf _ _ e hg2.2]
theorem parseLegs_both (s : ByteArray) (hs : s.size ≤ 1048576) : ∃ (l : List S61) (b : Bool), l.length ≤ 5 ∧ Ev (fun k => spec_ParseLegs.f k s) (l, b) ∧ Ev (fun k => impl_ParseLegs.f k s) (l, b) := by
  have hcl := cutB_len 43 s
  have hm : ∀ q, q ∈ cutB 43 s → q.size ≤ 1048576 := fun q hq => by have := cutB_mem hq; omega
  have hsp := reParse_l0_ev (cutB 43 s) (by omega) hm 0 (by omega) (by omega) [] (by simp)
  have him := parseLegs_l0_ev (cutB 43 s) (by omega) hm 0 (by omega) (by omega) [] (by simp)
  simp only [Int.toNat_zero, List.drop_zero] at hsp him
  have wrap : ∀ r : List S61 × Bool, Ev (fun k => spec_reParse.f k s) r → Ev (fun k => spec_ParseLegs.f k s) (r.1, r.2) := fun r h => by
    unfold spec_ParseLegs.f
    exact Ev.bind h (Ev.now _)
  have im : ∀ r : List S61 × Bool, Ev (fun k => impl_ParseLegs.l0 k [] (cutB 43 s) (cutB 43 s).length 0) r → Ev (fun k => impl_ParseLegs.f k s) r := fun r h => by
    unfold impl_ParseLegs.f
    rw [split_eq 43 s (by omega)]
    exact h
  have sp : s.size ≤ 80 → ∀ r : List S61 × Bool, Ev (fun k => spec_reParse.l0 k [] (cutB 43 s) (cutB 43 s).length 0) r → Ev (fun k => spec_reParse.f k s) r := fun h80 r h => by
    unfold spec_reParse.f
    refine Ev.congr (fun k => by rw [if_neg (by omega)]) ?_
    exact Ev.bind (l1Split_ev 43 s hs 43 rfl) h
  by_cases H : ∃ l : List S61, goodLegs l = true ∧ s.data.toList = Lib.join (l.map legT) [43]
  · obtain ⟨l, hg, he⟩ := H
    have hg2 := hg
    unfold goodLegs at hg2
    rw [Bool.and_eq_true, decide_eq_true_iff] at hg2
    have hlen := join_len 8 [43] (l.map legT) (fun x hx => by
      obtain ⟨y, hy, rfl⟩ := List.mem_map.1 hx
      exact legT_len (List.all_eq_true.1 hg2.2 y hy))
    have h80 : s.size ≤ 80 := by
      rw [size_list, he]
      rw [List.length_map] at hlen
      have : l.length * (8 + ([43] : List UInt8).length) ≤ 5 * (8 + ([43] : List UInt8).length) := Nat.mul_le_mul_right _ (by omega)
      simp only [List.length_cons, List.length_nil] at this hlen
      omega
    have hps := cutB_of 43 s (l.map legT) (by
      intro e
      have := congrArg List.length e
      rw [List.length_map, List.length_nil] at this
      omega) (fun p hp => by
      obtain ⟨y, hy, rfl⟩ := List.mem_map.1 hp
      exact legT_free (List.all_eq_true.1 hg2.2 y hy)) he
    have hmap : (cutB 43 s).map (fun (x : ByteArray) => x.data.toList) = l.map legT := by
      rw [hps, List.map_map]
      have : (fun (x : ByteArray) => x.data.toList) ∘ mkB = id := by funext l; exact mkB_list l
      rw [this, List.map_id]
    rw [allL_of (fun q x hx hq => legS_of hx hq) _ l hg2.2 hmap] at hsp
    rw [allL_of (fun q x hx hq => legI_of hx hq) _ l hg2.2 hmap] at him
    simp only [endL, List.nil_append, hg, if_true] at hsp him
    exact ⟨l, true, by omega, wrap (l, true) (sp h80 _ hsp), im _ him⟩
  · rw [legs_endL (fun q x h hx => legS_some h hx) s H] at hsp
    rw [legs_endL (fun q x h _ => legI_some h) s H] at him
    refine ⟨[], false, by simp, ?_, im _ him⟩
    by_cases h80 : s.size ≤ 80
    · exact wrap ([], false) (sp h80 _ hsp)
    · refine wrap ([], false) ?_
      unfold spec_reParse.f
      exact Ev.congr (fun k => by rw [if_pos (by omega)]) (Ev.now _)
theorem FnExactParseLegs : laws_FnExactParseLegs.Pure := by
  intro s hs
  refine Ev.rounds ?_
  unfold laws_FnExactParseLegs.f
  by_cases c : (s.size : Int) > 1048576
  · exact Ev.congr (fun k => by rw [if_pos c]) (Ev.now _)
  · refine Ev.congr (fun k => by rw [if_neg c]) ?_
    obtain ⟨l, b, h0, h1, h2⟩ := parseLegs_both s (by omega)
    have q1 := eqLegS_ev l (by omega)
    have m1 := markLegS_ev l (by omega)
    have m2 := heldLegS_ev l.length (by omega)
    refine Ev.bind h1 (Ev.bind h2 (Ev.bind q1 ?_))
    simp only [if_true, bne_self_eq_false]
    refine Ev.step (fun k => by simp only [laws_FnExactParseLegs.j0]; rw [if_neg (by simp)]) ?_
    refine Ev.bind m1 (Ev.bind m2 ?_)
    refine Ev.congr (fun k => by rw [if_neg (by omega), if_pos rfl]) ?_
    refine Ev.bind h2 (Ev.bind q1 ?_)
    simp only [if_true, bne_self_eq_false]
    refine Ev.step (fun k => by simp only [laws_FnExactParseLegs.j1]; rw [if_neg (by simp)]) ?_
    refine Ev.bind m2 ?_
    exact Ev.congr (fun k => by rw [if_neg (by omega), if_pos rfl]) (Ev.now _)
end Go.Proofs.YtoaacabnlfglmaaDoor.Pure
