/- Trains pass for their lengths by their rates, bridges for poles and bridges, each other for both lengths, and lengths and rates come back from times, whatever was drawn. No conditions. -/
import Derived.Test.YtnbmplhcbliclaaGreatDoorQTx11d
import Derived.Test.YtnbmplhcbliclaaGreatDoorPlain
set_option linter.unusedVariables false
set_option linter.unusedSimpArgs false
namespace Go.Proofs.YtnbmplhcbliclaaGreatDoor.Pure
open Go.RowKit Go.Proofs.YtnbmplhcbliclaaGreatDoor.QT Go.Proofs.YtnbmplhcbliclaaGreatDoorW.PrintWords Go.Proofs.YtnbmplhcbliclaaGreatDoorW.PrintLast Go.Proofs.YtnbmplhcbliclaaGreatDoorW.PrintMore Go.Proofs.YtnbmplhcbliclaaGreatDoor.Plain
theorem in_eq (a b c : Int) : spec_l1In.f a b c = some (decide (b ≤ a ∧ a ≤ c)) := by
  unfold spec_l1In.f
  by_cases h : a ≥ b
  · rw [if_pos h]; congr 1; simp; omega
  · rw [if_neg h]; congr 1; simp; omega
theorem within_eq (a b c : Int) : impl_within.f a b c = some (decide (b ≤ a ∧ a ≤ c)) := by
  unfold impl_within.f
  by_cases h : a ≥ b
  · rw [if_pos h]; congr 1; simp; omega
  · rw [if_neg h]; congr 1; simp; omega
theorem w64 {x : Int} (h1 : -9223372036854775808 ≤ x) (h2 : x ≤ 9223372036854775807) : wrap64 x = x := by unfold wrap64; omega
theorem decDigits_len : ∀ n : Nat, (Lib.decDigits n).length ≤ n + 1 := by
  intro n
  induction n using Nat.strongRecOn with
  | ind n ih =>
    rw [Lib.decDigits]
    split
    · simp
    · next h =>
      have := ih (n / 10) (by omega)
      simp
      omega
theorem ba_append (a b : List UInt8) : (⟨a.toArray⟩ : ByteArray) ++ ⟨b.toArray⟩ = ⟨(a ++ b).toArray⟩ := by
  apply ByteArray.ext
  simp
theorem ba_size (a : List UInt8) : (⟨a.toArray⟩ : ByteArray).size = a.length := by
  simp [ByteArray.size]
theorem digit_str (d : Nat) (h : d < 10) : strOfNums [(wrap64 (48 + (d : Int))) % 256] = ⟨([UInt8.ofNat (48 + d)] : List UInt8).toArray⟩ := by
  unfold strOfNums
  rw [w64 (by omega) (by omega), show (48 + (d : Int)) % 256 = ((48 + d : Nat) : Int) by omega]
  rw [List.map_cons, List.map_nil, Int.toNat_natCast]
theorem l1Num_ev : ∀ n : Nat, n ≤ 1000000000000000 → Ev (fun k => spec_l1Num.f k (n : Int)) (⟨(Lib.decDigits n).toArray⟩ : ByteArray) := by
  intro n
  induction n using Nat.strongRecOn with
  | ind n ih =>
    intro hn
    rw [Lib.decDigits]
    split
    · next h =>
      refine Ev.step (fun k => by simp only [spec_l1Num.f]; rw [if_pos (by omega), digit_str n h]) (Ev.now _)
    · next h =>
      have e1 : wrap64 (Int.tdiv (n : Int) 10) = ((n / 10 : Nat) : Int) := by
        have h1 : Int.tdiv (n : Int) 10 = ((n / 10 : Nat) : Int) := by rw [Int.tdiv_eq_ediv_of_nonneg (by omega)]; omega
        rw [h1, w64 (by omega) (by omega)]
      have e2 : Int.tmod (n : Int) 10 = ((n % 10 : Nat) : Int) := by rw [Int.tmod_eq_emod_of_nonneg (by omega)]; omega
      have hl := decDigits_len (n / 10)
      refine Ev.step (f := fun k => (spec_l1Num.f k ((n / 10 : Nat) : Int)).bind fun t107 => (if t107.size + ((⟨([UInt8.ofNat (48 + n % 10)] : List UInt8).toArray⟩ : ByteArray)).size ≤ 9223372036854775807 then (some (t107 ++ (⟨([UInt8.ofNat (48 + n % 10)] : List UInt8).toArray⟩ : ByteArray))) else none)) (fun k => by simp only [spec_l1Num.f, Option.bind_some]; rw [if_neg (by omega), e1, e2, digit_str (n % 10) (by omega)]) ?_
      refine Ev.bind (ih (n / 10) (by omega) (by omega)) ?_
      refine Ev.congr (fun k => by rw [ba_size, ba_size, if_pos (by simp; omega), ba_append]) (Ev.now _)
theorem itoa_nat (n : Nat) : Lib.itoa (n : Int) = Lib.decDigits n := by
  unfold Lib.itoa
  rw [if_neg (by omega), Int.toNat_natCast]
/-- A number's text, as both tell it. -/
def txt (n : Int) : ByteArray := ⟨(Lib.itoa n).toArray⟩
theorem l1Num_txt (n : Int) (h0 : 0 ≤ n) (h1 : n ≤ 1000000000000000) : Ev (fun k => spec_l1Num.f k n) (txt n) := by
  obtain ⟨m, rfl⟩ := Int.eq_ofNat_of_zero_le h0
  unfold txt
  rw [itoa_nat]
  exact l1Num_ev m (by omega)
theorem txt_size (n : Int) (h0 : 0 ≤ n) : (txt n).size ≤ n.toNat + 1 := by
  obtain ⟨m, rfl⟩ := Int.eq_ofNat_of_zero_le h0
  unfold txt
  rw [itoa_nat, ba_size]
  exact decDigits_len m
theorem itoa_len (n : Int) (h0 : 0 ≤ n) : (Lib.itoa n).length ≤ n.toNat + 1 := by
  have := txt_size n h0
  unfold txt at this
  rwa [ba_size] at this
theorem itoa_ev (n : Int) (h0 : -9223372036854775808 ≤ n) (h1 : n ≤ 9223372036854775807) : strconv_Itoa.f n = some (txt n) := by
  unfold strconv_Itoa.f
  rw [if_pos ⟨h0, h1⟩]
  rfl
/-- A text cut at each byte c. -/
def cutL (c : UInt8) : List UInt8 → List (List UInt8)
  | [] => [[]]
  | x :: xs => if x = c then [] :: cutL c xs else (match cutL c xs with | [] => [[x]] | y :: ys => (x :: y) :: ys)
theorem cutL_ne (c : UInt8) : ∀ l, cutL c l ≠ [] := by
  intro l
  cases l with
  | nil => simp [cutL]
  | cons x xs =>
    unfold cutL
    split
    · simp
    · split <;> simp
theorem cutL_free (c : UInt8) : ∀ l, c ∉ l → cutL c l = [l] := by
  intro l
  induction l with
  | nil => intro _; rfl
  | cons x xs ih =>
    intro h
    rw [List.mem_cons, not_or] at h
    unfold cutL
    rw [if_neg (fun e => h.1 e.symm), ih h.2]
theorem cutL_app (c : UInt8) (b : List UInt8) : ∀ a, c ∉ a → cutL c (a ++ c :: b) = a :: cutL c b := by
  intro a
  induction a with
  | nil =>
    intro _
    show cutL c (c :: b) = _
    rw [cutL, if_pos rfl]
  | cons x xs ih =>
    intro h
    rw [List.mem_cons, not_or] at h
    show cutL c (x :: (xs ++ c :: b)) = _
    rw [cutL, if_neg (fun e => h.1 e.symm), ih h.2]
theorem cutL_join (c : UInt8) : ∀ l, Lib.join (cutL c l) [c] = l := by
  intro l
  induction l with
  | nil => rfl
  | cons x xs ih =>
    unfold cutL
    split
    · next h =>
      subst h
      cases e : cutL x xs with
      | nil => exact absurd e (cutL_ne x xs)
      | cons y ys =>
        rw [e, Lib.join_cons] at ih
        rw [Lib.join_cons]
        have : Lib.joinTail [x] (y :: ys) = [x] ++ y ++ Lib.joinTail [x] ys := by simp [Lib.joinTail]
        rw [this, ← ih]
        simp
    · cases e : cutL c xs with
      | nil => exact absurd e (cutL_ne c xs)
      | cons y ys =>
        rw [e, Lib.join_cons] at ih
        simp only [Lib.join_cons]
        rw [← ih]
        rfl
theorem join_cons2 (p q : List UInt8) (r : List (List UInt8)) (c : UInt8) : Lib.join (p :: q :: r) [c] = p ++ c :: Lib.join (q :: r) [c] := by
  rw [Lib.join_cons, Lib.join_cons]
  simp [Lib.joinTail]
theorem cutL_of_join (c : UInt8) : ∀ ps : List (List UInt8), ps ≠ [] → (∀ p, p ∈ ps → c ∉ p) → cutL c (Lib.join ps [c]) = ps := by
  intro ps
  induction ps with
  | nil => intro h; exact absurd rfl h
  | cons p r ih =>
    intro _ h
    have hp := h p List.mem_cons_self
    cases r with
    | nil => rw [Lib.join_one]; exact cutL_free c p hp
    | cons q r => rw [join_cons2, cutL_app c _ p hp, ih (by simp) (fun x hx => h x (List.mem_cons_of_mem _ hx))]
def mkB (l : List UInt8) : ByteArray := ⟨l.toArray⟩
theorem mkB_list (l : List UInt8) : (mkB l).data.toList = l := by simp [mkB]
theorem mkB_of (s : ByteArray) : mkB s.data.toList = s := by
  apply ByteArray.ext
  simp [mkB]
theorem mkB_size (l : List UInt8) : (mkB l).size = l.length := ba_size l
theorem size_list (s : ByteArray) : s.size = s.data.toList.length := by rw [Array.length_toList]; rfl
def cutB (c : UInt8) (s : ByteArray) : List ByteArray := (cutL c s.data.toList).map mkB
theorem ext_list {a b : ByteArray} (h : a.data.toList = b.data.toList) : a = b := by
  rw [← mkB_of a, ← mkB_of b, h]
theorem mkB_toList (l : List UInt8) : (mkB l).toList = l := by simp [mkB]
theorem toList_eq (x : ByteArray) : x.toList = x.data.toList := by
  have h := mkB_toList x.data.toList
  rwa [mkB_of] at h
theorem toList_inj (a b : ByteArray) (h : a.toList = b.toList) : a = b := by
  rw [toList_eq, toList_eq] at h
  exact ext_list h
theorem sep_size (c : UInt8) : (⟨#[c]⟩ : ByteArray).size = 1 := rfl
theorem splitB_cut (c : UInt8) : ∀ (n : Nat) (s : ByteArray), s.size ≤ n → Lib.splitB (⟨#[c]⟩ : ByteArray) 0 (Lib.countB s ⟨#[c]⟩) s = cutB c s := by
  intro n
  induction n with
  | zero =>
    intro s hs
    have hl : s.data.toList = [] := List.eq_nil_of_length_eq_zero (by rw [← size_list]; omega)
    have hi : Lib.indexB s (⟨#[c]⟩ : ByteArray) = -1 := by
      show Lib.index s.data.toList [c] = -1
      rw [hl]; rfl
    rw [Lib.countB_miss s _ hi, Lib.splitB_zero]
    unfold cutB
    rw [hl]
    show [s] = [mkB []]
    rw [← hl, mkB_of]
  | succ n ih =>
    intro s hs
    have hix : Lib.indexB s (⟨#[c]⟩ : ByteArray) = Lib.indexByte s.data.toList c := by
      show Lib.index s.data.toList [c] = _
      exact Lib.index_one _ _
    rcases Lib.indexB_cases s ⟨#[c]⟩ with hi | ⟨i, hi, hr⟩
    · rw [Lib.countB_miss s _ hi, Lib.splitB_zero]
      rw [hix] at hi
      have hn : c ∉ s.data.toList := fun hm => by
        obtain ⟨k, hk, e⟩ := List.getElem_of_mem hm
        exact Lib.indexByte_none hi k (by rw [List.getElem?_eq_getElem hk, e])
      unfold cutB
      rw [cutL_free c _ hn]
      show [s] = [mkB _]
      rw [mkB_of]
    · rw [Lib.countB_hit s _ i (by rw [sep_size]; omega) hi, Nat.add_comm 1, Lib.splitB_hit _ _ _ s i hi]
      rw [sep_size] at hr ⊢
      have e2 : (s.extract (i + 1) s.size).size = s.size - (i + 1) := by rw [ByteArray.size_extract]; omega
      rw [ih _ (by omega)]
      rw [hix] at hi
      obtain ⟨h1, h2⟩ := Lib.indexByte_some hi
      have hlt : i < s.data.toList.length := by rw [← size_list]; omega
      have hdec : s.data.toList = s.data.toList.take i ++ c :: s.data.toList.drop (i + 1) := by
        conv => lhs; rw [← List.take_append_drop i s.data.toList]
        rw [List.drop_eq_getElem_cons hlt]
        rw [List.getElem?_eq_getElem hlt] at h1
        injection h1 with h1
        rw [h1]
      have hfree : c ∉ s.data.toList.take i := fun hm => by
        obtain ⟨k, hk, e⟩ := List.getElem_of_mem hm
        rw [List.length_take] at hk
        rw [List.getElem_take] at e
        exact h2 k (by omega) (by rw [List.getElem?_eq_getElem (by omega), e])
      have hc : cutB c s = mkB (s.data.toList.take i) :: cutB c (s.extract (i + 1) s.size) := by
        unfold cutB
        rw [Lib.extract_to_end]
        conv => lhs; rw [hdec]
        rw [cutL_app c _ _ hfree, List.map_cons]
      rw [hc]
      congr 1
      apply ext_list
      rw [mkB_list, Lib.extract_from_zero, Nat.add_zero]
theorem split_eq (c : UInt8) (s : ByteArray) (hs : s.size < 4294967281) : strings_Split.f s (⟨#[c]⟩ : ByteArray) = some (cutB c s) := by
  unfold strings_Split.f
  rw [if_pos ⟨hs, by rw [sep_size]; omega⟩, splitB_cut c s.size s (Nat.le_refl _)]
theorem bt_list (s : ByteArray) (i : Int) (h0 : 0 ≤ i) (h1 : i < s.size) : ∃ h : i.toNat < s.data.toList.length, bt s i = ((s.data.toList[i.toNat]).toNat : Int) := by
  have h : i.toNat < s.size := by omega
  refine ⟨by rw [← size_list]; exact h, ?_⟩
  rw [← bt_at s i h]
  rfl
theorem ext_take (s : ByteArray) (a b : Nat) (h : a ≤ b) : (s.extract a b).data.toList = (s.data.toList.drop a).take (b - a) := by
  simp [List.take_drop]
theorem l1Split_l0_ev (c : UInt8) (s : ByteArray) (hs : s.size ≤ 1048576) : ∀ i : Int, 0 ≤ i → i ≤ s.size → ∀ (acc : List ByteArray) (f : Int), 0 ≤ f → f ≤ i → (acc.length : Int) ≤ f → c ∉ (s.data.toList.drop f.toNat).take (i.toNat - f.toNat) → Ev (fun k => spec_l1Split.l0 k s c.toNat acc f i) (acc ++ (cutL c (s.data.toList.drop f.toNat)).map mkB) := by
  refine downI (fun acc f f0 f1 ha hn => ?_) (fun i h0 h1 ih acc f f0 f1 ha hn => ?_)
  · have hd : (s.data.toList.drop f.toNat).take ((s.size : Int).toNat - f.toNat) = s.data.toList.drop f.toNat := by
      refine List.take_of_length_le ?_
      rw [List.length_drop, ← size_list]; omega
    rw [hd] at hn
    refine Ev.step (fun k => by simp only [spec_l1Split.l0]; rw [if_neg (by omega), if_pos f0, if_pos f1, if_pos (by omega)]) ?_
    rw [cutL_free c _ hn]
    have e : s.extract f.toNat s.size = mkB (s.data.toList.drop f.toNat) := ext_list (by rw [Lib.extract_to_end, mkB_list])
    rw [e]
    exact Ev.now _
  · obtain ⟨hlt, hb⟩ := bt_list s i h0 h1
    by_cases hc : s.data.toList[i.toNat] = c
    · have hbc : bt s i = (c.toNat : Int) := by rw [hb, hc]
      have hdec : s.data.toList.drop f.toNat = (s.data.toList.drop f.toNat).take (i.toNat - f.toNat) ++ c :: s.data.toList.drop (i + 1).toNat := by
        conv => lhs; rw [← List.take_append_drop (i.toNat - f.toNat) (s.data.toList.drop f.toNat)]
        rw [List.drop_drop, show f.toNat + (i.toNat - f.toNat) = i.toNat by omega, List.drop_eq_getElem_cons hlt, hc, show (i + 1).toNat = i.toNat + 1 by omega]
      have e : s.extract f.toNat i.toNat = mkB ((s.data.toList.drop f.toNat).take (i.toNat - f.toNat)) := ext_list (by rw [ext_take _ _ _ (by omega), mkB_list])
      refine Ev.step (fun k => by simp only [spec_l1Split.l0]; rw [if_pos h1, if_pos h0, if_pos hbc, if_pos f0, if_pos f1, if_pos (by omega), if_pos (by omega), w64 (x := i + 1) (by omega) (by omega), e]) ?_
      have h := ih (acc ++ [mkB ((s.data.toList.drop f.toNat).take (i.toNat - f.toNat))]) (i + 1) (by omega) (by omega) (by simp; omega) (by simp)
      have hg : (cutL c (s.data.toList.drop f.toNat)).map mkB = mkB ((s.data.toList.drop f.toNat).take (i.toNat - f.toNat)) :: (cutL c (s.data.toList.drop (i + 1).toNat)).map mkB := by
        conv => lhs; rw [hdec]
        rw [cutL_app c _ _ hn, List.map_cons]
      rw [hg]
      rw [List.append_assoc] at h
      exact h
    · have hbc : ¬ bt s i = (c.toNat : Int) := by
        rw [hb]
        intro e
        exact hc (UInt8.toNat_inj.1 (by omega))
      refine Ev.step (fun k => by simp only [spec_l1Split.l0]; rw [if_pos h1, if_pos h0, if_neg hbc, w64 (x := i + 1) (by omega) (by omega)]) (ih acc f f0 (by omega) ha ?_)
      rw [show (i + 1).toNat - f.toNat = (i.toNat - f.toNat) + 1 by omega, List.take_add_one, List.mem_append, not_or]
      refine ⟨hn, ?_⟩
      rw [List.getElem?_drop, show f.toNat + (i.toNat - f.toNat) = i.toNat by omega, List.getElem?_eq_getElem hlt]
      simp only [Option.toList_some, List.mem_singleton]
      exact fun e => hc e.symm
theorem l1Split_ev (c : UInt8) (s : ByteArray) (hs : s.size ≤ 1048576) (b : Int) (hb : b = (c.toNat : Int)) : Ev (fun k => spec_l1Split.f k s b) (cutB c s) := by
  subst hb
  unfold spec_l1Split.f
  have h := l1Split_l0_ev c s hs 0 (by omega) (by omega) [] 0 (by omega) (by omega) (by simp) (by simp)
  simpa [cutB] using h
theorem cutB_mem {c : UInt8} {s q : ByteArray} (h : q ∈ cutB c s) : q.size ≤ s.size := by
  have key : ∀ (l : List UInt8) (p : List UInt8), p ∈ cutL c l → p.length ≤ l.length := by
    intro l
    induction l with
    | nil => intro p hp; simp [cutL] at hp; simp [hp]
    | cons x xs ih =>
      intro p hp
      unfold cutL at hp
      split at hp
      · rcases List.mem_cons.1 hp with rfl | hp
        · simp
        · have := ih p hp; simp; omega
      · cases e : cutL c xs with
        | nil => rw [e] at hp; simp at hp; simp [hp]
        | cons y ys =>
          rw [e] at hp
          rcases List.mem_cons.1 hp with rfl | hp
          · have := ih y (by rw [e]; exact List.mem_cons_self); simp; omega
          · have := ih p (by rw [e]; exact List.mem_cons_of_mem _ hp); simp; omega
  obtain ⟨p, hp, rfl⟩ := List.mem_map.1 h
  rw [mkB_size, size_list]
  exact key _ p hp
def isDig (c : UInt8) : Bool := decide (48 ≤ c.toNat ∧ c.toNat ≤ 57)
def foldN (a : Nat) (l : List UInt8) : Nat := l.foldl (fun a c => a * 10 + (c.toNat - 48)) a
theorem foldN_cons (a : Nat) (c : UInt8) (l : List UInt8) : foldN a (c :: l) = foldN (a * 10 + (c.toNat - 48)) l := by
  unfold foldN
  rw [List.foldl_cons]
theorem foldN_snoc (a : Nat) (l : List UInt8) (c : UInt8) : foldN a (l ++ [c]) = foldN a l * 10 + (c.toNat - 48) := by
  unfold foldN
  rw [List.foldl_append]
  rfl
/-- At most six digits, none of them superfluous. -/
def canon (l : List UInt8) : Bool := decide (1 ≤ l.length ∧ l.length ≤ 6) && (decide (l.head? ≠ some 48 ∨ l.length = 1) && l.all isDig)
theorem digit_char (d : Nat) (h : d < 10) : isDig (UInt8.ofNat (48 + d)) = true ∧ (UInt8.ofNat (48 + d)).toNat - 48 = d := by
  have e : (UInt8.ofNat (48 + d)).toNat = 48 + d := by simp [UInt8.toNat_ofNat]; omega
  unfold isDig
  rw [e]
  exact ⟨decide_eq_true (by omega), by omega⟩
theorem dec_dig : ∀ n : Nat, (Lib.decDigits n).all isDig = true ∧ foldN 0 (Lib.decDigits n) = n := by
  intro n
  induction n using Nat.strongRecOn with
  | ind n ih =>
    rw [Lib.decDigits]
    split
    · next h =>
      obtain ⟨h1, h2⟩ := digit_char n h
      refine ⟨by rw [List.all_cons, h1]; rfl, ?_⟩
      simp only [foldN, List.foldl_cons, List.foldl_nil, h2]
      omega
    · next h =>
      obtain ⟨h1, h2⟩ := digit_char (n % 10) (by omega)
      obtain ⟨h3, h4⟩ := ih (n / 10) (by omega)
      refine ⟨by rw [List.all_append, h3, List.all_cons, h1]; rfl, ?_⟩
      rw [foldN_snoc, h4, h2]
      omega
theorem dec_ne (n : Nat) : Lib.decDigits n ≠ [] := by
  rw [Lib.decDigits]
  split <;> simp
theorem dec_head : ∀ n : Nat, 1 ≤ n → (Lib.decDigits n).head? ≠ some 48 := by
  intro n
  induction n using Nat.strongRecOn with
  | ind n ih =>
    intro hn
    rw [Lib.decDigits]
    split
    · next h =>
      intro e
      simp only [List.head?_cons, Option.some.injEq] at e
      have := (digit_char n h).2
      rw [e] at this
      simp at this
      omega
    · next h =>
      have := ih (n / 10) (by omega) (by omega)
      cases e : Lib.decDigits (n / 10) with
      | nil => exact absurd e (dec_ne _)
      | cons y ys =>
        rw [e] at this
        simpa using this
theorem dec_len : ∀ (k n : Nat), n < 10 ^ (k + 1) → (Lib.decDigits n).length ≤ k + 1 := by
  intro k
  induction k with
  | zero =>
    intro n h
    rw [Lib.decDigits, dif_pos (by simpa using h)]
    simp
  | succ k ih =>
    intro n h
    rw [Lib.decDigits]
    split
    · simp
    · have h2 : n / 10 < 10 ^ (k + 1) := by
        rw [Nat.pow_succ] at h
        omega
      have := ih (n / 10) h2
      simp
      omega
theorem canon_dec (n : Nat) (h : n ≤ 999999) : canon (Lib.decDigits n) = true := by
  unfold canon
  have hl := dec_len 5 n (by omega)
  have hn := dec_ne n
  have h1 : 1 ≤ (Lib.decDigits n).length := by
    cases e : Lib.decDigits n with
    | nil => exact absurd e hn
    | cons _ _ => simp
  rw [(dec_dig n).1, Bool.and_true, Bool.and_eq_true, decide_eq_true_iff, decide_eq_true_iff]
  refine ⟨⟨h1, by omega⟩, ?_⟩
  by_cases z : 1 ≤ n
  · exact .inl (dec_head n z)
  · right
    rw [Lib.decDigits, dif_pos (by omega)]
    rfl
/-- What the reference reads: -1 where it is no numeral of at most six digits. -/
def rdS (s : ByteArray) : Int := if canon s.data.toList = true then ((foldN 0 s.data.toList : Nat) : Int) else -1
theorem rdS_itoa (s : ByteArray) (v : Int) (h0 : 0 ≤ v) (h1 : v ≤ 999999) (h : s.data.toList = Lib.itoa v) : rdS s = v := by
  obtain ⟨n, rfl⟩ := Int.eq_ofNat_of_zero_le h0
  unfold rdS
  rw [h, itoa_nat, if_pos (canon_dec n (by omega)), (dec_dig n).2]
theorem l1Read_l0_ev (s : ByteArray) (hs : s.size ≤ 6) : ∀ i : Int, 0 ≤ i → i ≤ s.size → ∀ a : Nat, a < 10 ^ i.toNat → Ev (fun k => spec_l1Read.l0 k s a i) (if (s.data.toList.drop i.toNat).all isDig = true then ((foldN a (s.data.toList.drop i.toNat) : Nat) : Int) else -1) := by
  refine downI (fun a ha => ?_) (fun i h0 h1 ih a ha => ?_)
  · refine Ev.step (fun k => by simp only [spec_l1Read.l0]; rw [if_neg (by omega)]) ?_
    rw [List.drop_of_length_le (by rw [← size_list]; omega)]
    exact Ev.now _
  · obtain ⟨hlt, hb⟩ := bt_list s i h0 h1
    rw [List.drop_eq_getElem_cons hlt]
    have hpw : 10 ^ i.toNat ≤ 10 ^ 5 := Nat.pow_le_pow_right (by omega) (by omega)
    by_cases c : 48 ≤ (s.data.toList[i.toNat]).toNat ∧ (s.data.toList[i.toNat]).toNat ≤ 57
    · have e : wrap64 (wrap64 (10 * (a : Int)) + (bt s i - 48) % 256) = ((a * 10 + ((s.data.toList[i.toNat]).toNat - 48) : Nat) : Int) := by
        rw [w64 (x := 10 * (a : Int)) (by omega) (by omega), hb, show (((s.data.toList[i.toNat]).toNat : Int) - 48) % 256 = (((s.data.toList[i.toNat]).toNat - 48 : Nat) : Int) by omega, w64 (by omega) (by omega)]
        omega
      refine Ev.step (fun k => by simp only [spec_l1Read.l0]; rw [if_pos h1, if_pos h0, if_neg (by rw [hb]; omega), if_neg (by rw [hb]; omega), e, w64 (x := i + 1) (by omega) (by omega)]) ?_
      have h := ih (a * 10 + ((s.data.toList[i.toNat]).toNat - 48)) (by rw [show (i + 1).toNat = i.toNat + 1 by omega, Nat.pow_succ]; omega)
      rw [show (i + 1).toNat = i.toNat + 1 by omega] at h
      rw [List.all_cons, show isDig (s.data.toList[i.toNat]) = true from decide_eq_true c, Bool.true_and]
      exact h
    · rw [List.all_cons, show isDig (s.data.toList[i.toNat]) = false from decide_eq_false c, Bool.false_and, if_neg (by simp)]
      by_cases c1 : bt s i < 48
      · exact Ev.step (fun k => by simp only [spec_l1Read.l0]; rw [if_pos h1, if_pos h0, if_pos c1]) (Ev.now _)
      · exact Ev.step (fun k => by simp only [spec_l1Read.l0]; rw [if_pos h1, if_pos h0, if_neg c1, if_pos (by rw [hb] at c1 ⊢; omega)]) (Ev.now _)
theorem l1Read_ev (s : ByteArray) : Ev (fun k => spec_l1Read.f k s) (rdS s) := by
  unfold spec_l1Read.f
  simp only [in_eq, Option.bind_some]
  by_cases h : 1 ≤ (s.size : Int) ∧ (s.size : Int) ≤ 6
  · simp only [h, and_self, decide_true, if_true]
    have hsl := size_list s
    obtain ⟨hlt, hb⟩ := bt_list s 0 (by omega) (by omega)
    have hhd : s.data.toList.head? = some (s.data.toList[(0 : Int).toNat]) := by
      rw [List.head?_eq_getElem?]
      exact List.getElem?_eq_getElem hlt
    have h0 := l1Read_l0_ev s (by omega) 0 (by omega) (by omega) 0 (by simp)
    simp only [Int.toNat_zero, List.drop_zero] at h0
    refine Ev.congr (fun k => by rw [if_pos (by omega)]) ?_
    by_cases z : bt s 0 = 48 ∧ (s.size : Int) > 1
    · refine Ev.congr (fun k => by rw [if_pos z.1]) ?_
      refine Ev.step (fun k => by simp only [spec_l1Read.j0]; rw [if_pos (decide_eq_true z.2)]) ?_
      have e : rdS s = -1 := by
        unfold rdS
        refine if_neg (fun hc => ?_)
        unfold canon at hc
        rw [Bool.and_eq_true, Bool.and_eq_true, decide_eq_true_iff, decide_eq_true_iff] at hc
        rcases hc.2.1 with h2 | h2
        · refine h2 ?_
          rw [hhd]
          congr 1
          have := z.1
          rw [hb] at this
          exact UInt8.toNat_inj.1 (by simpa using (by omega : (s.data.toList[(0 : Int).toNat]).toNat = 48))
        · omega
      rw [e]
      exact Ev.now _
    · have key : Ev (fun k => spec_l1Read.j0 k s false) (rdS s) := by
        refine Ev.step (fun k => by simp only [spec_l1Read.j0]; rw [if_neg (by simp)]) ?_
        have e : rdS s = (if s.data.toList.all isDig = true then ((foldN 0 s.data.toList : Nat) : Int) else -1) := by
          unfold rdS canon
          rw [decide_eq_true (by omega : 1 ≤ s.data.toList.length ∧ s.data.toList.length ≤ 6), Bool.true_and, decide_eq_true (show s.data.toList.head? ≠ some 48 ∨ s.data.toList.length = 1 from ?_), Bool.true_and]
          by_cases h1 : s.data.toList.length = 1
          · exact .inr h1
          · left
            rw [hhd]
            intro e
            injection e with e
            exact z ⟨by rw [hb, e]; rfl, by omega⟩
        rw [e]
        exact h0
      by_cases z1 : bt s 0 = 48
      · refine Ev.congr (fun k => by rw [if_pos z1, decide_eq_false (fun h2 => z ⟨z1, h2⟩)]) key
      · exact Ev.congr (fun k => by rw [if_neg z1]) key
  · simp only [h, decide_false, Bool.false_eq_true, if_false]
    have e : rdS s = -1 := by
      unfold rdS
      refine if_neg (fun hc => ?_)
      unfold canon at hc
      rw [Bool.and_eq_true, decide_eq_true_iff] at hc
      have := size_list s
      omega
    rw [e]
    exact Ev.step (fun k => by simp only [spec_l1Read.j0, if_true]) (Ev.now _)
/-! what the program reads -/
theorem parse10 : ∀ (l : List UInt8), l.all isDig = true → ∀ a : Nat, (a + 1) * 10 ^ l.length ≤ 1000000000000000000 → Lib.parseUint10 a l = .ok (foldN a l) := by
  intro l
  induction l with
  | nil => intro _ a _; rfl
  | cons c l ih =>
    intro h a ha
    rw [List.all_cons, Bool.and_eq_true] at h
    have hc : 48 ≤ c.toNat ∧ c.toNat ≤ 57 := by simpa [isDig] using h.1
    rw [List.length_cons, Nat.pow_succ] at ha
    have hp : 1 ≤ 10 ^ l.length := Nat.one_le_iff_ne_zero.2 (by simp)
    have h2 : (a * 10 + (c.toNat - 48) + 1) * 10 ^ l.length ≤ ((a + 1) * 10) * 10 ^ l.length := Nat.mul_le_mul_right _ (by omega)
    have h3 : ((a + 1) * 10) * 10 ^ l.length = (a + 1) * (10 ^ l.length * 10) := by rw [Nat.mul_assoc, Nat.mul_comm 10]
    have h4 : (a * 10 + (c.toNat - 48) + 1) * 1 ≤ (a * 10 + (c.toNat - 48) + 1) * 10 ^ l.length := Nat.mul_le_mul_left _ hp
    unfold Lib.parseUint10
    rw [if_pos hc, if_neg (by omega), if_neg (by omega), ih h.2 _ (by omega), foldN_cons]
theorem atoi_dec (n : Nat) (h : n ≤ 999999) : Lib.atoiAll (Lib.decDigits n) = .ok (n : Int) := by
  have hd := dec_dig n
  have hl := dec_len 5 n (by omega)
  have hp : 10 ^ (Lib.decDigits n).length ≤ 10 ^ 6 := Nat.pow_le_pow_right (by omega) hl
  have h10 := parse10 _ hd.1 0 (by omega)
  rw [hd.2] at h10
  cases e : Lib.decDigits n with
  | nil => exact absurd e (dec_ne n)
  | cons c r =>
    have hc : 48 ≤ c.toNat ∧ c.toNat ≤ 57 := by
      have := hd.1
      rw [e, List.all_cons, Bool.and_eq_true] at this
      simpa [isDig] using this.1
    rw [e] at h10
    unfold Lib.atoiAll
    simp only
    rw [if_neg (by omega)]
    unfold Lib.parseMag
    rw [if_neg (by simp), h10]
    simp only
    rw [if_neg (by omega), if_neg (by omega), if_neg (by omega)]
theorem rdNum_ok {s : ByteArray} {v : Int} (h : XText.rdNum s = (v, true)) : s.data.toList = Lib.itoa v := by
  unfold XText.rdNum at h
  split at h
  · next u _ =>
    split at h
    · next he =>
      injection h with h1 _
      subst h1
      have := toList_inj _ _ he
      rw [← this]
    · simp at h
  · simp at h
theorem rdNum_itoa (s : ByteArray) (v : Int) (h0 : 0 ≤ v) (h1 : v ≤ 999999) (h : s.data.toList = Lib.itoa v) : XText.rdNum s = (v, true) := by
  obtain ⟨n, rfl⟩ := Int.eq_ofNat_of_zero_le h0
  have ha : Lib.atoiAll s.data.toList = .ok (n : Int) := by rw [h, itoa_nat]; exact atoi_dec n (by omega)
  unfold XText.rdNum
  rw [ha]
  simp only
  rw [if_pos]
  rw [toList_eq, toList_eq, h]
theorem itoa_free (v : Int) (h0 : 0 ≤ v) (c : UInt8) (hc : isDig c = false) : c ∉ Lib.itoa v := by
  obtain ⟨n, rfl⟩ := Int.eq_ofNat_of_zero_le h0
  rw [itoa_nat]
  intro hm
  have := List.all_eq_true.1 (dec_dig n).1 c hm
  rw [hc] at this
  cases this
theorem cutL_len (c : UInt8) : ∀ l, (cutL c l).length ≤ l.length + 1 := by
  intro l
  induction l with
  | nil => simp [cutL]
  | cons x xs ih =>
    unfold cutL
    split
    · simp; omega
    · cases e : cutL c xs with
      | nil => simp
      | cons y ys => rw [e] at ih; simp at ih ⊢; omega
theorem cutB_len (c : UInt8) (s : ByteArray) : (cutB c s).length ≤ s.size + 1 := by
  unfold cutB
  rw [List.length_map, size_list]
  exact cutL_len c _
theorem cutB_lists (c : UInt8) (s : ByteArray) : (cutB c s).map (fun (x : ByteArray) => x.data.toList) = cutL c s.data.toList := by
  unfold cutB
  rw [List.map_map]
  have : (fun (x : ByteArray) => x.data.toList) ∘ mkB = id := by funext l; exact mkB_list l
  rw [this, List.map_id]
/-- The text is its parts with the byte between them. -/
theorem cutB_join (c : UInt8) (s : ByteArray) : s.data.toList = Lib.join ((cutB c s).map (fun (x : ByteArray) => x.data.toList)) [c] := by
  rw [cutB_lists, cutL_join]
theorem cutB_of (c : UInt8) (s : ByteArray) (ps : List (List UInt8)) (hne : ps ≠ []) (hf : ∀ p, p ∈ ps → c ∉ p) (h : s.data.toList = Lib.join ps [c]) : cutB c s = ps.map mkB := by
  unfold cutB
  rw [h, cutL_of_join c ps hne hf]
def rdAll : List ByteArray → Option (List Int)
  | [] => some []
  | q :: qs => if (XText.rdNum q).2 = true then (rdAll qs).map (fun l => (XText.rdNum q).1 :: l) else none
theorem rdAll_some : ∀ (qs : List ByteArray) (l : List Int), rdAll qs = some l → qs.map (fun (x : ByteArray) => x.data.toList) = l.map Lib.itoa := by
  intro qs
  induction qs with
  | nil => intro l h; simp only [rdAll, Option.some.injEq] at h; subst h; rfl
  | cons q qs ih =>
    intro l h
    unfold rdAll at h
    split at h
    · next hq =>
      obtain ⟨m, hm, rfl⟩ := Option.map_eq_some_iff.1 h
      rw [List.map_cons, List.map_cons, ih m hm]
      congr 1
      exact rdNum_ok (v := (XText.rdNum q).1) (Prod.ext rfl hq)
    · cases h
theorem rdAll_of : ∀ (qs : List ByteArray) (l : List Int), qs.map (fun (x : ByteArray) => x.data.toList) = l.map Lib.itoa → (∀ v, v ∈ l → 0 ≤ v ∧ v ≤ 999999) → rdAll qs = some l := by
  intro qs
  induction qs with
  | nil =>
    intro l h _
    cases l with
    | nil => rfl
    | cons v l => simp at h
  | cons q qs ih =>
    intro l h hb
    cases l with
    | nil => simp at h
    | cons v l =>
      rw [List.map_cons, List.map_cons, List.cons.injEq] at h
      have hv := hb v List.mem_cons_self
      have hr := rdNum_itoa q v hv.1 hv.2 h.1
      unfold rdAll
      rw [hr, if_pos rfl, ih l h.2 (fun x hx => hb x (List.mem_cons_of_mem _ hx))]
      rfl
theorem rdOf_mem (qs : List ByteArray) (i : Int) (h0 : 0 ≤ i) (h1 : i < qs.length) : rdOf ByteArray.empty qs i ∈ qs := get_mem qs ByteArray.empty i h0 h1
def numsR (acc : List Int) : Option (List Int) → List Int × Bool
  | some l => (acc ++ l, true)
  | none => ([], false)
theorem readNums_l0_ev (qs : List ByteArray) (hl : qs.length ≤ 16777217) (hs : ∀ q, q ∈ qs → q.size ≤ 16777216) : ∀ i : Int, 0 ≤ i → i ≤ qs.length → ∀ acc : List Int, (acc.length : Int) ≤ i → Ev (fun k => impl_readNumbers.l0 k acc qs qs.length i) (numsR acc (rdAll (qs.drop i.toNat))) := by
  refine downI (fun acc ha => ?_) (fun i h0 h1 ih acc ha => ?_)
  · refine Ev.step (fun k => by simp only [impl_readNumbers.l0]; rw [if_neg (by omega)]) ?_
    rw [List.drop_of_length_le (by omega)]
    simp only [rdAll, numsR, List.append_nil]
    exact Ev.now _
  · have hq := hs _ (rdOf_mem qs i h0 h1)
    rw [drop_get qs ByteArray.empty i h0 h1]
    change Ev _ (numsR acc (rdAll (rdOf ByteArray.empty qs i :: qs.drop (i + 1).toNat)))
    unfold rdAll
    have st : ∀ k, impl_readNumbers.l0 (k + 1) acc qs qs.length i = if (XText.rdNum (rdOf ByteArray.empty qs i)).2 = true then impl_readNumbers.l0 k (acc ++ [(XText.rdNum (rdOf ByteArray.empty qs i)).1]) qs qs.length (i + 1) else some ([], false) := by
      intro k
      simp only [impl_readNumbers.l0, impl_readNumber.f]
      rw [if_pos h1, if_pos h0, if_pos h1, if_pos (show (rdOf ByteArray.empty qs i).size ≤ 281474976710656 by omega), Option.bind_some]
      simp only
      rw [if_pos (show acc.length < 17592186044416 by omega), w64 (x := i + 1) (by omega) (by omega)]
    by_cases c : (XText.rdNum (rdOf ByteArray.empty qs i)).2 = true
    · refine Ev.step (fun k => by rw [st, if_pos c]) ?_
      rw [if_pos c]
      have h := ih (acc ++ [(XText.rdNum (rdOf ByteArray.empty qs i)).1]) (by simp; omega)
      cases e : rdAll (qs.drop (i + 1).toNat) with
      | none => rw [e] at h; exact h
      | some l =>
        rw [e] at h
        simp only [numsR, List.append_assoc, List.singleton_append] at h
        exact h
    · rw [if_neg c]
      exact Ev.step (fun k => by rw [st, if_neg c]; rfl) (Ev.now _)
theorem readNums_ev (c : UInt8) (s : ByteArray) (hs : s.size ≤ 16777216) : Ev (fun k => impl_readNumbers.f k s (⟨#[c]⟩ : ByteArray)) (numsR [] (rdAll (cutB c s))) := by
  unfold impl_readNumbers.f
  rw [split_eq c s (by omega)]
  simp only [Option.bind_some]
  have hl := cutB_len c s
  exact readNums_l0_ev (cutB c s) (by omega) (fun q hq => by have := cutB_mem hq; omega) 0 (by omega) (by omega) [] (by simp)
theorem joinNums_l0_ev (s : ByteArray) (l : List Int) (hl : l.length ≤ 1048576) (hr : ∀ x, x ∈ l → 0 ≤ x ∧ x ≤ 1000000000) (hj : (Lib.join (l.map Lib.itoa) s.data.toList).length ≤ 140737488355328) : ∀ i : Int, 0 ≤ i → i ≤ l.length → ∀ acc : List ByteArray, acc.length = l.length → acc.take i.toNat = (l.map txt).take i.toNat → Ev (fun k => impl_joinNumbers.l0 k s acc l l.length i) (⟨(Lib.join (l.map Lib.itoa) s.data.toList).toArray⟩ : ByteArray) := by
  refine downI (fun acc ha ht => ?_) (fun i h0 h1 ih acc ha ht => ?_)
  · have e : acc = l.map txt := by
      rw [List.take_of_length_le (by omega), List.take_of_length_le (by simp)] at ht
      exact ht
    have e2 : (l.map txt).map (fun (x : ByteArray) => x.data.toList) = l.map Lib.itoa := by
      rw [List.map_map]
      rfl
    refine Ev.step (fun k => by simp only [impl_joinNumbers.l0]; rw [if_neg (by omega), strings_Join.f, e, e2, if_pos ⟨by simp; omega, hj⟩]; rfl) (Ev.now _)
  · have hx := hr _ (get_mem l 0 i h0 h1)
    change 0 ≤ rd l i ∧ rd l i ≤ 1000000000 at hx
    refine Ev.step (fun k => by simp only [impl_joinNumbers.l0]; rw [if_pos h1, if_pos h0, if_pos h1, itoa_ev _ (by omega) (by omega), Option.bind_some, if_pos (by omega), w64 (x := i + 1) (by omega) (by omega)]) (ih (acc.set i.toNat (txt (rd l i))) (by simpa using ha) ?_)
    have hg : (l.map txt)[i.toNat]? = some (txt (rd l i)) := by
      rw [List.getElem?_map, List.getElem?_eq_getElem (show i.toNat < l.length by omega)]
      unfold rd
      rw [List.getD_eq_getElem?_getD, List.getElem?_eq_getElem (show i.toNat < l.length by omega)]
      rfl
    rw [show (i + 1).toNat = i.toNat + 1 by omega, List.take_succ_eq_append_getElem (by rw [List.length_set]; omega), List.getElem_set_self, List.take_set_of_le (Nat.le_refl _), ht, List.take_add_one, hg]
    rfl
theorem joinNums_ev (s : ByteArray) (l : List Int) (hl : l.length ≤ 1048576) (hr : ∀ x, x ∈ l → 0 ≤ x ∧ x ≤ 1000000000) (hj : (Lib.join (l.map Lib.itoa) s.data.toList).length ≤ 140737488355328) : Ev (fun k => impl_joinNumbers.f k l s) (⟨(Lib.join (l.map Lib.itoa) s.data.toList).toArray⟩ : ByteArray) := by
  unfold impl_joinNumbers.f
  refine Ev.congr (fun k => by rw [if_pos (by omega), if_pos (by omega)]) ?_
  exact joinNums_l0_ev s l hl hr hj 0 (by omega) (by omega) _ (by simp) (by simp)
/-- Two numbers with a text between them. -/
def txt2 (s : List UInt8) (a b : Int) : List UInt8 := Lib.itoa a ++ (s ++ Lib.itoa b)
theorem joinNums2_ev (s : ByteArray) (hs : s.size ≤ 1000) (a b : Int) (ha : 0 ≤ a ∧ a ≤ 1000000000) (hb : 0 ≤ b ∧ b ≤ 1000000000) : Ev (fun k => impl_joinNumbers.f k [a, b] s) (⟨(txt2 s.data.toList a b).toArray⟩ : ByteArray) := by
  have e : Lib.join ([a, b].map Lib.itoa) s.data.toList = txt2 s.data.toList a b := by
    unfold txt2
    rw [List.map_cons, List.map_cons, List.map_nil, Lib.join_cons]
    simp [Lib.joinTail]
  have la := itoa_len a ha.1
  have lb := itoa_len b hb.1
  have ls : s.data.toList.length = s.size := Array.length_toList
  have h := joinNums_ev s [a, b] (by simp) (fun x hx => by
    rcases List.mem_cons.1 hx with rfl | hx
    · exact ha
    · rw [List.mem_singleton.1 hx]; exact hb) (by rw [e]; unfold txt2; simp only [List.length_append]; omega)
  rw [e] at h
  exact h
def okT (a b : Int) : Bool := decide (1 ≤ a ∧ a ≤ 1000) && decide (1 ≤ b ∧ b ≤ 100)
theorem okT_iff {a b : Int} : okT a b = true ↔ (1 ≤ a ∧ a ≤ 1000) ∧ (1 ≤ b ∧ b ≤ 100) := by
  unfold okT
  rw [Bool.and_eq_true, decide_eq_true_iff, decide_eq_true_iff]
theorem tiGood_eq (a b : Int) : spec_tiGood.f a b = some (okT a b) := by
  unfold spec_tiGood.f okT
  simp only [in_eq, Option.bind_some]
  by_cases h : decide (1 ≤ a ∧ a ≤ 1000) = true
  · simp [h]
  · simp [h]
theorem isTrain_eq (a b : Int) : impl_IsTrain.f a b = some (okT a b) := by
  unfold impl_IsTrain.f impl_isRate.f okT
  simp only [within_eq, Option.bind_some]
  by_cases h : decide (1 ≤ a ∧ a ≤ 1000) = true
  · simp [h]
  · simp [h]
/-- A train's text. -/
def trT (a b : Int) : List UInt8 := Lib.join [Lib.itoa a, Lib.itoa b] [47]
theorem trT_eq (a b : Int) : trT a b = Lib.itoa a ++ ([47] ++ Lib.itoa b) := by
  unfold trT
  rw [Lib.join_cons]
  simp [Lib.joinTail]
theorem tiText_ev (a b : Int) (h : okT a b = true) : Ev (fun k => spec_tiText.f k a b) (mkB (trT a b)) := by
  have h := okT_iff.1 h
  have la := txt_size a (by omega)
  have lb := txt_size b (by omega)
  unfold spec_tiText.f
  refine Ev.bind (l1Num_txt a (by omega) (by omega)) ?_
  refine Ev.congr (fun k => by rw [if_pos (by omega)]) ?_
  refine Ev.bind (l1Num_txt b (by omega) (by omega)) ?_
  have e : (txt a ++ (⟨#[47]⟩ : ByteArray)) ++ txt b = mkB (trT a b) := by
    rw [trT_eq]
    unfold txt mkB
    rw [show (⟨#[47]⟩ : ByteArray) = ⟨([47] : List UInt8).toArray⟩ from rfl, ba_append, ba_append, List.append_assoc]
  refine Ev.congr (fun k => by rw [if_pos (by rw [ByteArray.size_append]; have : (⟨#[47]⟩ : ByteArray).size = 1 := rfl; omega), e]) (Ev.now _)
theorem dec_len' (k : Nat) (v : Int) (h0 : 0 ≤ v) (h : v < 10 ^ (k + 1)) : (Lib.itoa v).length ≤ k + 1 := by
  obtain ⟨n, rfl⟩ := Int.eq_ofNat_of_zero_le h0
  rw [itoa_nat]
  exact dec_len k n (by exact_mod_cast h)
theorem two_getI (l : List Int) (h : l.length = 2) : l = [rd l 0, rd l 1] := by
  match l, h with
  | [a, b], _ => rfl
def TrText (s : ByteArray) (a b : Int) : Prop := okT a b = true ∧ s.data.toList = trT a b
theorem trParts {s : ByteArray} {a b : Int} (h : TrText s a b) : cutB 47 s = [mkB (Lib.itoa a), mkB (Lib.itoa b)] := by
  obtain ⟨h1, h2⟩ := h
  have h1 := okT_iff.1 h1
  have := cutB_of 47 s [Lib.itoa a, Lib.itoa b] (by simp) (fun p hp => by
    rcases List.mem_cons.1 hp with rfl | hp
    · exact itoa_free a (by omega) 47 (by decide)
    · rw [List.mem_singleton.1 hp]; exact itoa_free b (by omega) 47 (by decide)) h2
  simpa using this
theorem parseTrain_text {s : ByteArray} {a b : Int} (hs : s.size ≤ 1048576) (H : TrText s a b) : Ev (fun k => spec_ParseTrain.f k s) (a, b, true) ∧ Ev (fun k => impl_ParseTrain.f k s) (a, b, true) := by
  have hsp := l1Split_ev 47 s hs 47 rfl
  have hrn := readNums_ev 47 s (by omega)
  have hp := trParts H
  obtain ⟨h1, h2⟩ := H
  have hb := okT_iff.1 h1
  have s8 : s.size ≤ 8 := by
    rw [size_list, h2, trT_eq]
    have := dec_len' 3 a (by omega) (by omega)
    have := dec_len' 2 b (by omega) (by omega)
    simp only [List.length_append, List.length_cons, List.length_nil]
    omega
  have ra : rdS (rdOf ByteArray.empty (cutB 47 s) 0) = a := by rw [hp]; exact rdS_itoa _ a (by omega) (by omega) (mkB_list _)
  have rb : rdS (rdOf ByteArray.empty (cutB 47 s) 1) = b := by rw [hp]; exact rdS_itoa _ b (by omega) (by omega) (mkB_list _)
  have hl : (cutB 47 s).length = 2 := by rw [hp]; rfl
  refine ⟨?_, ?_⟩
  · unfold spec_ParseTrain.f
    refine Ev.bind hsp ?_
    refine Ev.congr (fun k => by rw [if_neg (by omega)]) ?_
    refine Ev.step (fun k => by simp only [spec_ParseTrain.j0]; rw [if_neg (by simp [hl]), if_pos (by omega)]) ?_
    refine Ev.bind (l1Read_ev _) ?_
    rw [ra]
    refine Ev.congr (fun k => by rw [if_pos (by omega)]) ?_
    refine Ev.bind (l1Read_ev _) ?_
    rw [rb]
    simp only [tiGood_eq, h1, Option.bind_some, if_true]
    refine Ev.bind (tiText_ev a b h1) ?_
    refine Ev.congr (fun k => by rw [if_pos (by rw [mkB_toList, toList_eq, h2])]) (Ev.now _)
  · unfold impl_ParseTrain.f
    have hr : rdAll (cutB 47 s) = some [a, b] := rdAll_of _ _ (by rw [hp]; simp [mkB_list]) (fun v hv => by
      rcases List.mem_cons.1 hv with rfl | hv
      · omega
      · rw [List.mem_singleton.1 hv]; omega)
    rw [hr] at hrn
    refine Ev.bind (show Ev _ ([a, b], true) from hrn) ?_
    dsimp only
    refine Ev.congr (fun k => by rw [if_pos rfl, if_pos (show (([a, b] : List Int).length : Int) = 2 by simp), if_pos (show (0 : Int) < (([a, b] : List Int).length : Int) by simp), if_pos (show (1 : Int) < (([a, b] : List Int).length : Int) by simp)]) ?_
    rw [show rd [a, b] 0 = a from rfl, show rd [a, b] 1 = b from rfl]
    simp only [isTrain_eq, h1, Option.bind_some, if_true]
    exact Ev.now _
theorem parseTrain_none {s : ByteArray} (hs : s.size ≤ 1048576) (H : ¬ ∃ a b, TrText s a b) : Ev (fun k => spec_ParseTrain.f k s) (0, 0, false) ∧ Ev (fun k => impl_ParseTrain.f k s) (0, 0, false) := by
  have hsp := l1Split_ev 47 s hs 47 rfl
  have hrn := readNums_ev 47 s (by omega)
  refine ⟨?_, ?_⟩
  · unfold spec_ParseTrain.f
    refine Ev.bind hsp ?_
    by_cases c8 : (s.size : Int) > 8
    · refine Ev.congr (fun k => by rw [if_pos c8]) ?_
      exact Ev.step (fun k => by simp only [spec_ParseTrain.j0, if_true]) (Ev.now _)
    · refine Ev.congr (fun k => by rw [if_neg c8]) ?_
      by_cases hl : (cutB 47 s).length = 2
      · refine Ev.step (fun k => by simp only [spec_ParseTrain.j0]; rw [if_neg (by simp [hl]), if_pos (by omega)]) ?_
        refine Ev.bind (l1Read_ev _) ?_
        refine Ev.congr (fun k => by rw [if_pos (by omega)]) ?_
        refine Ev.bind (l1Read_ev _) ?_
        simp only [tiGood_eq, Option.bind_some]
        by_cases h1 : okT (rdS (rdOf ByteArray.empty (cutB 47 s) 0)) (rdS (rdOf ByteArray.empty (cutB 47 s) 1)) = true
        · simp only [h1, if_true]
          refine Ev.bind (tiText_ev _ _ h1) ?_
          refine Ev.congr (fun k => by rw [if_neg (fun he => H ⟨_, _, h1, by rw [mkB_toList, toList_eq] at he; exact he.symm⟩)]) (Ev.now _)
        · simp only [h1, Bool.false_eq_true, if_false]
          exact Ev.now _
      · exact Ev.step (fun k => by simp only [spec_ParseTrain.j0]; rw [if_pos (by simp; omega)]) (Ev.now _)
  · unfold impl_ParseTrain.f
    cases hr : rdAll (cutB 47 s) with
    | none =>
      rw [hr] at hrn
      refine Ev.bind (show Ev _ (([] : List Int), false) from hrn) ?_
      dsimp only
      exact Ev.congr (fun k => by rw [if_neg (by simp)]) (Ev.now _)
    | some l =>
      rw [hr] at hrn
      refine Ev.bind (show Ev _ (l, true) from hrn) ?_
      dsimp only
      refine Ev.congr (fun k => by rw [if_pos rfl]) ?_
      by_cases hl : (l.length : Int) = 2
      · refine Ev.congr (fun k => by rw [if_pos hl, if_pos (by omega), if_pos (by omega)]) ?_
        simp only [isTrain_eq, Option.bind_some]
        by_cases h1 : okT (rd l 0) (rd l 1) = true
        · exfalso
          refine H ⟨_, _, h1, ?_⟩
          have h2 := rdAll_some _ _ hr
          rw [two_getI l (by omega)] at h2
          rw [cutB_join 47 s, h2]
          rfl
        · simp only [h1, Bool.false_eq_true, if_false]
          exact Ev.now _
      · exact Ev.congr (fun k => by rw [if_neg hl]) (Ev.now _)
theorem parseTrain_both (s : ByteArray) (hs : s.size ≤ 1048576) : ∃ P : Int × Int × Bool, Ev (fun k => spec_ParseTrain.f k s) P ∧ Ev (fun k => impl_ParseTrain.f k s) P ∧ ((∃ a b, TrText s a b ∧ P = (a, b, true)) ∨ P = (0, 0, false)) := by
  by_cases H : ∃ a b, TrText s a b
  · obtain ⟨a, b, H⟩ := H
    exact ⟨_, (parseTrain_text hs H).1, (parseTrain_text hs H).2, .inl ⟨a, b, H, rfl⟩⟩
  · exact ⟨_, (parseTrain_none hs H).1, (parseTrain_none hs H).2, .inr rfl⟩
theorem trT_txt2 (a b : Int) : mkB (trT a b) = ⟨(txt2 [47] a b).toArray⟩ := by
  rw [trT_eq]
  rfl
theorem implTrainText_ev (a b : Int) : Ev (fun k => impl_TrainText.f k a b) (if okT a b = true then (mkB (trT a b), true) else ((⟨#[]⟩ : ByteArray), false)) := by
  unfold impl_TrainText.f
  simp only [isTrain_eq, Option.bind_some]
  by_cases h : okT a b = true
  · simp only [h, if_true]
    have hb := okT_iff.1 h
    rw [trT_txt2]
    exact Ev.bind (joinNums2_ev (⟨#[47]⟩ : ByteArray) (by decide) a b (by omega) (by omega)) (Ev.now _)
  · simp only [if_neg h]
    exact Ev.now _
theorem specTrainText_ev (a b : Int) : Ev (fun k => spec_TrainText.f k a b) (if okT a b = true then (mkB (trT a b), true) else ((⟨#[]⟩ : ByteArray), false)) := by
  unfold spec_TrainText.f
  simp only [tiGood_eq, Option.bind_some]
  by_cases h : okT a b = true
  · simp only [h, if_true]
    exact Ev.bind (tiText_ev a b h) (Ev.now _)
  · simp only [if_neg h]
    exact Ev.now _
theorem trT_len {a b : Int} (h : okT a b = true) : (trT a b).length ≤ 8 := by
  have h := okT_iff.1 h
  rw [trT_eq]
  have := dec_len' 3 a (by omega) (by omega)
  have := dec_len' 2 b (by omega) (by omega)
  simp only [List.length_append, List.length_cons, List.length_nil]
  omega
theorem divisorOf_ev : ∀ (n : Nat) (a b : Int), 0 ≤ a → 0 ≤ b → b.toNat ≤ n → Ev (fun k => impl_divisorOf.l0 k a b) (gg a b) := by
  intro n
  induction n with
  | zero =>
    intro a b ha hb hn
    obtain rfl : b = 0 := by omega
    refine Ev.step (fun k => by simp only [impl_divisorOf.l0]; rw [if_neg (by omega)]) ?_
    rw [gg_zero ha]; exact Ev.now a
  | succ n ih =>
    intro a b ha hb hn
    by_cases h : 0 < b
    · obtain ⟨g1, g2, g3⟩ := gg_step ha h
      refine Ev.step (fun k => by simp only [impl_divisorOf.l0]; rw [if_pos h, if_neg (by omega)]) ?_
      rw [← g1]; exact ih b (a.tmod b) hb g2 (by omega)
    · obtain rfl : b = 0 := by omega
      refine Ev.step (fun k => by simp only [impl_divisorOf.l0]; rw [if_neg (by omega)]) ?_
      rw [gg_zero ha]; exact Ev.now a
theorem absOf_eq {a : Int} (h1 : -4611686018427387904 ≤ a) (h2 : a ≤ 4611686018427387904) : impl_absOf.f a = some (if a < -a then -a else a) := by
  unfold impl_absOf.f mx
  have e : wrap64 (-a) = -a := by unfold wrap64; omega
  rw [e]
theorem tdiv_lo1 {n d : Int} (hd : 0 < d) (h1 : -4611686018427387904 ≤ n) (h2 : n ≤ 4611686018427387904) : wrap64 (Int.tdiv n (gg n d)) = (lo n d).1 := by
  rw [Int.tdiv_eq_ediv_of_dvd (gg_l n d)]
  have := lo_bd1 hd h1 h2
  show wrap64 (lo n d).1 = _
  unfold wrap64; omega
theorem tdiv_lo2 {n d : Int} (hd : 0 < d) (h2 : d ≤ 4611686018427387904) : wrap64 (Int.tdiv d (gg n d)) = (lo n d).2 := by
  rw [Int.tdiv_eq_ediv_of_dvd (gg_r n d)]
  have := lo_le2 n hd
  have := lo_pos n hd
  show wrap64 (lo n d).2 = _
  unfold wrap64; omega
theorem lowest_ev {n d : Int} (hd : 0 < d) (h1 : -4611686018427387904 ≤ n) (h2 : n ≤ 4611686018427387904) (h3 : d ≤ 4611686018427387904) : Ev (fun k => impl_lowest.f k n d) (lo n d) := by
  refine Ev.congr (fun k => by unfold impl_lowest.f impl_divisorOf.f; rw [if_neg (by omega), absOf_eq h1 h2, Option.bind_some]) ?_
  have hg := gg_pos (n := n) hd
  refine Ev.bind (divisorOf_ev _ d _ (Int.le_of_lt hd) (by split <;> omega) (Nat.le_refl _)) ?_
  have e : gg d (if n < -n then -n else n) = gg n d := by rw [gg_comm, gg_abs]
  rw [e]
  simp only [if_neg (show ¬ gg n d = 0 by omega), tdiv_lo1 hd h1 h2, tdiv_lo2 (n := n) hd h3]
  exact Ev.now _
theorem fraction_ev {n d : Int} (hd : 0 < d) (h1 : -4611686018427387904 ≤ n) (h2 : n ≤ 4611686018427387904) (h3 : d ≤ 4611686018427387904) : Ev (fun k => impl_fraction.f k n d) ((lo n d).1, (lo n d).2, true) := by
  unfold impl_fraction.f
  simp only [if_neg (show ¬ d = 0 by omega)]
  exact Ev.bind (lowest_ev hd h1 h2 h3) (Ev.now _)
theorem trCommon_ev : ∀ (n : Nat) (a b : Int), 0 ≤ a → 0 ≤ b → b.toNat ≤ n → Ev (fun k => spec_trCommon.l0 k a b) (gg a b) := by
  intro n
  induction n with
  | zero =>
    intro a b ha hb hn
    obtain rfl : b = 0 := by omega
    refine Ev.step (fun k => by simp only [spec_trCommon.l0]; rw [if_neg (by omega)]) ?_
    rw [gg_zero ha]; exact Ev.now a
  | succ n ih =>
    intro a b ha hb hn
    by_cases h : 0 < b
    · obtain ⟨g1, g2, g3⟩ := gg_step ha h
      refine Ev.step (fun k => by simp only [spec_trCommon.l0]; rw [if_pos h, if_neg (by omega)]) ?_
      rw [← g1]; exact ih b (a.tmod b) hb g2 (by omega)
    · obtain rfl : b = 0 := by omega
      refine Ev.step (fun k => by simp only [spec_trCommon.l0]; rw [if_neg (by omega)]) ?_
      rw [gg_zero ha]; exact Ev.now a
theorem tiLow_ev {n d : Int} (hd : 0 < d) (h1 : 0 ≤ n) (h2 : n ≤ 4611686018427387904) (h3 : d ≤ 4611686018427387904) : Ev (fun k => spec_tiLow.f k n d) (lo n d) := by
  have hg := gg_pos (n := n) hd
  refine Ev.bind (g := fun k => spec_trCommon.f k n d) (trCommon_ev _ n d h1 (Int.le_of_lt hd) (Nat.le_refl _)) ?_
  simp only [if_neg (show ¬ gg n d = 0 by omega), tdiv_lo1 hd (by omega) h2, tdiv_lo2 (n := n) hd h3]
  exact Ev.now _
theorem most_eq (a b : Int) : spec_l1Most.f a b = some (if a > b then a else b) := by
  unfold spec_l1Most.f; split <;> rfl
theorem l1Abs_eq {a : Int} (h1 : -4611686018427387904 ≤ a) (h2 : a ≤ 4611686018427387904) : spec_l1Abs.f a = some (if a < -a then -a else a) := by
  unfold spec_l1Abs.f
  rw [most_eq]
  have e : wrap64 (-a) = -a := by unfold wrap64; omega
  rw [e]
  simp only [Option.bind_some]
  congr 1
  split <;> split <;> omega
theorem qLow_l0_ev : ∀ (n : Nat) (a b : Int), 0 ≤ a → 0 ≤ b → b.toNat ≤ n → Ev (fun k => laws_qLow.l0 k a b) (gg a b == 1) := by
  intro n
  induction n with
  | zero =>
    intro a b ha hb hn
    have e : b = 0 := by omega
    subst e
    refine Ev.step (fun k => by simp only [laws_qLow.l0]; rw [if_neg (by omega)]) ?_
    rw [gg_zero ha]
    exact Ev.now _
  | succ n ih =>
    intro a b ha hb hn
    by_cases e : b = 0
    · subst e
      refine Ev.step (fun k => by simp only [laws_qLow.l0]; rw [if_neg (by omega)]) ?_
      rw [gg_zero ha]
      exact Ev.now _
    · obtain ⟨g1, g2, g3⟩ := gg_step ha (show 0 < b by omega)
      refine Ev.step (fun k => by simp only [laws_qLow.l0]; rw [if_pos (by omega), if_neg e]) ?_
      rw [← g1]
      exact ih b (a.tmod b) (by omega) g2 (by omega)
/-- A fraction in lowest terms is told so. -/
theorem qLow_ev (a b : Int) (ha : 0 ≤ a) (hb : 1 ≤ b) (hg : gg a b = 1) : Ev (fun k => laws_qLow.f k a b) true := by
  unfold laws_qLow.f
  refine Ev.congr (fun k => by rw [if_neg (by omega)]) ?_
  refine Ev.step (f := fun k => laws_qLow.l0 k a b) (fun k => by simp only [laws_qLow.j0]; rw [if_neg (by simp; omega)]) ?_
  have h := qLow_l0_ev b.toNat a b ha (by omega) (Nat.le_refl _)
  rw [hg] at h
  exact h
theorem qLow_lo {n d : Int} (hd : 0 < d) (hn : 0 ≤ n) : Ev (fun k => laws_qLow.f k (lo n d).1 (lo n d).2) true :=
  qLow_ev _ _ (lo_nonneg hd hn) (lo_pos n hd) (lo_gcd n hd)
theorem qIs_lo {n d : Int} (hd : 0 < d) (hn : 0 ≤ n) : Ev (fun k => laws_qIs.f k (lo n d).1 (lo n d).2 n d) true := by
  unfold laws_qIs.f
  refine Ev.bind (qLow_lo hd hn) ?_
  simp only [if_true]
  rw [lo_cross n d, beq_self_eq_true]
  exact Ev.now _
/-! ### How long trains pass -/
theorem tiTwo_eq (a b c d : Int) : spec_tiTwo.f a b c d = some (okT a b && okT c d) := by
  unfold spec_tiTwo.f
  simp only [tiGood_eq, Option.bind_some]
  cases okT a b <;> simp
theorem frac0 (n : Int) : Ev (fun k => impl_fraction.f k n 0) (0, 0, false) := by
  unfold impl_fraction.f
  simp only [if_true]
  exact Ev.now _
def bridgeR (s0 s1 g : Int) : Int × Int × Bool := if okT s0 s1 = true ∧ (0 ≤ g ∧ g ≤ 100000) then ((lo (g + s0) s1).1, (lo (g + s0) s1).2, true) else (0, 0, false)
theorem implBridge_ev (s0 s1 g : Int) : Ev (fun k => impl_BridgePassing.f k s0 s1 g) (bridgeR s0 s1 g) := by
  unfold impl_BridgePassing.f bridgeR impl_isWay.f
  simp only [isTrain_eq, within_eq, Option.bind_some]
  by_cases h : okT s0 s1 = true
  · by_cases hg : 0 ≤ g ∧ g ≤ 100000
    · have hb := okT_iff.1 h
      rw [if_pos ⟨h, hg⟩]
      refine Ev.congr (fun k => by rw [if_pos h, if_pos (decide_eq_true hg), w64 (x := g + s0) (by omega) (by omega)]) ?_
      exact Ev.bind (fraction_ev (by omega) (by omega) (by omega) (by omega)) (Ev.now _)
    · rw [if_neg (fun c => hg c.2)]
      exact Ev.congr (fun k => by rw [if_pos h, if_neg (by simpa using hg)]) (Ev.now _)
  · rw [if_neg (fun c => h c.1)]
    exact Ev.congr (fun k => by rw [if_neg h]) (Ev.now _)
theorem specBridge_ev (s0 s1 g : Int) : Ev (fun k => spec_BridgePassing.f k s0 s1 g) (bridgeR s0 s1 g) := by
  unfold spec_BridgePassing.f bridgeR spec_tiWay.f
  simp only [tiGood_eq, in_eq, Option.bind_some]
  by_cases h : okT s0 s1 = true
  · by_cases hg : 0 ≤ g ∧ g ≤ 100000
    · have hb := okT_iff.1 h
      rw [if_pos ⟨h, hg⟩]
      refine Ev.congr (fun k => by rw [if_pos h, if_pos (decide_eq_true hg), w64 (x := s0 + g) (by omega) (by omega), Int.add_comm s0 g]) ?_
      exact Ev.bind (tiLow_ev (by omega) (by omega) (by omega) (by omega)) (Ev.now _)
    · rw [if_neg (fun c => hg c.2)]
      exact Ev.congr (fun k => by rw [if_pos h, if_neg (by simpa using hg)]) (Ev.now _)
  · rw [if_neg (fun c => h c.1)]
    exact Ev.congr (fun k => by rw [if_neg h]) (Ev.now _)
def poleR (s0 s1 : Int) : Int × Int × Bool := if okT s0 s1 = true then ((lo s0 s1).1, (lo s0 s1).2, true) else (0, 0, false)
theorem implPole_ev (s0 s1 : Int) : Ev (fun k => impl_PolePassing.f k s0 s1) (poleR s0 s1) := by
  unfold impl_PolePassing.f poleR
  simp only [isTrain_eq, Option.bind_some]
  by_cases h : okT s0 s1 = true
  · have hb := okT_iff.1 h
    simp only [if_pos h]
    exact Ev.bind (fraction_ev (by omega) (by omega) (by omega) (by omega)) (Ev.now _)
  · simp only [if_neg h]
    exact Ev.now _
theorem specPole_ev (s0 s1 : Int) : Ev (fun k => spec_PolePassing.f k s0 s1) (poleR s0 s1) := by
  unfold spec_PolePassing.f poleR
  simp only [tiGood_eq, Option.bind_some]
  by_cases h : okT s0 s1 = true
  · have hb := okT_iff.1 h
    simp only [if_pos h]
    exact Ev.bind (tiLow_ev (by omega) (by omega) (by omega) (by omega)) (Ev.now _)
  · simp only [if_neg h]
    exact Ev.now _
def insideR (s0 s1 g : Int) : Int × Int × Bool := if okT s0 s1 = true ∧ (0 ≤ g ∧ g ≤ 100000) ∧ s0 ≤ g then ((lo (g - s0) s1).1, (lo (g - s0) s1).2, true) else (0, 0, false)
theorem implInside_ev (s0 s1 g : Int) : Ev (fun k => impl_InsideTunnel.f k s0 s1 g) (insideR s0 s1 g) := by
  unfold impl_InsideTunnel.f insideR impl_isWay.f
  simp only [isTrain_eq, within_eq, Option.bind_some]
  by_cases h : okT s0 s1 = true
  · by_cases hg : 0 ≤ g ∧ g ≤ 100000
    · have hb := okT_iff.1 h
      by_cases hs : s0 ≤ g
      · rw [if_pos ⟨h, hg, hs⟩]
        refine Ev.congr (fun k => by rw [if_pos h, if_pos (decide_eq_true hg), if_neg (Int.not_lt.2 hs), w64 (x := g - s0) (by omega) (by omega)]) ?_
        exact Ev.bind (fraction_ev (by omega) (by omega) (by omega) (by omega)) (Ev.now _)
      · rw [if_neg (fun c => hs c.2.2)]
        exact Ev.congr (fun k => by rw [if_pos h, if_pos (decide_eq_true hg), if_pos (Int.not_le.1 hs)]) (Ev.now _)
    · rw [if_neg (fun c => hg c.2.1)]
      exact Ev.congr (fun k => by rw [if_pos h, if_neg (by simpa using hg)]) (Ev.now _)
  · rw [if_neg (fun c => h c.1)]
    exact Ev.congr (fun k => by rw [if_neg h]) (Ev.now _)
theorem specInside_ev (s0 s1 g : Int) : Ev (fun k => spec_InsideTunnel.f k s0 s1 g) (insideR s0 s1 g) := by
  unfold spec_InsideTunnel.f insideR spec_tiWay.f
  simp only [tiGood_eq, in_eq, Option.bind_some]
  by_cases h : okT s0 s1 = true
  · by_cases hg : 0 ≤ g ∧ g ≤ 100000
    · have hb := okT_iff.1 h
      by_cases hs : s0 ≤ g
      · rw [if_pos ⟨h, hg, hs⟩]
        refine Ev.congr (fun k => by rw [if_pos h, if_pos (decide_eq_true hg), if_neg (Int.not_lt.2 hs), w64 (x := g - s0) (by omega) (by omega)]) ?_
        exact Ev.bind (tiLow_ev (by omega) (by omega) (by omega) (by omega)) (Ev.now _)
      · rw [if_neg (fun c => hs c.2.2)]
        exact Ev.congr (fun k => by rw [if_pos h, if_pos (decide_eq_true hg), if_pos (Int.not_le.1 hs)]) (Ev.now _)
    · rw [if_neg (fun c => hg c.2.1)]
      exact Ev.congr (fun k => by rw [if_pos h, if_neg (by simpa using hg)]) (Ev.now _)
  · rw [if_neg (fun c => h c.1)]
    exact Ev.congr (fun k => by rw [if_neg h]) (Ev.now _)
def eachR (r0 r1 s0 s1 : Int) : Int × Int × Bool := if okT r0 r1 = true ∧ okT s0 s1 = true then ((lo (r0 + s0) (r1 + s1)).1, (lo (r0 + s0) (r1 + s1)).2, true) else (0, 0, false)
theorem implEach_ev (r0 r1 s0 s1 : Int) : Ev (fun k => impl_PassEachOther.f k r0 r1 s0 s1) (eachR r0 r1 s0 s1) := by
  unfold impl_PassEachOther.f eachR
  simp only [isTrain_eq, Option.bind_some]
  by_cases h : okT r0 r1 = true
  · by_cases g : okT s0 s1 = true
    · have hb := okT_iff.1 h
      have gb := okT_iff.1 g
      rw [if_pos ⟨h, g⟩]
      refine Ev.congr (fun k => by rw [if_pos h, if_pos g, w64 (x := r0 + s0) (by omega) (by omega), w64 (x := r1 + s1) (by omega) (by omega)]) ?_
      exact Ev.bind (fraction_ev (by omega) (by omega) (by omega) (by omega)) (Ev.now _)
    · rw [if_neg (fun c => g c.2)]
      exact Ev.congr (fun k => by rw [if_pos h, if_neg g]) (Ev.now _)
  · rw [if_neg (fun c => h c.1)]
    exact Ev.congr (fun k => by rw [if_neg h]) (Ev.now _)
theorem two_iff (a b : Bool) : (a && b) = true ↔ a = true ∧ b = true := by rw [Bool.and_eq_true]
theorem specEach_ev (r0 r1 s0 s1 : Int) : Ev (fun k => spec_PassEachOther.f k r0 r1 s0 s1) (eachR r0 r1 s0 s1) := by
  unfold spec_PassEachOther.f eachR
  simp only [tiTwo_eq, Option.bind_some, two_iff]
  by_cases h : okT r0 r1 = true ∧ okT s0 s1 = true
  · have hb := okT_iff.1 h.1
    have gb := okT_iff.1 h.2
    simp only [if_pos h]
    refine Ev.congr (fun k => by rw [w64 (x := r0 + s0) (by omega) (by omega), w64 (x := r1 + s1) (by omega) (by omega)]) ?_
    exact Ev.bind (tiLow_ev (by omega) (by omega) (by omega) (by omega)) (Ev.now _)
  · simp only [if_neg h]
    exact Ev.now _
def overR (r0 r1 s0 s1 : Int) : Int × Int × Bool := if (okT r0 r1 = true ∧ okT s0 s1 = true) ∧ s1 < r1 then ((lo (r0 + s0) (r1 - s1)).1, (lo (r0 + s0) (r1 - s1)).2, true) else (0, 0, false)
theorem implOver_ev (r0 r1 s0 s1 : Int) : Ev (fun k => impl_PassOvertaking.f k r0 r1 s0 s1) (overR r0 r1 s0 s1) := by
  unfold impl_PassOvertaking.f overR
  simp only [isTrain_eq, Option.bind_some]
  by_cases h : okT r0 r1 = true
  · by_cases g : okT s0 s1 = true
    · have hb := okT_iff.1 h
      have gb := okT_iff.1 g
      by_cases q : s1 < r1
      · rw [if_pos ⟨⟨h, g⟩, q⟩]
        refine Ev.congr (fun k => by rw [if_pos h, if_pos g, if_neg (Int.not_le.2 q), w64 (x := r0 + s0) (by omega) (by omega), w64 (x := r1 - s1) (by omega) (by omega)]) ?_
        exact Ev.bind (fraction_ev (by omega) (by omega) (by omega) (by omega)) (Ev.now _)
      · rw [if_neg (fun c => q c.2)]
        exact Ev.congr (fun k => by rw [if_pos h, if_pos g, if_pos (Int.not_lt.1 q)]) (Ev.now _)
    · rw [if_neg (fun c => g c.1.2)]
      exact Ev.congr (fun k => by rw [if_pos h, if_neg g]) (Ev.now _)
  · rw [if_neg (fun c => h c.1.1)]
    exact Ev.congr (fun k => by rw [if_neg h]) (Ev.now _)
theorem specOver_ev (r0 r1 s0 s1 : Int) : Ev (fun k => spec_PassOvertaking.f k r0 r1 s0 s1) (overR r0 r1 s0 s1) := by
  unfold spec_PassOvertaking.f overR
  simp only [tiTwo_eq, Option.bind_some, two_iff]
  by_cases h : okT r0 r1 = true ∧ okT s0 s1 = true
  · have hb := okT_iff.1 h.1
    have gb := okT_iff.1 h.2
    by_cases q : s1 < r1
    · rw [if_pos ⟨h, q⟩]
      refine Ev.congr (fun k => by rw [if_pos h, if_neg (Int.not_le.2 q), w64 (x := r0 + s0) (by omega) (by omega), w64 (x := r1 - s1) (by omega) (by omega)]) ?_
      exact Ev.bind (tiLow_ev (by omega) (by omega) (by omega) (by omega)) (Ev.now _)
    · rw [if_neg (fun c => q c.2)]
      exact Ev.congr (fun k => by rw [if_pos h, if_pos (Int.not_lt.1 q)]) (Ev.now _)
  · rw [if_neg (fun c => h c.1)]
    exact Ev.congr (fun k => by rw [if_neg h]) (Ev.now _)
/-- The rate at which a train is seen from another one. -/
def seenD (u1 v1 : Int) (b : Bool) : Int := if b = true then u1 + v1 else if u1 - v1 < -(u1 - v1) then -(u1 - v1) else u1 - v1
def seenR (u0 u1 v0 v1 : Int) (b : Bool) : Int × Int × Bool := if (okT u0 u1 = true ∧ okT v0 v1 = true) ∧ seenD u1 v1 b ≠ 0 then ((lo v0 (seenD u1 v1 b)).1, (lo v0 (seenD u1 v1 b)).2, true) else (0, 0, false)
theorem seenD_bd {u0 u1 v0 v1 : Int} (h : okT u0 u1 = true ∧ okT v0 v1 = true) (b : Bool) : 0 ≤ seenD u1 v1 b ∧ seenD u1 v1 b ≤ 200 := by
  have hb := okT_iff.1 h.1
  have gb := okT_iff.1 h.2
  unfold seenD
  split
  · omega
  · split <;> omega
theorem implSeen_ev (u0 u1 v0 v1 : Int) (b : Bool) : Ev (fun k => impl_SeenFromTrain.f k u0 u1 v0 v1 b) (seenR u0 u1 v0 v1 b) := by
  unfold impl_SeenFromTrain.f seenR
  simp only [isTrain_eq, Option.bind_some]
  by_cases h : okT u0 u1 = true
  · by_cases g : okT v0 v1 = true
    · have hb := okT_iff.1 h
      have gb := okT_iff.1 g
      have bd := seenD_bd ⟨h, g⟩ b
      refine Ev.congr (fun k => by rw [if_pos h, g, Bool.not_true]) ?_
      have key : Ev (fun k => impl_fraction.f k v0 (seenD u1 v1 b)) (if (okT u0 u1 = true ∧ okT v0 v1 = true) ∧ seenD u1 v1 b ≠ 0 then ((lo v0 (seenD u1 v1 b)).1, (lo v0 (seenD u1 v1 b)).2, true) else (0, 0, false)) := by
        by_cases z : seenD u1 v1 b = 0
        · rw [if_neg (fun c => c.2 z), z]
          exact frac0 v0
        · rw [if_pos ⟨⟨h, g⟩, z⟩]
          exact fraction_ev (by omega) (by omega) (by omega) (by omega)
      refine Ev.step (fun k => by simp only [impl_SeenFromTrain.j0, Bool.false_eq_true, if_false]; rw [w64 (x := u1 - v1) (by omega) (by omega), absOf_eq (by omega) (by omega), Option.bind_some]) ?_
      cases b with
      | true =>
        simp only [if_true]
        have e : wrap64 (u1 + v1) = seenD u1 v1 true := by unfold seenD; rw [if_pos rfl, w64 (by omega) (by omega)]
        rw [e]
        exact Ev.bind key (Ev.now _)
      | false =>
        simp only [Bool.false_eq_true, if_false]
        have e : (if u1 - v1 < -(u1 - v1) then -(u1 - v1) else u1 - v1) = seenD u1 v1 false := by unfold seenD; simp only [Bool.false_eq_true, if_false]
        rw [e]
        exact Ev.bind key (Ev.now _)
    · rw [if_neg (fun c => g c.1.2)]
      rw [Bool.not_eq_true] at g
      refine Ev.congr (fun k => by rw [if_pos h, g, Bool.not_false]) ?_
      exact Ev.step (fun k => by simp only [impl_SeenFromTrain.j0, if_true]) (Ev.now _)
  · rw [if_neg (fun c => h c.1.1)]
    refine Ev.congr (fun k => by rw [if_neg h]) ?_
    exact Ev.step (fun k => by simp only [impl_SeenFromTrain.j0, if_true]) (Ev.now _)
theorem tiRate_eq {u1 v1 : Int} (b : Bool) (h : (0 ≤ u1 ∧ u1 ≤ 1000) ∧ (0 ≤ v1 ∧ v1 ≤ 1000)) : spec_tiRate.f u1 v1 b = some (seenD u1 v1 b) := by
  unfold spec_tiRate.f seenD
  cases b with
  | true => simp only [if_true]; rw [w64 (by omega) (by omega)]
  | false => simp only [Bool.false_eq_true, if_false]; rw [w64 (x := u1 - v1) (by omega) (by omega), l1Abs_eq (by omega) (by omega), Option.bind_some]
theorem specSeen_ev (u0 u1 v0 v1 : Int) (b : Bool) : Ev (fun k => spec_SeenFromTrain.f k u0 u1 v0 v1 b) (seenR u0 u1 v0 v1 b) := by
  unfold spec_SeenFromTrain.f seenR
  simp only [tiTwo_eq, Option.bind_some, two_iff]
  by_cases h : okT u0 u1 = true ∧ okT v0 v1 = true
  · have hb := okT_iff.1 h.1
    have gb := okT_iff.1 h.2
    have bd := seenD_bd h b
    refine Ev.congr (fun k => by rw [if_pos h, tiRate_eq b (by omega), Option.bind_some]) ?_
    by_cases z : seenD u1 v1 b = 0
    · rw [if_neg (fun c => c.2 z)]
      exact Ev.congr (fun k => by rw [if_pos z]) (Ev.now _)
    · rw [if_pos ⟨h, z⟩]
      refine Ev.congr (fun k => by rw [if_neg z]) ?_
      exact Ev.bind (tiLow_ev (by omega) (by omega) (by omega) (by omega)) (Ev.now _)
  · rw [if_neg (fun c => h c.1)]
    exact Ev.congr (fun k => by rw [if_neg h]) (Ev.now _)
def walkD (w1 r : Int) (b : Bool) : Int := if b = true then w1 + r else w1 - r
def walkR (w0 w1 r : Int) (b : Bool) : Int × Int × Bool := if (okT w0 w1 = true ∧ (1 ≤ r ∧ r ≤ 100)) ∧ 0 < walkD w1 r b then ((lo w0 (walkD w1 r b)).1, (lo w0 (walkD w1 r b)).2, true) else (0, 0, false)
theorem implWalk_ev (w0 w1 r : Int) (b : Bool) : Ev (fun k => impl_PassWalker.f k w0 w1 r b) (walkR w0 w1 r b) := by
  unfold impl_PassWalker.f walkR impl_isRate.f
  simp only [isTrain_eq, within_eq, Option.bind_some]
  by_cases h : okT w0 w1 = true
  · by_cases g : 1 ≤ r ∧ r ≤ 100
    · have hb := okT_iff.1 h
      refine Ev.congr (fun k => by rw [if_pos h, decide_eq_true g, Bool.not_true]) ?_
      cases b with
      | true =>
        have e : walkD w1 r true = w1 + r := by unfold walkD; rw [if_pos rfl]
        rw [e, if_pos ⟨⟨h, g⟩, by omega⟩]
        refine Ev.step (fun k => by simp only [impl_PassWalker.j0, Bool.false_eq_true, if_false, if_true]; rw [w64 (x := w1 + r) (by omega) (by omega)]) ?_
        exact Ev.bind (fraction_ev (by omega) (by omega) (by omega) (by omega)) (Ev.now _)
      | false =>
        have e : walkD w1 r false = w1 - r := by unfold walkD; rw [if_neg (by simp)]
        rw [e]
        refine Ev.step (fun k => by simp only [impl_PassWalker.j0, Bool.false_eq_true, if_false]; rw [w64 (x := w1 - r) (by omega) (by omega)]) ?_
        by_cases q : 0 < w1 - r
        · rw [if_pos ⟨⟨h, g⟩, q⟩]
          have em : mx 0 (w1 - r) = w1 - r := by unfold mx; rw [if_pos q]
          rw [em]
          exact Ev.bind (fraction_ev q (by omega) (by omega) (by omega)) (Ev.now _)
        · rw [if_neg (fun c => q c.2)]
          have em : mx 0 (w1 - r) = 0 := by unfold mx; rw [if_neg q]
          rw [em]
          exact Ev.bind (frac0 w0) (Ev.now _)
    · rw [if_neg (fun c => g c.1.2)]
      refine Ev.congr (fun k => by rw [if_pos h, decide_eq_false g, Bool.not_false]) ?_
      exact Ev.step (fun k => by simp only [impl_PassWalker.j0, if_true]) (Ev.now _)
  · rw [if_neg (fun c => h c.1.1)]
    refine Ev.congr (fun k => by rw [if_neg h]) ?_
    exact Ev.step (fun k => by simp only [impl_PassWalker.j0, if_true]) (Ev.now _)
theorem specWalk_ev (w0 w1 r : Int) (b : Bool) : Ev (fun k => spec_PassWalker.f k w0 w1 r b) (walkR w0 w1 r b) := by
  unfold spec_PassWalker.f walkR
  simp only [tiGood_eq, in_eq, Option.bind_some]
  by_cases h : okT w0 w1 = true
  · by_cases g : 1 ≤ r ∧ r ≤ 100
    · have hb := okT_iff.1 h
      cases b with
      | true =>
        have e : walkD w1 r true = w1 + r := by unfold walkD; rw [if_pos rfl]
        have es : seenD w1 r true = w1 + r := by unfold seenD; rw [if_pos rfl]
        rw [e, if_pos ⟨⟨h, g⟩, by omega⟩]
        refine Ev.congr (fun k => by rw [if_pos h, if_pos (decide_eq_true g), if_pos rfl]) ?_
        refine Ev.step (fun k => by simp only [spec_PassWalker.j0, Bool.false_eq_true, if_false]; rw [tiRate_eq true (by omega), Option.bind_some, es]) ?_
        exact Ev.bind (tiLow_ev (by omega) (by omega) (by omega) (by omega)) (Ev.now _)
      | false =>
        have e : walkD w1 r false = w1 - r := by unfold walkD; rw [if_neg (by simp)]
        rw [e]
        refine Ev.congr (fun k => by rw [if_pos h, if_pos (decide_eq_true g), if_neg (by simp)]) ?_
        by_cases q : 0 < w1 - r
        · have es : seenD w1 r false = w1 - r := by unfold seenD; rw [if_neg (by simp), if_neg (by omega)]
          rw [if_pos ⟨⟨h, g⟩, q⟩]
          refine Ev.step (fun k => by simp only [spec_PassWalker.j0]; rw [if_neg (show ¬ decide (r ≥ w1) = true by simp; omega), tiRate_eq false (by omega), Option.bind_some, es]) ?_
          exact Ev.bind (tiLow_ev (by omega) (by omega) (by omega) (by omega)) (Ev.now _)
        · rw [if_neg (fun c => q c.2)]
          exact Ev.step (fun k => by simp only [spec_PassWalker.j0]; rw [if_pos (show decide (r ≥ w1) = true by simp; omega)]) (Ev.now _)
    · rw [if_neg (fun c => g c.1.2)]
      refine Ev.congr (fun k => by rw [if_pos h, if_neg (by simpa using g)]) ?_
      exact Ev.step (fun k => by simp only [spec_PassWalker.j0, if_true]) (Ev.now _)
  · rw [if_neg (fun c => h c.1.1)]
    refine Ev.congr (fun k => by rw [if_neg h]) ?_
    exact Ev.step (fun k => by simp only [spec_PassWalker.j0, if_true]) (Ev.now _)
def fromR (a b c : Int) : Int × Int × Int × Int × Bool := if ((1 ≤ a ∧ a ≤ 100000) ∧ (1 ≤ b ∧ b ≤ 10000) ∧ (1 ≤ c ∧ c ≤ 10000)) ∧ b < c then ((lo (a * b) (c - b)).1, (lo (a * b) (c - b)).2, (lo a (c - b)).1, (lo a (c - b)).2, true) else (0, 0, 0, 0, false)
theorem prod_bd {a b : Int} (h : (1 ≤ a ∧ a ≤ 100000) ∧ (1 ≤ b ∧ b ≤ 10000)) : 0 ≤ a * b ∧ a * b ≤ 1000000000 := by
  have h1 := Int.mul_nonneg (show 0 ≤ a by omega) (show 0 ≤ b by omega)
  have h2 : a * b ≤ 100000 * 10000 := Int.mul_le_mul h.1.2 h.2.2 (by omega) (by omega)
  omega
theorem implFrom_ev (a b c : Int) : Ev (fun k => impl_TrainFromTimes.f k a b c) (fromR a b c) := by
  unfold impl_TrainFromTimes.f fromR impl_isSpan.f
  simp only [within_eq, Option.bind_some]
  by_cases h1 : 1 ≤ a ∧ a ≤ 100000
  · by_cases h2 : 1 ≤ b ∧ b ≤ 10000
    · by_cases h3 : 1 ≤ c ∧ c ≤ 10000
      · refine Ev.congr (fun k => by rw [if_pos (decide_eq_true h1), if_pos (decide_eq_true h2), if_pos (decide_eq_true h3)]) ?_
        by_cases q : b < c
        · have pb := prod_bd ⟨h1, h2⟩
          rw [if_pos ⟨⟨h1, h2, h3⟩, q⟩]
          refine Ev.step (fun k => by simp only [impl_TrainFromTimes.j0]; rw [if_neg (show ¬ decide (c ≤ b) = true by simp; omega), w64 (x := a * b) (by omega) (by omega), w64 (x := c - b) (by omega) (by omega)]) ?_
          exact Ev.bind (lowest_ev (by omega) (by omega) (by omega) (by omega)) (Ev.bind (lowest_ev (by omega) (by omega) (by omega) (by omega)) (Ev.now _))
        · rw [if_neg (fun z => q z.2)]
          exact Ev.step (fun k => by simp only [impl_TrainFromTimes.j0]; rw [if_pos (show decide (c ≤ b) = true by simp; omega)]) (Ev.now _)
      · rw [if_neg (fun z => h3 z.1.2.2)]
        refine Ev.congr (fun k => by rw [if_pos (decide_eq_true h1), if_pos (decide_eq_true h2), if_neg (by simpa using h3)]) ?_
        exact Ev.step (fun k => by simp only [impl_TrainFromTimes.j0, if_true]) (Ev.now _)
    · rw [if_neg (fun z => h2 z.1.2.1)]
      refine Ev.congr (fun k => by rw [if_pos (decide_eq_true h1), if_neg (by simpa using h2)]) ?_
      exact Ev.step (fun k => by simp only [impl_TrainFromTimes.j0, if_true]) (Ev.now _)
  · rw [if_neg (fun z => h1 z.1.1)]
    refine Ev.congr (fun k => by rw [if_neg (by simpa using h1)]) ?_
    exact Ev.step (fun k => by simp only [impl_TrainFromTimes.j0, if_true]) (Ev.now _)
theorem specFrom_ev (a b c : Int) : Ev (fun k => spec_TrainFromTimes.f k a b c) (fromR a b c) := by
  unfold spec_TrainFromTimes.f fromR
  simp only [in_eq, Option.bind_some]
  by_cases h1 : 1 ≤ a ∧ a ≤ 100000
  · by_cases h2 : 1 ≤ b ∧ b ≤ 10000
    · by_cases h3 : 1 ≤ c ∧ c ≤ 10000
      · refine Ev.congr (fun k => by rw [if_pos (decide_eq_true h1), if_pos (decide_eq_true h2), if_pos (decide_eq_true h3)]) ?_
        by_cases q : b < c
        · have pb := prod_bd ⟨h1, h2⟩
          rw [if_pos ⟨⟨h1, h2, h3⟩, q⟩]
          refine Ev.step (fun k => by simp only [spec_TrainFromTimes.j0]; rw [if_neg (show ¬ decide (c ≤ b) = true by simp; omega), w64 (x := a * b) (by omega) (by omega), w64 (x := c - b) (by omega) (by omega)]) ?_
          exact Ev.bind (tiLow_ev (by omega) (by omega) (by omega) (by omega)) (Ev.bind (tiLow_ev (by omega) (by omega) (by omega) (by omega)) (Ev.now _))
        · rw [if_neg (fun z => q z.2)]
          exact Ev.step (fun k => by simp only [spec_TrainFromTimes.j0]; rw [if_pos (show decide (c ≤ b) = true by simp; omega)]) (Ev.now _)
      · rw [if_neg (fun z => h3 z.1.2.2)]
        refine Ev.congr (fun k => by rw [if_pos (decide_eq_true h1), if_pos (decide_eq_true h2), if_neg (by simpa using h3)]) ?_
        exact Ev.step (fun k => by simp only [spec_TrainFromTimes.j0, if_true]) (Ev.now _)
    · rw [if_neg (fun z => h2 z.1.2.1)]
      refine Ev.congr (fun k => by rw [if_pos (decide_eq_true h1), if_neg (by simpa using h2)]) ?_
      exact Ev.step (fun k => by simp only [spec_TrainFromTimes.j0, if_true]) (Ev.now _)
  · rw [if_neg (fun z => h1 z.1.1)]
    refine Ev.congr (fun k => by rw [if_neg (by simpa using h1)]) ?_
    exact Ev.step (fun k => by simp only [spec_TrainFromTimes.j0, if_true]) (Ev.now _)
/-! ### A reader of choices: whatever its state, it goes on -/
theorem u64_wrap (n : Int) : IntKind.u64.wrap n = n % 18446744073709551616 := by simp [IntKind.wrap, IntKind.bits, IntKind.signed]
theorem mask255 (y : Int) : 0 ≤ Go.bits .and .u64 (IntKind.u64.wrap y / 1099511627776) 255 ∧ Go.bits .and .u64 (IntKind.u64.wrap y / 1099511627776) 255 ≤ 255 := by
  have h0 : 0 ≤ IntKind.u64.wrap y / 1099511627776 := by rw [u64_wrap]; omega
  have h1 : IntKind.u64.wrap y / 1099511627776 < 2 ^ 24 := by rw [u64_wrap]; omega
  have e := Go.bits_mask .u64 24 (by decide) (fun n a b => by rw [u64_wrap]; omega) 8 (by decide) (IntKind.u64.wrap y / 1099511627776) h0 h1
  rw [show (255 : Int) = 2 ^ 8 - 1 by decide, e]
  omega
/-- The bytes of a code. -/
def Bytes (code : List Int) : Prop := code.length ≤ 1048576 ∧ ∀ x, x ∈ code → 0 ≤ x ∧ x ≤ 255
theorem bytes_of {code : List Int} (hl : code.length ≤ 1048576) (h : ∀ x, x ∈ code → (Lit.int .u8 x).wf = true) : Bytes code := by
  refine ⟨hl, fun x hx => ?_⟩
  have := h x hx
  simp only [Lit.wf, IntKind.min, IntKind.max, IntKind.signed, IntKind.bits, Bool.and_eq_true, decide_eq_true_eq] at this
  simp at this
  omega
theorem next_ok {code : List Int} (hc : Bytes code) (p s : Int) (h0 : 0 ≤ p) (h1 : p ≤ 1000000000) : ∃ x s', spec_l1Cur_next.f code p s = some (x, p + 1, s') ∧ 0 ≤ x ∧ x ≤ 255 := by
  unfold spec_l1Cur_next.f
  have hw : wrap64 (p + 1) = p + 1 := w64 (by omega) (by omega)
  rw [hw]
  by_cases c : p < (code.length : Int)
  · rw [if_pos c, if_pos h0]
    obtain ⟨b0, b1⟩ := hc.2 (rd code p) (get_mem code 0 p h0 c)
    rw [if_pos (by omega), w64 (x := rd code p) (by omega) (by omega)]
    exact ⟨_, _, rfl, b0, b1⟩
  · rw [if_neg c]
    by_cases c2 : p + 1 ≤ (code.length : Int)
    · omega
    · rw [if_neg c2]
      have m := mask255 (IntKind.u64.wrap (IntKind.u64.wrap (s * 6364136223846793005)) + 1442695040888963407)
      rw [w64 (by omega) (by omega)]
      exact ⟨_, _, rfl, m.1, m.2⟩
theorem pick_ok {code : List Int} (hc : Bytes code) (p s n : Int) (h0 : 0 ≤ p) (h1 : p ≤ 999999990) (hn : n ≤ 1000000000) : ∃ x p' s', spec_l1Cur_pick.f code p s n = some (x, p', s') ∧ 0 ≤ x ∧ (1 ≤ n → x < n) ∧ x ≤ 1000000000 ∧ p ≤ p' ∧ p' ≤ p + 2 := by
  unfold spec_l1Cur_pick.f
  by_cases c : n ≤ 1
  · rw [if_pos c]
    exact ⟨0, p, s, rfl, by omega, by omega, by omega, by omega, by omega⟩
  · rw [if_neg c]
    obtain ⟨x, s1, e1, x0, x1⟩ := next_ok hc p s h0 (by omega)
    rw [e1]
    simp only [Option.bind_some]
    have tm : ∀ y : Int, 0 ≤ y → 0 ≤ Int.tmod y n ∧ Int.tmod y n < n := by
      intro y hy
      rw [Int.tmod_eq_emod_of_nonneg hy]
      exact ⟨Int.emod_nonneg _ (by omega), Int.emod_lt_of_pos _ (by omega)⟩
    by_cases c2 : n > 200
    · rw [if_pos c2]
      obtain ⟨y, s2, e2, y0, y1⟩ := next_ok hc (p + 1) s1 (by omega) (by omega)
      rw [e2]
      simp only [Option.bind_some]
      rw [if_neg (by omega), w64 (x := x * 256) (by omega) (by omega), w64 (x := x * 256 + y) (by omega) (by omega)]
      have := tm (x * 256 + y) (by omega)
      exact ⟨_, _, _, rfl, this.1, fun _ => this.2, by omega, by omega, by omega⟩
    · rw [if_neg c2, if_neg (by omega)]
      have := tm x (by omega)
      exact ⟨_, _, _, rfl, this.1, fun _ => this.2, by omega, by omega, by omega⟩
theorem among_ok {code : List Int} (hc : Bytes code) (p s : Int) (l : List Int) (h0 : 0 ≤ p) (h1 : p ≤ 999999990) (hl : 0 < l.length) (hl2 : l.length ≤ 1000) : ∃ x p' s', spec_l1Cur_among.f code p s l = some (x, p', s') ∧ x ∈ l ∧ p ≤ p' ∧ p' ≤ p + 2 := by
  obtain ⟨x, p', s', e, x0, x1, _, p0, p1⟩ := pick_ok hc p s l.length h0 h1 (by omega)
  have x1 := x1 (by omega)
  unfold spec_l1Cur_among.f
  rw [e]
  simp only [Option.bind_some]
  rw [if_pos x0, if_pos x1]
  exact ⟨_, _, _, rfl, get_mem l 0 x x0 x1, p0, p1⟩
theorem one_ok {code : List Int} (hc : Bytes code) (p s n : Int) (h0 : 0 ≤ p) (h1 : p ≤ 999999990) (hn : n ≤ 1000000000) : ∃ x p' s', spec_l1Cur_one.f code p s n = some (x, p', s') ∧ p ≤ p' ∧ p' ≤ p + 2 := by
  obtain ⟨x, p', s', e, x0, x1, _, p0, p1⟩ := pick_ok hc p s n h0 h1 hn
  unfold spec_l1Cur_one.f
  rw [e]
  exact ⟨_, _, _, rfl, p0, p1⟩
theorem sureTrain_ok {code : List Int} (hc : Bytes code) (p s : Int) (h0 : 0 ≤ p) (h1 : p ≤ 999998000) : ∃ a b p' s', spec_l1Cur_sureTrain.f code p s = some (a, b, p', s') ∧ p ≤ p' ∧ p' ≤ p + 6 := by
  obtain ⟨x, p1, s1, e1, _, q0, q1⟩ := among_ok hc p s [1, 10, 60, 80, 120, 1000] h0 (by omega) (by simp) (by simp)
  obtain ⟨y, p2, s2, e2, y0, y1, y2, q2, q3⟩ := pick_ok hc p1 s1 1 (by omega) (by omega) (by omega)
  obtain ⟨z, p3, s3, e3, z0, z1, z2, q4, q5⟩ := pick_ok hc p2 s2 30 (by omega) (by omega) (by omega)
  exact ⟨_, _, p3, s3, by unfold spec_l1Cur_sureTrain.f; rw [e1, Option.bind_some, e2, Option.bind_some, e3, Option.bind_some], by omega, by omega⟩
theorem train_ok {code : List Int} (hc : Bytes code) (p s : Int) (h0 : 0 ≤ p) (h1 : p ≤ 999997000) : ∃ a b p' s', spec_l1Cur_train.f code p s = some (a, b, p', s') ∧ p ≤ p' ∧ p' ≤ p + 8 := by
  obtain ⟨x, p1, s1, e1, q0, q1⟩ := one_ok hc p s 14 h0 (by omega) (by omega)
  unfold spec_l1Cur_train.f
  cases x with
  | true =>
    obtain ⟨y, p2, s2, e2, _, q2, q3⟩ := among_ok hc p1 s1 [(-1), 0, 1, 1000, 1001, 4611686018427387904] (by omega) (by omega) (by simp) (by simp)
    obtain ⟨z, p3, s3, e3, _, q4, q5⟩ := among_ok hc p2 s2 [(-1), 0, 1, 100, 101, 4611686018427387904] (by omega) (by omega) (by simp) (by simp)
    exact ⟨y, z, p3, s3, by rw [e1, Option.bind_some, if_pos rfl, e2, Option.bind_some, e3, Option.bind_some], by omega, by omega⟩
  | false =>
    obtain ⟨a, b, p2, s2, e2, q2, q3⟩ := sureTrain_ok hc p1 s1 (by omega) (by omega)
    exact ⟨a, b, p2, s2, by rw [e1, Option.bind_some, if_neg (by simp), e2, Option.bind_some], by omega, by omega⟩
theorem way_ok {code : List Int} (hc : Bytes code) (p s : Int) (h0 : 0 ≤ p) (h1 : p ≤ 999998000) : ∃ a p' s', spec_l1Cur_way.f code p s = some (a, p', s') ∧ p ≤ p' ∧ p' ≤ p + 2 := by
  obtain ⟨x, p1, s1, e1, _, q0, q1⟩ := among_ok hc p s [0, 1, 7, 60, 120, 180, 999, 1000, 5000, 100000, 100001, (-1)] h0 (by omega) (by simp) (by simp)
  exact ⟨x, p1, s1, by unfold spec_l1Cur_way.f; rw [e1, Option.bind_some], q0, q1⟩
theorem strOne_size (n : Int) : (strOfNums [n]).size = 1 := by
  unfold strOfNums
  simp [ByteArray.size]
/-- A text with one or two edits. -/
theorem spoilt_l0_ev {code : List Int} (hc : Bytes code) (x2 : ByteArray) (g1 : 1 ≤ x2.size) (g2 : x2.size ≤ 1000) : ∀ (d : Nat) (x1 : ByteArray) (p s : Int), d ≤ 2 → x1.size + d ≤ 1000000 → 0 ≤ p → p + 6 * d ≤ 999999000 → ∃ r p' s', Ev (fun k => spec_l1Cur_spoilt.l0 k x1 x2 (d : Int) code p s) (r, p', s') ∧ r.size ≤ x1.size + d ∧ p ≤ p' ∧ p' ≤ p + 6 * d := by
  intro d
  induction d with
  | zero =>
    intro x1 p s _ hx h0 h1
    refine ⟨x1, p, s, ?_, by omega, by omega, by omega⟩
    refine Ev.step (fun k => by simp only [spec_l1Cur_spoilt.l0]; rw [if_neg (by omega)]) ?_
    exact Ev.step (fun k => by simp only [spec_l1Cur_spoilt.j1, Bool.false_eq_true, if_false]) (Ev.now _)
  | succ d ih =>
    intro x1 p s hd hx h0 h1
    by_cases c : (x1.size : Int) > 0
    · obtain ⟨i, p1, s1, e1, i0, i1, _, q0, q1⟩ := pick_ok hc p s x1.size h0 (by omega) (by omega)
      obtain ⟨q, p2, s2, e2, j0, j1, _, q2, q3⟩ := pick_ok hc p1 s1 x2.size (by omega) (by omega) (by omega)
      obtain ⟨z, p3, s3, e3, z0, z1, _, q4, q5⟩ := pick_ok hc p2 s2 3 (by omega) (by omega) (by omega)
      have i1 := i1 (by omega)
      have j1 := j1 (by omega)
      have wi : wrap64 (i + 1) = i + 1 := w64 (by omega) (by omega)
      have wd : wrap64 (((d + 1 : Nat) : Int) - 1) = (d : Int) := by rw [w64 (by omega) (by omega)]; omega
      have sa : (x1.extract 0 i.toNat).size ≤ i.toNat := by rw [ByteArray.size_extract]; omega
      have sb : (x1.extract i.toNat x1.size).size ≤ x1.size - i.toNat := by rw [ByteArray.size_extract]; omega
      have sc : (x1.extract (i + 1).toNat x1.size).size ≤ x1.size - (i + 1).toNat := by rw [ByteArray.size_extract]; omega
      have so := strOne_size (bt x2 q)
      have hi : i ≤ (x1.size : Int) := by omega
      have hj : i + 1 ≤ (x1.size : Int) := by omega
      have hk : (0 : Int) ≤ i + 1 := by omega
      have u1 : (x1.extract 0 i.toNat).size + (strOfNums [bt x2 q]).size ≤ 9223372036854775807 := by omega
      have u2 : ((x1.extract 0 i.toNat) ++ (strOfNums [bt x2 q])).size + (x1.extract i.toNat x1.size).size ≤ 9223372036854775807 := by rw [ByteArray.size_append]; omega
      have u3 : ((x1.extract 0 i.toNat) ++ (strOfNums [bt x2 q])).size + (x1.extract (i + 1).toNat x1.size).size ≤ 9223372036854775807 := by rw [ByteArray.size_append]; omega
      have u4 : (x1.extract 0 i.toNat).size + (x1.extract (i + 1).toNat x1.size).size ≤ 9223372036854775807 := by omega
      by_cases y0 : z = 0
      · obtain ⟨r, p', s', e, a, b, g⟩ := ih (((x1.extract 0 i.toNat) ++ (strOfNums [bt x2 q])) ++ (x1.extract i.toNat x1.size)) p3 s3 (by omega) (by rw [ByteArray.size_append, ByteArray.size_append]; omega) (by omega) (by omega)
        rw [ByteArray.size_append, ByteArray.size_append] at a
        refine ⟨r, p', s', ?_, by omega, by omega, by omega⟩
        refine Ev.step (fun k => by simp only [spec_l1Cur_spoilt.l0]; rw [if_pos (by omega), decide_eq_true c]) ?_
        refine Ev.step (fun k => by simp only [spec_l1Cur_spoilt.j1, if_true]; rw [e1, Option.bind_some, e2, Option.bind_some, if_pos j0, if_pos j1, Option.bind_some, e3, Option.bind_some, if_pos y0, if_pos i0, if_pos hi, if_pos u1, if_pos u2, wd]) e
      · by_cases y1 : z = 1
        · obtain ⟨r, p', s', e, a, b, g⟩ := ih (((x1.extract 0 i.toNat) ++ (strOfNums [bt x2 q])) ++ (x1.extract (i + 1).toNat x1.size)) p3 s3 (by omega) (by rw [ByteArray.size_append, ByteArray.size_append]; omega) (by omega) (by omega)
          rw [ByteArray.size_append, ByteArray.size_append] at a
          refine ⟨r, p', s', ?_, by omega, by omega, by omega⟩
          refine Ev.step (fun k => by simp only [spec_l1Cur_spoilt.l0]; rw [if_pos (by omega), decide_eq_true c]) ?_
          refine Ev.step (fun k => by simp only [spec_l1Cur_spoilt.j1, if_true]; rw [e1, Option.bind_some, e2, Option.bind_some, if_pos j0, if_pos j1, Option.bind_some, e3, Option.bind_some, if_neg y0, if_pos y1, if_pos i0, if_pos hi, if_pos u1, wi, if_pos hk, if_pos hj, if_pos u3, wd]) e
        · obtain ⟨r, p', s', e, a, b, g⟩ := ih ((x1.extract 0 i.toNat) ++ (x1.extract (i + 1).toNat x1.size)) p3 s3 (by omega) (by rw [ByteArray.size_append]; omega) (by omega) (by omega)
          rw [ByteArray.size_append] at a
          refine ⟨r, p', s', ?_, by omega, by omega, by omega⟩
          refine Ev.step (fun k => by simp only [spec_l1Cur_spoilt.l0]; rw [if_pos (by omega), decide_eq_true c]) ?_
          refine Ev.step (fun k => by simp only [spec_l1Cur_spoilt.j1, if_true]; rw [e1, Option.bind_some, e2, Option.bind_some, if_pos j0, if_pos j1, Option.bind_some, e3, Option.bind_some, if_neg y0, if_neg y1, if_pos i0, if_pos hi, wi, if_pos hk, if_pos hj, if_pos u4, wd]) e
    · refine ⟨x1, p, s, ?_, by omega, by omega, by omega⟩
      refine Ev.step (fun k => by simp only [spec_l1Cur_spoilt.l0]; rw [if_pos (by omega), decide_eq_false c]) ?_
      exact Ev.step (fun k => by simp only [spec_l1Cur_spoilt.j1, Bool.false_eq_true, if_false]) (Ev.now _)
theorem spoilt_ev {code : List Int} (hc : Bytes code) (x1 x2 : ByteArray) (p s : Int) (g0 : x1.size ≤ 900000) (g1 : 1 ≤ x2.size) (g2 : x2.size ≤ 1000) (h0 : 0 ≤ p) (h1 : p ≤ 999990000) : ∃ r p' s', Ev (fun k => spec_l1Cur_spoilt.f k code p s x1 x2) (r, p', s') ∧ r.size ≤ x1.size + 2 := by
  obtain ⟨z, p1, s1, e1, z0, z1, _, q0, q1⟩ := pick_ok hc p s 2 h0 (by omega) (by omega)
  have z1 := z1 (by omega)
  obtain ⟨d, hd⟩ : ∃ d : Nat, 1 + z = d := ⟨(1 + z).toNat, by omega⟩
  obtain ⟨r, p', s', e, a, b, g⟩ := spoilt_l0_ev hc x2 g1 g2 d x1 p1 s1 (by omega) (by omega) (by omega) (by omega)
  refine ⟨r, p', s', ?_, by omega⟩
  unfold spec_l1Cur_spoilt.f
  exact Ev.congr (fun k => by rw [e1, Option.bind_some, w64 (x := 1 + z) (by omega) (by omega), hd]) e
theorem drawBridge_ok {code : List Int} (hc : Bytes code) : ∃ a b c : Int, spec_DrawBridgePassing.f code = some (a, b, c) := by
  obtain ⟨a, b, p1, s1, e1, q0, q1⟩ := train_ok hc 0 0 (by omega) (by omega)
  obtain ⟨c, p2, s2, e2, q2, q3⟩ := way_ok hc p1 s1 (by omega) (by omega)
  exact ⟨a, b, c, by unfold spec_DrawBridgePassing.f spec_DrawBridgePassing.i.f; rw [e1, Option.bind_some, e2]; rfl⟩
theorem drawEach_ok {code : List Int} (hc : Bytes code) : ∃ a b c d : Int, spec_DrawPassEachOther.f code = some (a, b, c, d) := by
  obtain ⟨a, b, p1, s1, e1, q0, q1⟩ := train_ok hc 0 0 (by omega) (by omega)
  obtain ⟨c, d, p2, s2, e2, q2, q3⟩ := train_ok hc p1 s1 (by omega) (by omega)
  exact ⟨a, b, c, d, by unfold spec_DrawPassEachOther.f spec_DrawPassEachOther.i.f; rw [e1, Option.bind_some, e2]; rfl⟩
theorem drawSeen_ok {code : List Int} (hc : Bytes code) : ∃ (a b c d : Int) (e : Bool), spec_DrawSeenFromTrain.f code = some (a, b, c, d, e) := by
  obtain ⟨a, b, p1, s1, e1, q0, q1⟩ := train_ok hc 0 0 (by omega) (by omega)
  obtain ⟨c, d, p2, s2, e2, q2, q3⟩ := train_ok hc p1 s1 (by omega) (by omega)
  obtain ⟨e, p3, s3, e3, q4, q5⟩ := one_ok hc p2 s2 2 (by omega) (by omega) (by omega)
  exact ⟨a, b, c, d, e, by unfold spec_DrawSeenFromTrain.f spec_DrawSeenFromTrain.i.f; rw [e1, Option.bind_some, e2, Option.bind_some, e3]; rfl⟩
theorem drawWalk_ok {code : List Int} (hc : Bytes code) : ∃ (a b c : Int) (e : Bool), spec_DrawPassWalker.f code = some (a, b, c, e) := by
  obtain ⟨a, b, p1, s1, e1, q0, q1⟩ := train_ok hc 0 0 (by omega) (by omega)
  obtain ⟨c, p2, s2, e2, _, q2, q3⟩ := among_ok hc p1 s1 [1, 2, 5, 6, 20, 100, 101, 0, (-1)] (by omega) (by omega) (by simp) (by simp)
  obtain ⟨e, p3, s3, e3, q4, q5⟩ := one_ok hc p2 s2 2 (by omega) (by omega) (by omega)
  exact ⟨a, b, c, e, by unfold spec_DrawPassWalker.f spec_DrawPassWalker.i.f; rw [e1, Option.bind_some, e2, Option.bind_some, e3]; rfl⟩
theorem drawFrom_ok {code : List Int} (hc : Bytes code) : ∃ a b c : Int, spec_DrawTrainFromTimes.f code = some (a, b, c) := by
  obtain ⟨a, p1, s1, e1, _, q0, q1⟩ := among_ok hc 0 0 [1, 2, 4, 9, 100, 10000, 10001, 0] (by omega) (by omega) (by simp) (by simp)
  obtain ⟨b, p2, s2, e2, q2, q3⟩ := way_ok hc p1 s1 (by omega) (by omega)
  obtain ⟨x, p3, s3, e3, x0, x1, x2, q4, q5⟩ := pick_ok hc p2 s2 12 (by omega) (by omega) (by omega)
  exact ⟨_, _, _, by unfold spec_DrawTrainFromTimes.f spec_DrawTrainFromTimes.i.f; rw [e1, Option.bind_some, e2, Option.bind_some, e3]; rfl⟩
theorem sureTrain_good {code : List Int} (hc : Bytes code) (p s : Int) (h0 : 0 ≤ p) (h1 : p ≤ 999998000) : ∃ a b p' s', spec_l1Cur_sureTrain.f code p s = some (a, b, p', s') ∧ okT a b = true ∧ p ≤ p' ∧ p' ≤ p + 6 := by
  obtain ⟨x, p1, s1, e1, hm, q0, q1⟩ := among_ok hc p s [1, 10, 60, 80, 120, 1000] h0 (by omega) (by simp) (by simp)
  obtain ⟨y, p2, s2, e2, y0, y1, y2, q2, q3⟩ := pick_ok hc p1 s1 1 (by omega) (by omega) (by omega)
  obtain ⟨z, p3, s3, e3, z0, z1, z2, q4, q5⟩ := pick_ok hc p2 s2 30 (by omega) (by omega) (by omega)
  have y1 := y1 (by omega)
  have z1 := z1 (by omega)
  have hx : 1 ≤ x ∧ x ≤ 1000 := by
    simp only [List.mem_cons, List.not_mem_nil, or_false] at hm
    omega
  refine ⟨x + y, 1 + z, p3, s3, ?_, okT_iff.2 (by omega), by omega, by omega⟩
  unfold spec_l1Cur_sureTrain.f
  rw [e1, Option.bind_some, e2, Option.bind_some, e3, Option.bind_some, w64 (x := x + y) (by omega) (by omega), w64 (x := 1 + z) (by omega) (by omega)]
theorem drawParseTrain_ev {code : List Int} (hc : Bytes code) : ∃ t : ByteArray, Ev (fun k => spec_DrawParseTrain.f k code) t ∧ t.size ≤ 1048576 := by
  obtain ⟨a, b, p1, s1, e1, ok, q0, q1⟩ := sureTrain_good hc 0 0 (by omega) (by omega)
  obtain ⟨c, p2, s2, e2, q2, q3⟩ := one_ok hc p1 s1 3 (by omega) (by omega) (by omega)
  have hl := trT_len ok
  have hz : (mkB (trT a b)).size ≤ 8 := by rw [mkB_size]; exact hl
  unfold spec_DrawParseTrain.f spec_DrawParseTrain.i.f
  cases c with
  | true =>
    obtain ⟨r, p', s', e3, hr⟩ := spoilt_ev hc (mkB (trT a b)) (⟨#[48, 49, 50, 51, 47, 120]⟩ : ByteArray) p2 s2 (by omega) (by decide) (by decide) (by omega) (by omega)
    refine ⟨r, ?_, by omega⟩
    refine Ev.bind (Ev.congr (fun k => by rw [e1, Option.bind_some]) (Ev.bind (tiText_ev a b ok) (Ev.congr (fun k => by rw [e2, Option.bind_some, if_pos rfl]) (Ev.bind e3 (Ev.now _))))) (Ev.now _)
  | false =>
    refine ⟨mkB (trT a b), ?_, by omega⟩
    refine Ev.bind (Ev.congr (fun k => by rw [e1, Option.bind_some]) (Ev.bind (tiText_ev a b ok) (Ev.congr (fun k => by rw [e2, Option.bind_some, if_neg (by simp)]) (Ev.now _)))) (Ev.now _)
theorem gg_one (x : Int) : gg x 1 = 1 := by unfold gg; simp
/-- A train comes back from the times at a pole and at a bridge. -/
theorem from_back {s0 s1 g : Int} (h : okT s0 s1 = true) (g0 : 0 < g) (g1 : g ≤ 100000) (hp : (lo s0 s1).2 = 1) (hn : (lo (g + s0) s1).2 = 1) (hl : (lo (g + s0) s1).1 ≤ 10000) : fromR g (lo s0 s1).1 (lo (g + s0) s1).1 = (s0, 1, s1, 1, true) := by
  have hb := okT_iff.1 h
  have c1 := lo_cross s0 s1
  have c2 := lo_cross (g + s0) s1
  have p1 := lo_pos1 (n := s0) (d := s1) (by omega) (by omega)
  have p2 := lo_le1 (n := s0) (d := s1) (by omega) (by omega)
  rw [hp] at c1
  rw [hn] at c2
  generalize (lo s0 s1).1 = p at *
  generalize (lo (g + s0) s1).1 = n at *
  have hd : (n - p) * s1 = g := by rw [Int.sub_mul]; omega
  have hpn : 0 < n - p := pos_of_mul_pos (show 0 < s1 by omega) (by omega)
  have e1 : lo (g * p) (n - p) = (s0, 1) := lo_of_cross hpn (by omega) (gg_one s0) (by
    rw [Int.mul_one, ← hd, Int.mul_assoc, Int.mul_comm s1 p, c1, Int.mul_one, Int.mul_comm])
  have e2 : lo g (n - p) = (s1, 1) := lo_of_cross hpn (by omega) (gg_one s1) (by rw [Int.mul_one, ← hd, Int.mul_comm])
  unfold fromR
  rw [if_pos (by omega), e1, e2]
section
variable {s : ByteArray} {P : Int × Int × Bool} (hP : (∃ a b, TrText s a b ∧ P = (a, b, true)) ∨ P = (0, 0, false))
include hP
theorem j10_ev : Ev (fun k => laws_FnTrainsPass.j10 k s P.2.2 false P.1 P.2.1) true := by
  rcases hP with ⟨a, b, ⟨h1, h2⟩, rfl⟩ | rfl
  · refine Ev.step (fun k => by simp only [laws_FnTrainsPass.j10, Bool.false_eq_true, if_false, if_true]; rfl) ?_
    have h := implTrainText_ev a b
    rw [if_pos h1] at h
    refine Ev.bind h ?_
    simp only [if_true]
    rw [mkB_toList, toList_eq s, h2, beq_self_eq_true]
    exact Ev.now _
  · exact Ev.step (fun k => by simp only [laws_FnTrainsPass.j10, Bool.false_eq_true, if_false]) (Ev.now _)
theorem j9_ev (a b c : Int) : Ev (fun k => laws_FnTrainsPass.j9 k a b c (fromR a b c).1 (fromR a b c).2.1 (fromR a b c).2.2.1 (fromR a b c).2.2.2.1 (fromR a b c).2.2.2.2 s P.2.2 P.1 P.2.1) true := by
  have e10 := j10_ev hP
  by_cases h : ((1 ≤ a ∧ a ≤ 100000) ∧ (1 ≤ b ∧ b ≤ 10000) ∧ (1 ≤ c ∧ c ≤ 10000)) ∧ b < c
  · have hF : fromR a b c = ((lo (a * b) (c - b)).1, (lo (a * b) (c - b)).2, (lo a (c - b)).1, (lo a (c - b)).2, true) := by unfold fromR; rw [if_pos h]
    have pb := prod_bd (a := a) (b := b) (by omega)
    rw [hF]
    refine Ev.step (fun k => by simp only [laws_FnTrainsPass.j9, if_true]; rw [w64 (x := a * b) (by omega) (by omega), w64 (x := c - b) (by omega) (by omega)]) ?_
    refine Ev.bind (qIs_lo (by omega) (by omega)) ?_
    simp only [if_true]
    refine Ev.bind (qIs_lo (by omega) (by omega)) ?_
    simp only [Bool.not_true]
    exact e10
  · have hF : fromR a b c = (0, 0, 0, 0, false) := by unfold fromR; rw [if_neg h]
    rw [hF]
    exact Ev.step (fun k => by simp only [laws_FnTrainsPass.j9, Bool.false_eq_true, if_false]) e10
variable (a b c w0 w1 r : Int) (m : Bool)
theorem j8_ev : Ev (fun k => laws_FnTrainsPass.j8 k r m (walkR w0 w1 r m).1 (walkR w0 w1 r m).2.1 (walkR w0 w1 r m).2.2 a b c (fromR a b c).1 (fromR a b c).2.1 (fromR a b c).2.2.1 (fromR a b c).2.2.2.1 (fromR a b c).2.2.2.2 s P.2.2 w0 w1 P.1 P.2.1) true := by
  have e9 := j9_ev hP a b c
  by_cases h : (okT w0 w1 = true ∧ (1 ≤ r ∧ r ≤ 100)) ∧ 0 < walkD w1 r m
  · have hW : walkR w0 w1 r m = ((lo w0 (walkD w1 r m)).1, (lo w0 (walkD w1 r m)).2, true) := by unfold walkR; rw [if_pos h]
    have hb := okT_iff.1 h.1.1
    rw [hW]
    cases m with
    | true =>
      have e : wrap64 (w1 + r) = walkD w1 r true := by unfold walkD; rw [if_pos rfl, w64 (by omega) (by omega)]
      refine Ev.step (fun k => by simp only [laws_FnTrainsPass.j8, if_true]; rw [e]) ?_
      refine Ev.bind (qIs_lo h.2 (by omega)) ?_
      simp only [if_true]
      exact e9
    | false =>
      have e : wrap64 (w1 - r) = walkD w1 r false := by unfold walkD; rw [if_neg (by simp), w64 (by omega) (by omega)]
      refine Ev.step (fun k => by simp only [laws_FnTrainsPass.j8, if_true, Bool.false_eq_true, if_false]; rw [e]) ?_
      refine Ev.bind (qIs_lo h.2 (by omega)) ?_
      simp only [if_true]
      exact e9
  · have hW : walkR w0 w1 r m = (0, 0, false) := by unfold walkR; rw [if_neg h]
    rw [hW]
    exact Ev.step (fun k => by simp only [laws_FnTrainsPass.j8, Bool.false_eq_true, if_false]) e9
variable (u0 u1 v0 v1 : Int) (g : Bool)
theorem j6_ev : Ev (fun k => laws_FnTrainsPass.j6 k g (seenR u0 u1 v0 v1 g).1 (seenR u0 u1 v0 v1 g).2.1 (seenR u0 u1 v0 v1 g).2.2 r m (walkR w0 w1 r m).1 (walkR w0 w1 r m).2.1 (walkR w0 w1 r m).2.2 a b c (fromR a b c).1 (fromR a b c).2.1 (fromR a b c).2.2.1 (fromR a b c).2.2.2.1 (fromR a b c).2.2.2.2 s P.2.2 false u0 u1 v0 v1 w0 w1 P.1 P.2.1) true := by
  have e8 := j8_ev hP a b c w0 w1 r m
  by_cases h : (okT u0 u1 = true ∧ okT v0 v1 = true) ∧ seenD u1 v1 g ≠ 0
  · have hS : seenR u0 u1 v0 v1 g = ((lo v0 (seenD u1 v1 g)).1, (lo v0 (seenD u1 v1 g)).2, true) := by unfold seenR; rw [if_pos h]
    have hb := okT_iff.1 h.1.1
    have gb := okT_iff.1 h.1.2
    have bd := seenD_bd h.1 g
    have w1_ : wrap64 (u1 - v1) = u1 - v1 := w64 (by omega) (by omega)
    have w2_ : wrap64 (-(u1 - v1)) = -(u1 - v1) := w64 (by omega) (by omega)
    have e7 : ∀ x : Int, (g = false → x = seenD u1 v1 false) → Ev (fun k => laws_FnTrainsPass.j7 k g (lo v0 (seenD u1 v1 g)).1 (lo v0 (seenD u1 v1 g)).2 r m (walkR w0 w1 r m).1 (walkR w0 w1 r m).2.1 (walkR w0 w1 r m).2.2 a b c (fromR a b c).1 (fromR a b c).2.1 (fromR a b c).2.2.1 (fromR a b c).2.2.2.1 (fromR a b c).2.2.2.2 s P.2.2 x u0 u1 v0 v1 w0 w1 P.1 P.2.1) true := by
      intro x hx
      cases g with
      | true =>
        have e : wrap64 (u1 + v1) = seenD u1 v1 true := by unfold seenD; rw [if_pos rfl, w64 (by omega) (by omega)]
        refine Ev.step (fun k => by simp only [laws_FnTrainsPass.j7, if_true]; rw [e]) ?_
        refine Ev.bind (qIs_lo (by omega) (by omega)) ?_
        simp only [if_true]
        exact e8
      | false =>
        refine Ev.step (fun k => by simp only [laws_FnTrainsPass.j7, Bool.false_eq_true, if_false]; rw [hx rfl]) ?_
        refine Ev.bind (qIs_lo (by omega) (by omega)) ?_
        simp only [if_true]
        exact e8
    rw [hS]
    refine Ev.step (fun k => by simp only [laws_FnTrainsPass.j6, Bool.false_eq_true, if_false, if_true]; rw [w1_, w2_]) ?_
    by_cases q : u1 - v1 < 0
    · refine Ev.congr (fun k => by rw [if_pos q]) (e7 _ (fun _ => ?_))
      unfold seenD
      rw [if_neg (by simp), if_pos (by omega)]
    · refine Ev.congr (fun k => by rw [if_neg q]) (e7 _ (fun _ => ?_))
      unfold seenD
      rw [if_neg (by simp), if_neg (by omega)]
  · have hS : seenR u0 u1 v0 v1 g = (0, 0, false) := by unfold seenR; rw [if_neg h]
    rw [hS]
    exact Ev.step (fun k => by simp only [laws_FnTrainsPass.j6, Bool.false_eq_true, if_false]) e8
variable (r0 r1 s0 s1 : Int)
theorem j5_ev : Ev (fun k => laws_FnTrainsPass.j5 k (eachR r0 r1 s0 s1).1 (eachR r0 r1 s0 s1).2.1 (eachR r0 r1 s0 s1).2.2 (overR r0 r1 s0 s1).1 (overR r0 r1 s0 s1).2.1 (overR r0 r1 s0 s1).2.2 g (seenR u0 u1 v0 v1 g).1 (seenR u0 u1 v0 v1 g).2.1 (seenR u0 u1 v0 v1 g).2.2 r m (walkR w0 w1 r m).1 (walkR w0 w1 r m).2.1 (walkR w0 w1 r m).2.2 a b c (fromR a b c).1 (fromR a b c).2.1 (fromR a b c).2.2.1 (fromR a b c).2.2.2.1 (fromR a b c).2.2.2.2 s P.2.2 false r0 r1 s0 s1 u0 u1 v0 v1 w0 w1 P.1 P.2.1) true := by
  have e6 := j6_ev hP a b c w0 w1 r m u0 u1 v0 v1 g
  by_cases h : okT r0 r1 = true ∧ okT s0 s1 = true
  · have hE : eachR r0 r1 s0 s1 = ((lo (r0 + s0) (r1 + s1)).1, (lo (r0 + s0) (r1 + s1)).2, true) := by unfold eachR; rw [if_pos h]
    have hb := okT_iff.1 h.1
    have gb := okT_iff.1 h.2
    rw [hE]
    refine Ev.step (fun k => by simp only [laws_FnTrainsPass.j5, Bool.false_eq_true, if_false, if_true]; rw [w64 (x := r0 + s0) (by omega) (by omega), w64 (x := r1 + s1) (by omega) (by omega), w64 (x := r1 - s1) (by omega) (by omega)]) ?_
    refine Ev.bind (qIs_lo (by omega) (by omega)) ?_
    simp only [if_true]
    by_cases q : s1 < r1
    · have hO : overR r0 r1 s0 s1 = ((lo (r0 + s0) (r1 - s1)).1, (lo (r0 + s0) (r1 - s1)).2, true) := by unfold overR; rw [if_pos ⟨h, q⟩]
      rw [hO]
      simp only [if_true]
      refine Ev.bind (qIs_lo (by omega) (by omega)) ?_
      simp only [Bool.not_true]
      exact e6
    · have hO : overR r0 r1 s0 s1 = (0, 0, false) := by unfold overR; rw [if_neg (fun z => q z.2)]
      rw [hO]
      simp only [Bool.false_eq_true, if_false]
      exact e6
  · have hE : eachR r0 r1 s0 s1 = (0, 0, false) := by unfold eachR; rw [if_neg h]
    have hO : overR r0 r1 s0 s1 = (0, 0, false) := by unfold overR; rw [if_neg (fun z => h z.1)]
    rw [hE, hO]
    exact Ev.step (fun k => by simp only [laws_FnTrainsPass.j5, Bool.false_eq_true, if_false]) e6
end
theorem each_over (r0 r1 s0 s1 : Int) : ((eachR r0 r1 s0 s1).2.2 = true ∧ (overR r0 r1 s0 s1).2.2 = decide (r1 > s1)) ∨ ((eachR r0 r1 s0 s1).2.2 = false ∧ (overR r0 r1 s0 s1).2.2 = false) := by
  unfold eachR overR
  by_cases h : okT r0 r1 = true ∧ okT s0 s1 = true
  · rw [if_pos h]
    by_cases q : s1 < r1
    · rw [if_pos ⟨h, q⟩]
      exact .inl ⟨rfl, (decide_eq_true q).symm⟩
    · rw [if_neg (fun z => q z.2)]
      exact .inl ⟨rfl, (decide_eq_false q).symm⟩
  · rw [if_neg h, if_neg (fun z => h z.1)]
    exact .inr ⟨rfl, rfl⟩
theorem j4_ev {more : List Int} (hb : Bytes more) : Ev (fun k => laws_FnTrainsPass.j4 k more) true := by
  obtain ⟨r0, r1, s0, s1, d1⟩ := drawEach_ok hb
  obtain ⟨u0, u1, v0, v1, g, d2⟩ := drawSeen_ok hb
  obtain ⟨w0, w1, r, m, d3⟩ := drawWalk_ok hb
  obtain ⟨a, b, c, d4⟩ := drawFrom_ok hb
  obtain ⟨t, d5, ht⟩ := drawParseTrain_ev hb
  obtain ⟨P, p1, p2, hP⟩ := parseTrain_both t ht
  have e5 := j5_ev hP a b c w0 w1 r m u0 u1 v0 v1 g r0 r1 s0 s1
  refine Ev.step (fun k => by simp only [laws_FnTrainsPass.j4, d1, d2, d3, d4, Option.bind_some]; rfl) ?_
  refine Ev.bind (implEach_ev r0 r1 s0 s1) (Ev.bind (specEach_ev r0 r1 s0 s1) (Ev.bind (implOver_ev r0 r1 s0 s1) (Ev.bind (specOver_ev r0 r1 s0 s1) (Ev.bind (implSeen_ev u0 u1 v0 v1 g) (Ev.bind (specSeen_ev u0 u1 v0 v1 g) (Ev.bind (implWalk_ev w0 w1 r m) (Ev.bind (specWalk_ev w0 w1 r m) (Ev.bind (implFrom_ev a b c) (Ev.bind (specFrom_ev a b c) (Ev.bind d5 (Ev.bind p2 (Ev.bind p1 ?_))))))))))))
  simp only [bne_self_eq_false, beq_self_eq_true, Bool.not_true, Bool.or_self, Bool.false_eq_true, if_false, if_true]
  rcases each_over r0 r1 s0 s1 with ⟨h1, h2⟩ | ⟨h1, h2⟩
  · refine Ev.congr (fun k => by rw [if_pos h1, h2, bne_self_eq_false]) ?_
    rw [h2] at e5
    exact e5
  · refine Ev.congr (fun k => by rw [h1, if_neg (by simp), h2, bne_self_eq_false]) ?_
    rw [h1, h2] at e5
    exact e5
section
variable {more : List Int} (hb : Bytes more)
include hb
variable (s0 s1 g : Int)
theorem j2_ev : Ev (fun k => laws_FnTrainsPass.j2 k more g (bridgeR s0 s1 g).1 (bridgeR s0 s1 g).2.1 (bridgeR s0 s1 g).2.2 (poleR s0 s1).1 (poleR s0 s1).2.1 false s0 s1) true := by
  have e4 := j4_ev hb
  have no : ∀ x y : Int, Ev (fun k => laws_FnTrainsPass.j3 k more g x y false s0 s1) true := fun x y => Ev.step (fun k => by simp only [laws_FnTrainsPass.j3, Bool.false_eq_true, if_false]) e4
  by_cases h : okT s0 s1 = true ∧ (0 ≤ g ∧ g ≤ 100000)
  · have hB : bridgeR s0 s1 g = ((lo (g + s0) s1).1, (lo (g + s0) s1).2, true) := by unfold bridgeR; rw [if_pos h]
    have hp : poleR s0 s1 = ((lo s0 s1).1, (lo s0 s1).2, true) := by unfold poleR; rw [if_pos h.1]
    rw [hB, hp]
    refine Ev.step (fun k => by simp only [laws_FnTrainsPass.j2, Bool.false_eq_true, if_false, if_true]; rfl) ?_
    by_cases c1 : g > 0
    · by_cases c2 : (lo s0 s1).2 = 1
      · by_cases c3 : (lo (g + s0) s1).2 = 1
        · refine Ev.congr (fun k => by rw [if_pos c1, if_pos c2, if_pos c3]) ?_
          by_cases c4 : (lo (g + s0) s1).1 ≤ 10000
          · rw [decide_eq_true c4]
            have hF := implFrom_ev g (lo s0 s1).1 (lo (g + s0) s1).1
            rw [from_back h.1 c1 h.2.2 c2 c3 c4] at hF
            refine Ev.step (fun k => by simp only [laws_FnTrainsPass.j3, if_true]; rfl) ?_
            refine Ev.bind hF ?_
            simp only [if_true]
            exact e4
          · rw [decide_eq_false c4]
            exact no _ _
        · exact Ev.congr (fun k => by rw [if_pos c1, if_pos c2, if_neg c3]) (no _ _)
      · exact Ev.congr (fun k => by rw [if_pos c1, if_neg c2]) (no _ _)
    · exact Ev.congr (fun k => by rw [if_neg c1]) (no _ _)
  · have hB : bridgeR s0 s1 g = (0, 0, false) := by unfold bridgeR; rw [if_neg h]
    rw [hB]
    exact Ev.step (fun k => by simp only [laws_FnTrainsPass.j2, Bool.false_eq_true, if_false]) (no 0 (poleR s0 s1).1)
theorem j1_ev : Ev (fun k => laws_FnTrainsPass.j1 k more g (bridgeR s0 s1 g).1 (bridgeR s0 s1 g).2.1 (bridgeR s0 s1 g).2.2 (poleR s0 s1).1 (poleR s0 s1).2.1 (insideR s0 s1 g).1 (insideR s0 s1 g).2.1 (insideR s0 s1 g).2.2 s0 s1) true := by
  have e2 := j2_ev hb s0 s1 g
  by_cases h : okT s0 s1 = true ∧ (0 ≤ g ∧ g ≤ 100000)
  · have hB : bridgeR s0 s1 g = ((lo (g + s0) s1).1, (lo (g + s0) s1).2, true) := by unfold bridgeR; rw [if_pos h]
    have hb := okT_iff.1 h.1
    rw [hB] at e2 ⊢
    refine Ev.step (fun k => by simp only [laws_FnTrainsPass.j1, if_true]; rw [w64 (x := s0 + g) (by omega) (by omega), Int.add_comm s0 g, w64 (x := g - s0) (by omega) (by omega)]) ?_
    refine Ev.bind (qIs_lo (by omega) (by omega)) ?_
    simp only [if_true]
    by_cases q : s0 ≤ g
    · have hI : insideR s0 s1 g = ((lo (g - s0) s1).1, (lo (g - s0) s1).2, true) := by unfold insideR; rw [if_pos ⟨h.1, h.2, q⟩]
      rw [hI]
      simp only [if_true]
      refine Ev.bind (qIs_lo (by omega) (by omega)) ?_
      simp only [Bool.not_true]
      exact e2
    · have hI : insideR s0 s1 g = (0, 0, false) := by unfold insideR; rw [if_neg (fun z => q z.2.2)]
      rw [hI]
      simp only [Bool.false_eq_true, if_false]
      exact e2
  · have hB : bridgeR s0 s1 g = (0, 0, false) := by unfold bridgeR; rw [if_neg h]
    have hI : insideR s0 s1 g = (0, 0, false) := by unfold insideR; rw [if_neg (fun z => h ⟨z.1, z.2.1⟩)]
    rw [hB] at e2 ⊢
    rw [hI]
    exact Ev.step (fun k => by simp only [laws_FnTrainsPass.j1, Bool.false_eq_true, if_false]) e2
theorem j0_ev (t : ByteArray) (ht : okT s0 s1 = true → t = mkB (trT s0 s1)) : Ev (fun k => laws_FnTrainsPass.j0 k more g (bridgeR s0 s1 g).1 (bridgeR s0 s1 g).2.1 (bridgeR s0 s1 g).2.2 (poleR s0 s1).1 (poleR s0 s1).2.1 (poleR s0 s1).2.2 (insideR s0 s1 g).1 (insideR s0 s1 g).2.1 (insideR s0 s1 g).2.2 t false s0 s1) true := by
  have e1 := j1_ev hb s0 s1 g
  by_cases h : okT s0 s1 = true
  · have hp : poleR s0 s1 = ((lo s0 s1).1, (lo s0 s1).2, true) := by unfold poleR; rw [if_pos h]
    have hb := okT_iff.1 h
    have hl := trT_len h
    have hT := (parseTrain_text (s := mkB (trT s0 s1)) (by rw [mkB_size]; omega) ⟨h, mkB_list _⟩).2
    rw [hp] at e1 ⊢
    rw [ht h]
    refine Ev.step (fun k => by simp only [laws_FnTrainsPass.j0, Bool.false_eq_true, if_false, if_true]; rfl) ?_
    refine Ev.bind hT ?_
    refine Ev.bind (qIs_lo (by omega) (by omega)) ?_
    simp only [if_true, beq_self_eq_true, Bool.not_true, Bool.or_self, Bool.false_eq_true, if_false]
    exact e1
  · have hp : poleR s0 s1 = (0, 0, false) := by unfold poleR; rw [if_neg h]
    rw [hp] at e1 ⊢
    exact Ev.step (fun k => by simp only [laws_FnTrainsPass.j0, Bool.false_eq_true, if_false]) e1
end
theorem pole_ok (s0 s1 : Int) : (poleR s0 s1).2.2 = okT s0 s1 := by
  unfold poleR
  by_cases h : okT s0 s1 = true
  · rw [if_pos h, h]
  · rw [if_neg h]; rw [Bool.not_eq_true] at h; rw [h]
theorem bridge_inside (s0 s1 g : Int) : ((bridgeR s0 s1 g).2.2 = true ∧ okT s0 s1 = true ∧ (insideR s0 s1 g).2.2 = decide (s0 ≤ g)) ∨ ((bridgeR s0 s1 g).2.2 = false ∧ (insideR s0 s1 g).2.2 = false) := by
  unfold bridgeR insideR
  by_cases h : okT s0 s1 = true ∧ (0 ≤ g ∧ g ≤ 100000)
  · rw [if_pos h]
    by_cases q : s0 ≤ g
    · rw [if_pos ⟨h.1, h.2, q⟩]
      exact .inl ⟨rfl, h.1, (decide_eq_true q).symm⟩
    · rw [if_neg (fun z => q z.2.2)]
      exact .inl ⟨rfl, h.1, (decide_eq_false q).symm⟩
  · rw [if_neg h, if_neg (fun z => h ⟨z.1, z.2.1⟩)]
    exact .inr ⟨rfl, rfl⟩
theorem text_parts (s0 s1 : Int) : ∃ t : ByteArray, (if okT s0 s1 = true then (mkB (trT s0 s1), true) else ((⟨#[]⟩ : ByteArray), false)) = (t, okT s0 s1) ∧ (okT s0 s1 = true → t = mkB (trT s0 s1)) := by
  by_cases h : okT s0 s1 = true
  · exact ⟨_, by rw [if_pos h, h], fun _ => rfl⟩
  · refine ⟨⟨#[]⟩, ?_, fun z => absurd z h⟩
    rw [if_neg h]
    rw [Bool.not_eq_true] at h
    rw [h]
theorem FnTrainsPass : laws_FnTrainsPass.Pure := by
  intro l0 l1 _ h0 _ h1
  refine Ev.rounds ?_
  unfold laws_FnTrainsPass.f laws_big.f
  by_cases c0 : (l0.length : Int) > 1048576
  · exact Ev.congr (fun k => by rw [if_pos c0]; rfl) (Ev.now _)
  refine Ev.congr (fun k => by rw [if_neg c0, Option.bind_some, w64 (x := 1048576 - (l0.length : Int)) (by omega) (by omega)]) ?_
  by_cases c1 : (l1.length : Int) > 1048576 - (l0.length : Int)
  · exact Ev.congr (fun k => by rw [if_pos (decide_eq_true c1)]) (Ev.now _)
  refine Ev.congr (fun k => by rw [if_neg (by simpa using c1)]) ?_
  have b0 := bytes_of (show l0.length ≤ 1048576 by omega) h0
  have b1 := bytes_of (show l1.length ≤ 1048576 by omega) h1
  obtain ⟨s0, s1, g, d⟩ := drawBridge_ok b0
  obtain ⟨t, t1, t2⟩ := text_parts s0 s1
  have x1 := implTrainText_ev s0 s1
  have x2 := specTrainText_ev s0 s1
  rw [t1] at x1 x2
  simp only [d, Option.bind_some]
  have e0 := j0_ev b1 s0 s1 g t t2
  refine Ev.bind (implBridge_ev s0 s1 g) (Ev.bind (specBridge_ev s0 s1 g) (Ev.bind (implPole_ev s0 s1) (Ev.bind (specPole_ev s0 s1) (Ev.bind (implInside_ev s0 s1 g) (Ev.bind (specInside_ev s0 s1 g) (Ev.bind x1 (Ev.bind x2 ?_)))))))
  simp only [isTrain_eq, spec_IsTrain.f, tiGood_eq, Option.bind_some, pole_ok, bne_self_eq_false, Bool.false_eq_true, if_false, if_true]
  rw [pole_ok] at e0
  rcases bridge_inside s0 s1 g with ⟨h1, h2, h3⟩ | ⟨h1, h2⟩
  · refine Ev.congr (fun k => by rw [if_pos h1, if_pos h2, h3, bne_self_eq_false]) ?_
    rw [h3] at e0
    exact e0
  · refine Ev.congr (fun k => by rw [h1, if_neg (by simp), h2, bne_self_eq_false]) ?_
    rw [h1, h2] at e0
    exact e0
end Go.Proofs.YtnbmplhcbliclaaGreatDoor.Pure
