/- The program's MostInSiding returns what the reference's MostInSiding returns, for all arguments. No conditions. -/
import Derived.Test.YtoehcikfjipcaaaQNx5
import Derived.Test.YtoehcikfjipcaaaPlain
set_option linter.unusedVariables false
set_option linter.unusedSimpArgs false
namespace Go.Proofs.Ytoehcikfjipcaaa.Pure
open Go.RowKit Go.Proofs.Ytoehcikfjipcaaa.QN Go.Proofs.YtoehcikfjipcaaaW.PrintWords Go.Proofs.YtoehcikfjipcaaaW.PrintLast Go.Proofs.YtoehcikfjipcaaaW.PrintMore Go.Proofs.Ytoehcikfjipcaaa.Plain
theorem in_eq (a b c : Int) : spec_l1In.f a b c = some (decide (b ≤ a ∧ a ≤ c)) := by
  unfold spec_l1In.f
  by_cases h : a ≥ b
  · rw [if_pos h]; congr 1; simp; omega
  · rw [if_neg h]; congr 1; simp; omega
theorem within_eq (a b c : Int) : impl_within.f a b c = some (decide (b ≤ a ∧ a ≤ c)) := by
  unfold impl_within.f
  by_cases h : a ≥ b
  · rw [if_pos h]; congr 1; simp; omega
  · rw [if_neg h]; congr 1; simp; omega
theorem w64 {x : Int} (h1 : -9223372036854775808 ≤ x) (h2 : x ≤ 9223372036854775807) : wrap64 x = x := by unfold wrap64; omega
def okTrain (x : S69) : Bool := decide (1 ≤ x.f0 ∧ x.f0 ≤ 1000) && decide (1 ≤ x.f1 ∧ x.f1 ≤ 100)
def goodTrains (l : List S69) (a : Int) : Bool := decide (1 ≤ (l.length : Int) ∧ (l.length : Int) ≤ 12) && (l.all okTrain && decide (0 ≤ a ∧ a ≤ 100000))
theorem okTrain_iff {x : S69} : okTrain x = true ↔ (1 ≤ x.f0 ∧ x.f0 ≤ 1000) ∧ (1 ≤ x.f1 ∧ x.f1 ≤ 100) := by
  unfold okTrain; rw [Bool.and_eq_true, decide_eq_true_iff, decide_eq_true_iff]
theorem tiGood_eq (x : S69) : spec_tiGood.f x.f0 x.f1 = some (okTrain x) := by
  unfold spec_tiGood.f okTrain
  simp only [in_eq, Option.bind_some]
  by_cases a : decide (1 ≤ x.f0 ∧ x.f0 ≤ 1000) = true
  · simp [a]
  · simp [a]
theorem isTrain_eq (x : S69) : impl_IsTrain.f x.f0 x.f1 = some (okTrain x) := by
  unfold impl_IsTrain.f impl_isRate.f okTrain
  simp only [within_eq, Option.bind_some]
  by_cases a : decide (1 ≤ x.f0 ∧ x.f0 ≤ 1000) = true
  · simp [a]
  · simp [a]
theorem tiList_l0_ev (l : List S69) (hl : l.length ≤ 12) : ∀ i : Int, 0 ≤ i → i ≤ l.length → Ev (fun k => spec_tiList.l0 k l l.length i) ((l.drop i.toNat).all okTrain) := by
  refine downI ?_ (fun i h0 h1 ih => ?_)
  · refine Ev.step (fun k => by simp only [spec_tiList.l0]; rw [if_neg (by omega)]) ?_
    rw [List.drop_of_length_le (by omega)]
    exact Ev.now _
  · rw [drop_get l z69 i h0 h1, List.all_cons]
    have st : ∀ k, spec_tiList.l0 (k + 1) l l.length i = if okTrain (rd_T69 l i) = true then spec_tiList.l0 k l l.length (i + 1) else some false := fun k => by
      simp only [spec_tiList.l0, tiGood_eq, Option.bind_some]; rw [if_pos h1, if_pos h0, if_pos h1, w64 (x := i + 1) (by omega) (by omega)]
    show Ev _ (okTrain (rd_T69 l i) && _)
    cases a : okTrain (rd_T69 l i)
    · exact Ev.step (fun k => by rw [st, a]; rfl) (Ev.now _)
    · exact Ev.step (fun k => by rw [st, a]; rfl) ih
theorem tiList_ev (l : List S69) (a : Int) : Ev (fun k => spec_tiList.f k l a) (goodTrains l a) := by
  unfold spec_tiList.f goodTrains spec_tiWay.f
  simp only [in_eq, Option.bind_some]
  by_cases h : 1 ≤ (l.length : Int) ∧ (l.length : Int) ≤ 12
  · simp only [h, and_self, decide_true, if_true, Bool.true_and]
    by_cases h2 : 0 ≤ a ∧ a ≤ 100000
    · simp only [h2, and_self, decide_true, Bool.and_true]
      refine Ev.step (fun k => by simp only [spec_tiList.j0]; rw [if_neg (by simp)]) ?_
      exact tiList_l0_ev l (by omega) 0 (by omega) (by omega)
    · simp only [h2, decide_false, Bool.and_false]
      exact Ev.step (fun k => by simp only [spec_tiList.j0]; rw [if_pos (by simp)]) (Ev.now _)
  · simp only [h, decide_false, Bool.false_and, Bool.false_eq_true, if_false]
    exact Ev.step (fun k => by simp only [spec_tiList.j0, if_true]) (Ev.now _)
theorem areTrains_1_eq (x : S69) : impl_areTrains_1.f x.f0 x.f1 = some (!okTrain x) := by
  unfold impl_areTrains_1.f
  rw [isTrain_eq, Option.bind_some]
theorem indexTrain_ev (l : List S69) (hl : l.length ≤ 12) : ∀ i : Int, 0 ≤ i → i ≤ l.length → ∃ r : Int, Ev (fun k => impl_Train_83.l0 k l l.length i) r ∧ decide (r ≥ 0) = !((l.drop i.toNat).all okTrain) := by
  refine downI ?_ (fun i h0 h1 ih => ?_)
  · refine ⟨-1, Ev.step (fun k => by simp only [impl_Train_83.l0]; rw [if_neg (by omega)]) (Ev.now _), ?_⟩
    rw [List.drop_of_length_le (by omega)]
    rfl
  · rw [drop_get l z69 i h0 h1, List.all_cons]
    have st : ∀ k, impl_Train_83.l0 (k + 1) l l.length i = if (!okTrain (rd_T69 l i)) = true then some i else impl_Train_83.l0 k l l.length (i + 1) := fun k => by
      simp only [impl_Train_83.l0, areTrains_1_eq, Option.bind_some]; rw [if_pos h1, if_pos h0, if_pos h1, w64 (x := i + 1) (by omega) (by omega)]
    show ∃ r : Int, _ ∧ _ = !(okTrain (rd_T69 l i) && _)
    cases a : okTrain (rd_T69 l i)
    · exact ⟨i, Ev.step (fun k => by rw [st, a]; rfl) (Ev.now i), by simp [h0]⟩
    · obtain ⟨r, h2, h3⟩ := ih
      exact ⟨r, Ev.step (fun k => by rw [st, a]; rfl) h2, by simpa using h3⟩
/-- Before the way is looked at. -/
def goodTr (l : List S69) : Bool := decide (1 ≤ (l.length : Int) ∧ (l.length : Int) ≤ 12) && l.all okTrain
theorem areTrains_ev (l : List S69) : Ev (fun k => impl_areTrains.f k l) (goodTr l) := by
  unfold impl_areTrains.f goodTr
  simp only [within_eq, Option.bind_some]
  by_cases h : 1 ≤ (l.length : Int) ∧ (l.length : Int) ≤ 12
  · simp only [h, and_self, decide_true, if_true, Bool.true_and]
    obtain ⟨r, h1, h2⟩ := indexTrain_ev l (by omega) 0 (by omega) (by omega)
    unfold impl_Train_72.f impl_Train_83.f
    refine Ev.bind (Ev.bind h1 (Ev.now _)) ?_
    rw [h2]
    simp only [Bool.not_not]
    exact Ev.now _
  · simp only [h, decide_false, Bool.false_and, Bool.false_eq_true, if_false]
    exact Ev.now _
/-- Two strictly increasing lists with the same members are one. -/
theorem strict_ext : ∀ {l m : List Int}, l.Pairwise (· < ·) → m.Pairwise (· < ·) → (∀ x, x ∈ l ↔ x ∈ m) → l = m := by
  intro l
  induction l with
  | nil =>
    intro m _ _ h
    cases m with
    | nil => rfl
    | cons b m => exact absurd ((h b).2 List.mem_cons_self) (by simp)
  | cons a l ih =>
    intro m hl hm h
    cases m with
    | nil => exact absurd ((h a).1 List.mem_cons_self) (by simp)
    | cons b m =>
      obtain ⟨hl1, hl2⟩ := List.pairwise_cons.1 hl
      obtain ⟨hm1, hm2⟩ := List.pairwise_cons.1 hm
      have e : a = b := by
        rcases List.mem_cons.1 ((h a).1 List.mem_cons_self) with e | e
        · exact e
        · rcases List.mem_cons.1 ((h b).2 List.mem_cons_self) with e2 | e2
          · exact e2.symm
          · have := hl1 _ e2
            have := hm1 _ e
            omega
      subst e
      rw [ih hl2 hm2 (fun x => ?_)]
      constructor
      · intro hx
        rcases List.mem_cons.1 ((h x).1 (List.mem_cons_of_mem _ hx)) with e | e
        · have := hl1 _ hx; omega
        · exact e
      · intro hx
        rcases List.mem_cons.1 ((h x).2 (List.mem_cons_of_mem _ hx)) with e | e
        · have := hm1 _ hx; omega
        · exact e
theorem arr_get (zs : List Int) (j : Nat) (h : j < zs.length) : zs.toArray[j]! = zs[j] := by simp [h]
theorem compact_mem (zs : List Int) (x : Int) : x ∈ Lib.compact zs ↔ x ∈ zs := by
  unfold Lib.compact Lib.compactUpTo
  rw [List.mem_map]
  constructor
  · rintro ⟨j, hj, rfl⟩
    have h1 := List.mem_range.1 (List.mem_filter.1 hj).1
    rw [arr_get zs j h1]
    exact List.getElem_mem h1
  · intro hx
    obtain ⟨j, hj, rfl⟩ := List.getElem_of_mem hx
    have key : ∀ j (h : j < zs.length), ∃ a, a ∈ (List.range zs.length).filter (Lib.keeps zs.toArray) ∧ zs.toArray[a]! = zs[j] := by
      intro j
      induction j with
      | zero => intro h; exact ⟨0, List.mem_filter.2 ⟨List.mem_range.2 h, by simp [Lib.keeps]⟩, arr_get zs 0 h⟩
      | succ j ih =>
        intro h
        by_cases e : zs[j + 1] = zs[j]
        · rw [e]; exact ih (by omega)
        · refine ⟨j + 1, List.mem_filter.2 ⟨List.mem_range.2 h, ?_⟩, arr_get zs _ h⟩
          unfold Lib.keeps
          rw [decide_eq_true_iff]
          right
          rw [arr_get zs _ h, show j + 1 - 1 = j by omega, arr_get zs j (by omega)]
          exact e
    exact key j hj
theorem compact_strict (zs : List Int) (h : zs.Pairwise (· ≤ ·)) : (Lib.compact zs).Pairwise (· < ·) := by
  unfold Lib.compact Lib.compactUpTo
  rw [List.pairwise_map]
  have le : ∀ i j (hi : i < zs.length) (hj : j < zs.length), i ≤ j → zs[i] ≤ zs[j] := by
    intro i j hi hj hij
    by_cases e : i = j
    · subst e; omega
    · exact List.pairwise_iff_getElem.1 h i j hi hj (by omega)
  refine List.Pairwise.imp_of_mem ?_ (List.Pairwise.filter _ (List.pairwise_lt_range (n := zs.length)))
  intro a b ha hb hab
  obtain ⟨hb1, hb2⟩ := List.mem_filter.1 hb
  have ha1 := List.mem_range.1 (List.mem_filter.1 ha).1
  have hb1 := List.mem_range.1 hb1
  unfold Lib.keeps at hb2
  rw [decide_eq_true_iff] at hb2
  rw [arr_get zs a ha1, arr_get zs b hb1]
  rcases hb2 with hb2 | hb2
  · omega
  · rw [arr_get zs b hb1, arr_get zs (b - 1) (by omega)] at hb2
    have h1 := le a (b - 1) ha1 (by omega) (by omega)
    have h2 := le (b - 1) b (by omega) hb1 (by omega)
    omega
/-- Sorted, each once: the one strictly increasing list with these members. -/
def sorted1 (l : List Int) : List Int := Lib.compact (l.mergeSort fun x y => decide (x ≤ y))
theorem sorted1_strict (l : List Int) : (sorted1 l).Pairwise (· < ·) := by
  refine compact_strict _ ?_
  have h := List.pairwise_mergeSort (le := fun (x y : Int) => decide (x ≤ y)) (fun a b c h1 h2 => by simp at *; omega) (fun a b => by simp; omega) l
  exact h.imp (fun h => by simpa using h)
theorem sorted1_mem (l : List Int) (x : Int) : x ∈ sorted1 l ↔ x ∈ l := by
  unfold sorted1
  rw [compact_mem]
  exact (List.mergeSort_perm l _).mem_iff
theorem sorted1_len (l : List Int) : (sorted1 l).length ≤ l.length := by
  unfold sorted1 Lib.compact Lib.compactUpTo
  rw [List.length_map]
  refine Nat.le_trans (List.length_filter_le _ _) ?_
  rw [List.length_range, List.length_mergeSort]
  exact Nat.le_refl _
theorem l1Has_l0_ev (l : List Int) (x : Int) (hl : l.length ≤ 1048576) : ∀ i : Int, 0 ≤ i → i ≤ l.length → Ev (fun k => spec_l1Has.l0 k x l l.length i) (decide (x ∈ l.drop i.toNat)) := by
  refine downI ?_ (fun i h0 h1 ih => ?_)
  · refine Ev.step (fun k => by simp only [spec_l1Has.l0]; rw [if_neg (by omega)]) ?_
    rw [List.drop_of_length_le (by omega)]
    exact Ev.now _
  · rw [drop_get l 0 i h0 h1]
    by_cases e : rd l i = x
    · rw [decide_eq_true (show x ∈ l.getD i.toNat 0 :: l.drop (i + 1).toNat from by rw [List.mem_cons]; exact .inl e.symm)]
      exact Ev.step (fun k => by simp only [spec_l1Has.l0]; rw [if_pos h1, if_pos h0, if_pos h1, if_pos e]) (Ev.now _)
    · have e2 : decide (x ∈ l.getD i.toNat 0 :: l.drop (i + 1).toNat) = decide (x ∈ l.drop (i + 1).toNat) := by
        rw [decide_eq_decide, List.mem_cons]
        exact ⟨fun h => h.resolve_left (fun h => e h.symm), .inr⟩
      rw [e2]
      exact Ev.step (fun k => by simp only [spec_l1Has.l0]; rw [if_pos h1, if_pos h0, if_pos h1, if_neg e, w64 (x := i + 1) (by omega) (by omega)]) ih
theorem l1Has_ev (l : List Int) (x : Int) (hl : l.length ≤ 1048576) : Ev (fun k => spec_l1Has.f k l x) (decide (x ∈ l)) := by
  have h := l1Has_l0_ev l x hl 0 (by omega) (by omega)
  simp only [Int.toNat_zero, List.drop_zero] at h
  exact h
theorem l1Put_l0_ev (l : List Int) (x : Int) (hl : l.length ≤ 1048576) (hs : l.Pairwise (· < ·)) (hx : x ∉ l) : ∀ i : Int, 0 ≤ i → i ≤ l.length → (∀ y, y ∈ l.take i.toNat → y < x) → ∃ r : List Int, Ev (fun k => spec_l1Put.l0 k l x i) r ∧ r.Pairwise (· < ·) ∧ (∀ y, y ∈ r ↔ y = x ∨ y ∈ l) ∧ r.length = l.length + 1 := by
  have fin : ∀ i : Nat, i ≤ l.length → (∀ y, y ∈ l.take i → y < x) → (∀ y, y ∈ l.drop i → x < y) → (l.take i ++ [x] ++ l.drop i).Pairwise (· < ·) ∧ (∀ y, y ∈ l.take i ++ [x] ++ l.drop i ↔ y = x ∨ y ∈ l) ∧ (l.take i ++ [x] ++ l.drop i).length = l.length + 1 := by
    intro i hi h1 h2
    refine ⟨?_, fun y => ?_, ?_⟩
    · rw [List.pairwise_append, List.pairwise_append]
      refine ⟨⟨hs.sublist (List.take_sublist _ _), by simp, fun a ha b hb => ?_⟩, hs.sublist (List.drop_sublist _ _), fun a ha b hb => ?_⟩
      · rw [List.mem_singleton.1 hb]; exact h1 a ha
      · have hbx := h2 b hb
        rcases List.mem_append.1 ha with ha | ha
        · have := h1 a ha; omega
        · rw [List.mem_singleton.1 ha]; exact hbx
    · have e : y ∈ l ↔ y ∈ l.take i ∨ y ∈ l.drop i := by
        rw [← List.mem_append, List.take_append_drop]
      rw [e, List.mem_append, List.mem_append, List.mem_singleton]
      constructor
      · rintro ((h | h) | h)
        · exact .inr (.inl h)
        · exact .inl h
        · exact .inr (.inr h)
      · rintro (h | h | h)
        · exact .inl (.inr h)
        · exact .inl (.inl h)
        · exact .inr h
    · simp only [List.length_append, List.length_take, List.length_drop, List.length_singleton]
      omega
  refine downI (fun h => ?_) (fun i h0 h1 ih h => ?_)
  · have e : ((l.length : Int)).toNat = l.length := by omega
    refine ⟨l.take l.length ++ [x] ++ l.drop l.length, ?_, fin l.length (Nat.le_refl _) (by rw [e] at h; exact h) (by simp)⟩
    refine Ev.step (fun k => by simp only [spec_l1Put.l0, Option.bind_some]; rw [if_neg (by omega), if_pos (by omega), if_pos (by omega), if_pos (by simp; omega), if_pos (by simp; omega), if_pos (by simp; omega), e]) ?_
    exact Ev.now _
  · have hd := drop_get l 0 i h0 h1
    have hge : rd l i ≠ x := fun e => hx (by rw [← e]; exact get_mem l 0 i h0 h1)
    by_cases c : rd l i < x
    · obtain ⟨r, a1, a2⟩ := ih (by
        intro y hy
        rw [show (i + 1).toNat = i.toNat + 1 by omega, List.take_add_one, List.mem_append] at hy
        rcases hy with hy | hy
        · exact h y hy
        · have hg : l[i.toNat]? = some (rd l i) := by
            unfold rd
            rw [List.getD_eq_getElem?_getD, List.getElem?_eq_getElem (show i.toNat < l.length by omega)]
            rfl
          rw [hg] at hy
          simp at hy
          rw [hy]; exact c)
      exact ⟨r, Ev.step (fun k => by simp only [spec_l1Put.l0]; rw [if_pos h1, if_pos h0, if_pos c, w64 (x := i + 1) (by omega) (by omega)]) a1, a2⟩
    · have hgt : ∀ y, y ∈ l.drop i.toNat → x < y := by
        intro y hy
        have hp := hs.sublist (List.drop_sublist i.toNat l)
        rw [hd] at hp hy
        have hr : l.getD i.toNat 0 = rd l i := rfl
        rw [hr] at hp hy
        obtain ⟨p1, _⟩ := List.pairwise_cons.1 hp
        rcases List.mem_cons.1 hy with rfl | hy
        · omega
        · have := p1 y hy; omega
      refine ⟨l.take i.toNat ++ [x] ++ l.drop i.toNat, ?_, fin i.toNat (by omega) h hgt⟩
      refine Ev.step (fun k => by simp only [spec_l1Put.l0, Option.bind_some]; rw [if_pos h1, if_pos h0, if_neg c, if_neg hge, if_pos (by omega), if_pos (by simp; omega), if_pos (by simp; omega), if_pos (by simp; omega)]) ?_
      exact Ev.now _
theorem l1Put_ev (l : List Int) (x : Int) (hl : l.length ≤ 1048576) (hs : l.Pairwise (· < ·)) (hx : x ∉ l) : ∃ r : List Int, Ev (fun k => spec_l1Put.f k l x) r ∧ r.Pairwise (· < ·) ∧ (∀ y, y ∈ r ↔ y = x ∨ y ∈ l) ∧ r.length = l.length + 1 :=
  l1Put_l0_ev l x hl hs hx 0 (by omega) (by omega) (by simp)
/-- The shorter one, or of two of one length the first one. -/
def bef (l : List S69) (a b : Int) : Prop := (rd_T69 l a).f0 < (rd_T69 l b).f0 ∨ ((rd_T69 l a).f0 = (rd_T69 l b).f0 ∧ a < b)
theorem bef_asymm {l : List S69} {a b : Int} (h1 : bef l a b) (h2 : bef l b a) : False := by
  unfold bef at *
  omega
theorem bef_trans {l : List S69} {a b c : Int} (h1 : bef l a b) (h2 : bef l b c) : bef l a c := by
  unfold bef at *
  omega
/-- Behind the search: what the reference does with the least one that is left (or -1). -/
def afterP (l : List S69) (x : Int) (out : List Int) (p : Int) (k : Nat) : Option (List Int × Bool) := if p < 0 then (some (out, true)) else (if 0 ≤ p then (if p < (l.length : Int) then (if ((rd_T69 l p).f0) > x then (some (out, true)) else ((spec_l1Put.f k out p).bind fun t164 => (spec_MostInSiding.l0 k l (wrap64 (x - ((rd_T69 l p).f0))) t164))) else (none)) else (none))
def leastP (l : List S69) (out : List Int) (p : Int) (n : Int) : Prop := (p = -1 ∧ ∀ q, 0 ≤ q → q < n → q ∈ out) ∨ (0 ≤ p ∧ p < n ∧ p ∉ out ∧ ∀ q, 0 ≤ q → q < n → q ∉ out → q = p ∨ bef l p q)
theorem leastP_uniq {l : List S69} {out : List Int} {p q n : Int} (h1 : leastP l out p n) (h2 : leastP l out q n) : p = q := by
  rcases h1 with ⟨a, b⟩ | ⟨a, b, c, d⟩ <;> rcases h2 with ⟨a', b'⟩ | ⟨a', b', c', d'⟩
  · omega
  · exact absurd (b q a' b') c'
  · exact absurd (b' p a b) c
  · rcases d q a' b' c' with h | h
    · exact h.symm
    · rcases d' p a b c with h' | h'
      · exact h'
      · exact (bef_asymm h h').elim
theorem siding_l1_ev (l : List S69) (hl : l.length ≤ 12) (x : Int) (out : List Int) (ho : out.length ≤ 1048576) (p : Int) (hp : leastP l out p l.length) (v : List Int × Bool) (hv : Ev (fun k => afterP l x out p k) v) : ∀ i : Int, 0 ≤ i → i ≤ l.length → ∀ b : Int, leastP l out b i → Ev (fun k => spec_MostInSiding.l1 k l x out b l l.length i) v := by
  refine downI (fun b hb => ?_) (fun i h0 h1 ih b hb => ?_)
  · obtain rfl := leastP_uniq hb hp
    refine Ev.step (f := fun k => afterP l x out b k) (fun k => by simp only [spec_MostInSiding.l1, afterP]; rw [if_neg (show ¬ ((l.length : Int) < l.length) by omega)]) hv
  · refine Ev.step (f := fun k => (spec_l1Has.f k out i).bind fun t160 => (if t160 = true then (spec_MostInSiding.l1 k l x out b l l.length (i + 1)) else (if b < 0 then (spec_MostInSiding.l1 k l x out i l l.length (i + 1)) else (if 0 ≤ b then (if b < (l.length : Int) then (if ((rd_T69 l i).f0) < ((rd_T69 l b).f0) then (spec_MostInSiding.l1 k l x out i l l.length (i + 1)) else (spec_MostInSiding.l1 k l x out b l l.length (i + 1))) else (none)) else (none))))) (fun k => by simp only [spec_MostInSiding.l1]; rw [if_pos h1, if_pos h0, if_pos h1, w64 (x := i + 1) (by omega) (by omega)]) ?_
    refine Ev.bind (l1Has_ev out i ho) ?_
    by_cases hi : i ∈ out
    · simp only [hi, decide_true, if_true]
      refine ih b ?_
      rcases hb with ⟨a, h⟩ | ⟨a, h, c, d⟩
      · refine .inl ⟨a, fun q q0 q1 => ?_⟩
        by_cases e : q = i
        · rw [e]; exact hi
        · exact h q q0 (by omega)
      · refine .inr ⟨a, by omega, c, fun q q0 q1 q2 => ?_⟩
        by_cases e : q = i
        · rw [e] at q2; exact absurd hi q2
        · exact d q q0 (by omega) q2
    · simp only [hi, decide_false, Bool.false_eq_true, if_false]
      rcases hb with ⟨a, h⟩ | ⟨a, h, c, d⟩
      · refine Ev.congr (fun k => by rw [if_pos (by omega)]) (ih i (.inr ⟨h0, by omega, hi, fun q q0 q1 q2 => ?_⟩))
        by_cases e : q = i
        · exact .inl e
        · exact absurd (h q q0 (by omega)) q2
      · by_cases cm : (rd_T69 l i).f0 < (rd_T69 l b).f0
        · refine Ev.congr (fun k => by rw [if_neg (by omega), if_pos a, if_pos (by omega), if_pos cm]) (ih i (.inr ⟨h0, by omega, hi, fun q q0 q1 q2 => ?_⟩))
          by_cases e : q = i
          · exact .inl e
          · refine .inr ?_
            have hib : bef l i b := .inl cm
            rcases d q q0 (by omega) q2 with e2 | e2
            · rw [e2]; exact hib
            · exact bef_trans hib e2
        · refine Ev.congr (fun k => by rw [if_neg (by omega), if_pos a, if_pos (by omega), if_neg cm]) (ih b (.inr ⟨a, by omega, c, fun q q0 q1 q2 => ?_⟩))
          by_cases e : q = i
          · right; subst e
            unfold bef
            omega
          · exact d q q0 (by omega) q2
theorem mergeSort_strict (pre : List Int) (hn : pre.Nodup) : (pre.mergeSort fun x y => decide (x ≤ y)).Pairwise (· < ·) := by
  have h := List.pairwise_mergeSort (le := fun (x y : Int) => decide (x ≤ y)) (fun a b c h1 h2 => by simp at *; omega) (fun a b => by simp; omega) pre
  have h2 : (pre.mergeSort fun x y => decide (x ≤ y)).Nodup := (List.mergeSort_perm pre _).nodup_iff.2 hn
  refine List.Pairwise.imp ?_ (List.Pairwise.and h h2)
  rintro a b ⟨h3, h4⟩
  have := of_decide_eq_true h3
  omega
/-- Both, from one point of the order on. -/
theorem siding_walk (l : List S69) (hl : l.length ≤ 12) (hg : l.all okTrain = true) (ord : List Int) (hlen : ord.length = l.length) (hmem : ∀ q, q ∈ ord ↔ 0 ≤ q ∧ q < (l.length : Int)) (hpw : ord.Pairwise (bef l)) : ∀ (rest pre : List Int), ord = pre ++ rest → ∀ (x : Int) (out : List Int), 0 ≤ x → x ≤ 100000 → out.Pairwise (· < ·) → (∀ q, q ∈ out ↔ q ∈ pre) → out.length = pre.length → ∃ r : List Int, r.length ≤ 12 ∧ Ev (fun k => impl_MostInSiding.l1 k x l pre ord l.length pre.length) (r, true) ∧ Ev (fun k => spec_MostInSiding.l0 k l x out) (r, true) := by
  have hnd : ord.Nodup := hpw.imp (fun {a b} h e => by subst e; exact bef_asymm h h)
  have first : ∀ (out : List Int) (p : Int) (x : Int) (v : List Int × Bool), out.length ≤ 12 → leastP l out p l.length → Ev (fun k => afterP l x out p k) v → Ev (fun k => spec_MostInSiding.l0 k l x out) v := by
    intro out p x v ho hp hv
    refine Ev.step (fun k => by simp only [spec_MostInSiding.l0]; rfl) ?_
    exact siding_l1_ev l hl x out (by omega) p hp v hv 0 (by omega) (by omega) (-1) (.inl ⟨rfl, fun q h1 h2 => by omega⟩)
  intro rest
  induction rest with
  | nil =>
    intro pre he x out hx0 hx1 hs hm hol
    rw [List.append_nil] at he
    subst he
    have e : (ord.mergeSort fun x y => decide (x ≤ y)) = out := strict_ext (mergeSort_strict ord hnd) hs (fun q => by rw [hm, (List.mergeSort_perm ord _).mem_iff])
    refine ⟨out, by omega, ?_, ?_⟩
    · refine Ev.step (fun k => by simp only [impl_MostInSiding.l1]; rw [if_neg (by omega), slices_Sort_int_int.f, if_pos (by omega), e]) ?_
      exact Ev.now _
    · refine first out (-1) x _ (by omega) (.inl ⟨rfl, fun q h1 h2 => (hm q).2 ((hmem q).2 ⟨h1, h2⟩)⟩) ?_
      exact Ev.congr (fun k => by unfold afterP; rw [if_pos (by omega)]) (Ev.now _)
  | cons p rest ih =>
    intro pre he x out hx0 hx1 hs hm hol
    have hll : pre.length + (rest.length + 1) = l.length := by
      have := congrArg List.length he
      simp at this
      omega
    have hpo : p ∈ ord := by rw [he]; simp
    obtain ⟨p0, p1⟩ := (hmem p).1 hpo
    have hnp : p ∉ pre := by
      intro h
      rw [he] at hnd
      exact (List.nodup_append.1 hnd).2.2 p h p (by simp) rfl
    have hleast : leastP l out p l.length := by
      refine .inr ⟨p0, p1, fun h => hnp ((hm p).1 h), fun q q0 q1 q2 => ?_⟩
      have hq : q ∈ ord := (hmem q).2 ⟨q0, q1⟩
      rw [he, List.mem_append, List.mem_cons] at hq
      rcases hq with hq | hq | hq
      · exact absurd ((hm q).2 hq) q2
      · exact .inl hq
      · right
        rw [he] at hpw
        exact (List.pairwise_cons.1 (List.pairwise_append.1 hpw).2.1).1 q hq
    have hrd : rd ord (pre.length : Int) = p := by
      unfold rd
      rw [he, List.getD_eq_getElem?_getD]
      simp
    have hok := okTrain_iff.1 (List.all_eq_true.1 hg _ (get_mem l z69 p p0 p1))
    change (1 ≤ (rd_T69 l p).f0 ∧ (rd_T69 l p).f0 ≤ 1000) ∧ _ at hok
    have st : ∀ k, impl_MostInSiding.l1 (k + 1) x l pre ord l.length pre.length = if (x - (rd_T69 l p).f0) < 0 then ((slices_Sort_int_int.f pre).bind fun t200 => (some (t200, true))) else (impl_MostInSiding.l1 k (x - (rd_T69 l p).f0) l (pre ++ [p]) ord l.length ((pre.length : Int) + 1)) := by
      intro k
      simp only [impl_MostInSiding.l1, hrd]
      rw [if_pos (by omega), if_pos (by omega), if_pos (by omega), if_pos p0, if_pos p1, w64 (x := x - (rd_T69 l p).f0) (by omega) (by omega), w64 (x := (pre.length : Int) + 1) (by omega) (by omega), if_pos (show pre.length < 17592186044416 by omega)]
    by_cases hc : (rd_T69 l p).f0 > x
    · have hndp : pre.Nodup := by rw [he] at hnd; exact (List.nodup_append.1 hnd).1
      have e : (pre.mergeSort fun x y => decide (x ≤ y)) = out := strict_ext (mergeSort_strict pre hndp) hs (fun q => by rw [hm, (List.mergeSort_perm pre _).mem_iff])
      refine ⟨out, by omega, ?_, ?_⟩
      · exact Ev.step (fun k => by rw [st, if_pos (by omega), slices_Sort_int_int.f, if_pos (by omega), e]; rfl) (Ev.now _)
      · refine first out p x _ (by omega) hleast ?_
        exact Ev.congr (fun k => by unfold afterP; rw [if_neg (by omega), if_pos p0, if_pos p1, if_pos hc]) (Ev.now _)
    · obtain ⟨t, ht, ts, tm, tl⟩ := l1Put_ev out p (by omega) hs (fun h => hnp ((hm p).1 h))
      obtain ⟨r, r0, r1, r2⟩ := ih (pre ++ [p]) (by rw [he]; simp) (x - (rd_T69 l p).f0) t (by omega) (by omega) ts (fun q => by rw [tm, List.mem_append, List.mem_singleton, hm]; exact Or.comm) (by simp; omega)
      refine ⟨r, r0, ?_, ?_⟩
      · refine Ev.step (fun k => by rw [st, if_neg (by omega)]) ?_
        rw [List.length_append, List.length_singleton] at r1
        exact r1
      · refine first out p x _ (by omega) hleast ?_
        refine Ev.congr (fun k => by unfold afterP; rw [if_neg (by omega), if_pos p0, if_pos p1, if_neg hc, w64 (x := x - (rd_T69 l p).f0) (by omega) (by omega)]) ?_
        exact Ev.bind ht r2
theorem outer_stop {n : Nat} [Inhabited (Fin n)] (lt : Fin n → Fin n → Bool) (b i : Nat) (d : Array (Fin n)) (h : ¬ i < b) : Go.Sort.insOuter lt 0 b i d = d := by
  rw [Go.Sort.insOuter, if_neg h]
theorem outer_go {n : Nat} [Inhabited (Fin n)] (lt : Fin n → Fin n → Bool) (b i : Nat) (d : Array (Fin n)) (h : i < b) : Go.Sort.insOuter lt 0 b i d = Go.Sort.insOuter lt 0 b (i + 1) (Go.Sort.insInner lt 0 i d) := by
  rw [Go.Sort.insOuter, if_pos h]
theorem insInner_lex {n : Nat} [Inhabited (Fin n)] (lt lx : Fin n → Fin n → Bool) (a : Nat) : ∀ (j : Nat) (d : Array (Fin n)), j < d.size → (∀ q, q < j → lt d[j]! d[q]! = lx d[j]! d[q]!) → Go.Sort.insInner lt a j d = Go.Sort.insInner lx a j d := by
  intro j
  induction j with
  | zero => intro d _ _; rfl
  | succ j ih =>
    intro d hs h
    unfold Go.Sort.insInner
    rw [h j (by omega)]
    split
    · refine ih _ (by rw [Go.Sort.swp_size]; omega) (fun q hq => ?_)
      rw [Go.Sort.swp_get d hs (by omega), Go.Sort.swp_get d hs (by omega), if_pos rfl, if_neg (by omega), if_neg (by omega)]
      exact h q (by omega)
    · rfl
theorem insInner_vals {n : Nat} [Inhabited (Fin n)] (lt : Fin n → Fin n → Bool) (a J : Nat) (P : Fin n → Prop) : ∀ (j : Nat) (d : Array (Fin n)), j ≤ J → J < d.size → (∀ q, q ≤ J → P d[q]!) → (Go.Sort.insInner lt a j d).size = d.size ∧ (∀ q, q ≤ J → P (Go.Sort.insInner lt a j d)[q]!) ∧ (∀ q, J < q → (Go.Sort.insInner lt a j d)[q]! = d[q]!) := by
  intro j
  induction j with
  | zero => intro d _ _ h; exact ⟨rfl, h, fun _ _ => rfl⟩
  | succ j ih =>
    intro d hj hJ h
    unfold Go.Sort.insInner
    split
    · obtain ⟨a1, a2, a3⟩ := ih (Go.Sort.swp d (j + 1) j) (by omega) (by rw [Go.Sort.swp_size]; exact hJ) (fun q hq => by
        rw [Go.Sort.swp_get d (by omega) (by omega)]
        split
        · exact h _ hj
        · split
          · exact h _ (by omega)
          · exact h q hq)
      refine ⟨by rw [a1, Go.Sort.swp_size], a2, fun q hq => ?_⟩
      rw [a3 q hq, Go.Sort.swp_get d (by omega) (by omega), if_neg (by omega), if_neg (by omega)]
    · exact ⟨rfl, h, fun _ _ => rfl⟩
theorem insOuter_lex {n : Nat} [Inhabited (Fin n)] (lt lx : Fin n → Fin n → Bool) (hl : ∀ x y : Fin n, y.val < x.val → lt x y = lx x y) : ∀ (m i : Nat) (d : Array (Fin n)), n - i = m → i ≤ n → d.size = n → (∀ q, q < i → (d[q]!).val < i) → (∀ q, i ≤ q → q < n → (d[q]!).val = q) → Go.Sort.insOuter lt 0 n i d = Go.Sort.insOuter lx 0 n i d := by
  intro m
  induction m with
  | zero =>
    intro i d hm hi hs h1 h2
    have : i = n := by omega
    subst this
    rw [outer_stop lt _ _ _ (by omega), outer_stop lx _ _ _ (by omega)]
  | succ m ih =>
    intro i d hm hi hs h1 h2
    have hin : i < n := by omega
    have hii := h2 i (Nat.le_refl _) hin
    rw [outer_go lt _ _ _ hin, outer_go lx _ _ _ hin]
    rw [insInner_lex lt lx 0 i d (by omega) (fun q hq => hl _ _ (by rw [hii]; exact h1 q hq))]
    obtain ⟨a1, a2, a3⟩ := insInner_vals lx 0 i (fun x => x.val < i + 1) i d (Nat.le_refl _) (by omega) (fun q hq => by
      by_cases e : q = i
      · subst e; rw [hii]; omega
      · have := h1 q (by omega); omega)
    refine ih (i + 1) _ (by omega) (by omega) (by rw [a1]; exact hs) (fun q hq => a2 q (by omega)) (fun q hq hq2 => ?_)
    rw [a3 q (by omega)]
    exact h2 q (by omega) hq2
/-- The library's insertion sort of the places is their order by key, then place. -/
theorem ord_spec (n : Nat) [Inhabited (Fin n)] (key : Fin n → Int) (cf : Fin n → Fin n → Int) (he : ∀ x y, cf x y < 0 ↔ key x < key y) : (XStable.ordOf n cf).Perm (XStable.iota n) ∧ (XStable.ordOf n cf).Pairwise (fun a b => ∃ x y : Fin n, ((x.val : Nat) : Int) = a ∧ ((y.val : Nat) : Int) = b ∧ (key x < key y ∨ (key x = key y ∧ x.val < y.val))) := by
  have hlt : ∀ x y, Go.Proofs.ltOf cf x y = decide (key x < key y) := by
    intro x y
    unfold Go.Proofs.ltOf
    exact decide_eq_decide.2 (he x y)
  have hlx : ∃ lx : Fin n → Fin n → Bool, ∀ x y, lx x y = decide (key x < key y ∨ (key x = key y ∧ x.val < y.val)) := ⟨fun x y => decide (key x < key y ∨ (key x = key y ∧ x.val < y.val)), fun _ _ => rfl⟩
  obtain ⟨lx, hlx⟩ := hlx
  have hd0 : ∀ q (_ : q < n), ((Array.ofFn (fun i : Fin n => i))[q]!).val = q := by
    intro q hq
    rw [getElem!_pos (Array.ofFn (fun i : Fin n => i)) q (by simpa using hq)]
    simp
  have e : Go.Sort.insertionSort (Go.Proofs.ltOf cf) (Array.ofFn (fun i : Fin n => i)) 0 n = Go.Sort.insertionSort lx (Array.ofFn (fun i : Fin n => i)) 0 n := by
    unfold Go.Sort.insertionSort
    by_cases h1 : 0 + 1 ≤ n
    · refine insOuter_lex _ lx (fun x y hxy => ?_) (n - (0 + 1)) (0 + 1) _ rfl h1 (by simp) (fun q hq => ?_) (fun q _ hq => hd0 q hq)
      · rw [hlt, hlx, decide_eq_decide]
        omega
      · obtain rfl : q = 0 := by omega
        rw [hd0 0 (by omega)]
        omega
    · rw [outer_stop _ _ _ _ (by omega), outer_stop lx _ _ _ (by omega)]
  have hS : Go.Sort.SWO lx := by
    constructor <;> intros <;> simp only [hlx, decide_eq_true_eq, decide_eq_false_iff_not] at * <;> omega
  obtain ⟨⟨s1, _, s3⟩, s4⟩ := Go.Sort.insertionSort_holds hS (Array.ofFn (fun i : Fin n => i)) 0 n (Nat.zero_le _) (by simp)
  unfold XStable.ordOf XStable.iota
  rw [e]
  generalize hD : Go.Sort.insertionSort lx (Array.ofFn (fun i : Fin n => i)) 0 n = D at *
  have hsz : D.size = n := by simpa using s1
  have hp : D.toList.Perm (Array.ofFn (fun i : Fin n => i)).toList := by
    have e1 : D.extract 0 n = D := by
      apply Array.ext
      · simp [hsz]
      · intro i h1 h2; simp
    have e2 : (Array.ofFn (fun i : Fin n => i)).extract 0 n = Array.ofFn (fun i : Fin n => i) := by
      apply Array.ext
      · simp
      · intro i h1 h2; simp
    rw [e1, e2] at s3
    exact s3
  have hio : (Array.ofFn (fun i : Fin n => i)).toList.map (fun i => ((i.val : Nat) : Int)) = (List.range n).map (fun (j : Nat) => (j : Int)) := by
    apply List.ext_getElem
    · simp
    · intro i h1 h2; simp
  refine ⟨?_, ?_⟩
  · rw [← hio]
    exact hp.map _
  · rw [List.pairwise_map]
    have hnd : D.toList.Nodup := by
      refine hp.nodup_iff.2 ?_
      rw [List.Nodup, List.pairwise_iff_getElem]
      intro i j hi hj hij h
      have : i = j := by simpa using h
      omega
    rw [List.pairwise_iff_getElem]
    intro i j hi hj hij
    have hi' : i < D.size := by simpa using hi
    have hj' : j < D.size := by simpa using hj
    have h4 := s4 i j (Nat.zero_le _) hij (by omega)
    rw [getElem!_pos D j hj', getElem!_pos D i hi', hlx, decide_eq_false_iff_not] at h4
    have hne : D[i].val ≠ D[j].val := by
      intro h
      have := List.pairwise_iff_getElem.1 hnd i j hi hj hij
      exact this (by simpa using Fin.ext h)
    refine ⟨D[i], D[j], by simp, by simp, ?_⟩
    omega
theorem iota_get (n i : Nat) (h : i < n) : (XStable.iota n)[i]? = some (i : Int) := by
  unfold XStable.iota
  rw [List.getElem?_map, List.getElem?_range h]
  rfl
theorem siding_l0_ev (x : Int) (l : List S69) (hl : l.length ≤ 12) (hp : 0 < l.length) (v : List Int × Bool) (hv : Ev (fun k => impl_MostInSiding.l1 k x l [] (slices_SortStableFunc_int_int.ord l) l.length 0) v) : ∀ i : Int, 0 ≤ i → i ≤ (l.length : Int) → ∀ acc : List Int, acc.length = l.length → acc.take i.toNat = (XStable.iota l.length).take i.toNat → Ev (fun k => impl_MostInSiding.l0 k x l acc l.length i) v := by
  refine downI (fun acc ha ht => ?_) (fun i h0 h1 ih acc ha ht => ?_)
  · have e : acc = XStable.iota l.length := by
      rw [List.take_of_length_le (by omega), List.take_of_length_le (by rw [XStable.iota_length]; omega)] at ht
      exact ht
    refine Ev.step (f := fun k => impl_MostInSiding.l1 k x l [] (slices_SortStableFunc_int_int.ord l) l.length 0) (fun k => by simp only [impl_MostInSiding.l0]; rw [if_neg (by omega), slices_SortStableFunc_int_int.f, if_pos ⟨e, by omega, hp⟩, Option.bind_some, ha]) hv
  · refine Ev.step (fun k => by simp only [impl_MostInSiding.l0]; rw [if_pos h1, if_pos h0, if_pos (by omega), w64 (x := i + 1) (by omega) (by omega)]) (ih (acc.set i.toNat i) (by simpa using ha) ?_)
    rw [show (i + 1).toNat = i.toNat + 1 by omega, List.take_succ_eq_append_getElem (by rw [List.length_set]; omega), List.getElem_set_self, List.take_set_of_le (Nat.le_refl _), ht, List.take_add_one, iota_get _ _ (by omega)]
    simp
    omega
theorem ord_facts (l : List S69) (hp : 0 < l.length) : (slices_SortStableFunc_int_int.ord l).Perm (XStable.iota l.length) ∧ (slices_SortStableFunc_int_int.ord l).Pairwise (bef l) := by
  letI : Inhabited (Fin l.length) := ⟨⟨0, hp⟩⟩
  have e : slices_SortStableFunc_int_int.ord l = XStable.ordOf l.length (slices_SortStableFunc_int_int.cf l) := by
    unfold slices_SortStableFunc_int_int.ord
    rw [dif_pos hp]
  rw [e]
  obtain ⟨a, b⟩ := ord_spec l.length (fun x => (rd_T69 l ((x.val : Nat) : Int)).f0) (slices_SortStableFunc_int_int.cf l) (slices_SortStableFunc_int_int.cf_lt l)
  refine ⟨a, b.imp (fun {p q} h => ?_)⟩
  obtain ⟨x, y, rfl, rfl, h⟩ := h
  unfold bef
  omega
theorem siding_both (l : List S69) (a : Int) : ∃ (r : List Int) (b : Bool), r.length ≤ 12 ∧ Ev (fun k => spec_MostInSiding.f k l a) (r, b) ∧ Ev (fun k => impl_MostInSiding.f k l a) (r, b) := by
  cases hg : goodTrains l a
  · refine ⟨[], false, by simp, ?_, ?_⟩
    · unfold spec_MostInSiding.f
      refine Ev.bind (tiList_ev l a) ?_
      rw [hg]
      exact Ev.now _
    · unfold impl_MostInSiding.f
      refine Ev.bind (areTrains_ev l) ?_
      cases h1 : goodTr l
      · simp only [Bool.false_eq_true, if_false]
        exact Ev.step (fun k => by simp only [impl_MostInSiding.j0, Bool.not_false, if_true]) (Ev.now _)
      · have h2 : decide (0 ≤ a ∧ a ≤ 100000) = false := by
          unfold goodTrains at hg
          unfold goodTr at h1
          rw [← Bool.and_assoc, h1, Bool.true_and] at hg
          exact hg
        unfold impl_isWay.f
        simp only [within_eq, Option.bind_some, h2, if_true]
        exact Ev.step (fun k => by simp only [impl_MostInSiding.j0, Bool.not_false, if_true]) (Ev.now _)
  · have hg' := hg
    unfold goodTrains at hg'
    rw [Bool.and_eq_true, Bool.and_eq_true, decide_eq_true_iff, decide_eq_true_iff] at hg'
    obtain ⟨⟨n0, n1⟩, ha, w0, w1⟩ := hg'
    have hl : l.length ≤ 12 := by omega
    have hp : 0 < l.length := by omega
    obtain ⟨o1, o2⟩ := ord_facts l hp
    have olen : (slices_SortStableFunc_int_int.ord l).length = l.length := by rw [o1.length_eq, XStable.iota_length]
    obtain ⟨r, r0, r1, r2⟩ := siding_walk l hl ha _ olen (fun q => by
      rw [o1.mem_iff]
      unfold XStable.iota
      rw [List.mem_map]
      constructor
      · rintro ⟨j, hj, rfl⟩
        have := List.mem_range.1 hj
        omega
      · rintro ⟨h0, h1⟩
        exact ⟨q.toNat, List.mem_range.2 (by omega), by omega⟩) o2 _ [] rfl a [] w0 w1 List.Pairwise.nil (fun q => Iff.rfl) rfl
    refine ⟨r, true, r0, ?_, ?_⟩
    · unfold spec_MostInSiding.f
      refine Ev.bind (tiList_ev l a) ?_
      rw [hg]
      exact r2
    · unfold impl_MostInSiding.f
      refine Ev.bind (areTrains_ev l) ?_
      have h1 : goodTr l = true := by
        unfold goodTr
        rw [ha, decide_eq_true (show 1 ≤ (l.length : Int) ∧ (l.length : Int) ≤ 12 from ⟨n0, n1⟩)]
        rfl
      unfold impl_isWay.f
      simp only [h1, within_eq, Option.bind_some, decide_eq_true (show 0 ≤ a ∧ a ≤ 100000 from ⟨w0, w1⟩), if_true]
      refine Ev.step (fun k => by simp only [impl_MostInSiding.j0, Option.bind_some]; rw [if_neg (by simp), if_pos (by omega), if_pos (by omega), List.length_replicate, Int.toNat_natCast]) ?_
      exact siding_l0_ev a l hl hp _ r1 0 (by omega) (by omega) _ (by simp) (by simp)
def cvTrain (x : S73) : S69 := ⟨x.f0, x.f1⟩
theorem toTrainS_l0_ev (l : List S73) (hl : l.length ≤ 1048576) : ∀ i : Int, 0 ≤ i → i ≤ l.length → ∀ acc : List S69, acc.length = l.length → Ev (fun k => laws_toTrainS.l0 k l acc i) (acc.take i.toNat ++ (l.drop i.toNat).map cvTrain) := by
  refine downI (fun acc ha => ?_) (fun i h0 h1 ih acc ha => ?_)
  · refine Ev.step (fun k => by simp only [laws_toTrainS.l0]; rw [if_neg (by omega)]) ?_
    rw [List.take_of_length_le (by omega), List.drop_of_length_le (by omega), List.map_nil, List.append_nil]
    exact Ev.now _
  · refine Ev.step (fun k => by simp only [laws_toTrainS.l0]; rw [if_pos h1, if_pos h0, laws_toTrain.f, Option.bind_some, if_pos (by omega), w64 (x := i + 1) (by omega) (by omega)]) ?_
    have hi := ih (acc.set i.toNat (cvTrain (rd_T73 l i))) (by simpa using ha)
    rw [drop_get l z73 i h0 h1, List.map_cons]
    rw [show (i + 1).toNat = i.toNat + 1 by omega] at hi ⊢
    rw [set_fill acc _ i.toNat _ (by omega)] at hi
    exact hi
theorem toTrainS_ev (l : List S73) (hl : l.length ≤ 1048576) : Ev (fun k => laws_toTrainS.f k l) (l.map cvTrain) := by
  refine Ev.congr (fun k => by unfold laws_toTrainS.f; rw [if_pos (by omega), if_pos (by omega)]) ?_
  have h := toTrainS_l0_ev l hl 0 (by omega) (by omega) (List.replicate ((l.length : Int)).toNat z69) (by simp)
  simpa using h
theorem eqTrainS_l0_ev (l : List S69) (hl : l.length ≤ 1048576) : ∀ i : Int, 0 ≤ i → i ≤ l.length → Ev (fun k => laws_eqTrainS.l0 k l l i) true := by
  refine downI ?_ (fun i h0 h1 ih => ?_)
  · exact Ev.step (fun k => by simp only [laws_eqTrainS.l0]; rw [if_neg (by omega)]) (Ev.now _)
  · refine Ev.step (fun k => by simp only [laws_eqTrainS.l0, laws_eqTrain.f, if_true, Option.bind_some]; rw [if_pos h1, if_pos h0, if_pos h1, w64 (x := i + 1) (by omega) (by omega)]) ih
theorem eqTrainS_ev (l : List S69) (hl : l.length ≤ 1048576) : Ev (fun k => laws_eqTrainS.f k l l) true := by
  refine Ev.congr (fun k => by unfold laws_eqTrainS.f; rw [if_pos rfl]) ?_
  exact eqTrainS_l0_ev l hl 0 (by omega) (by omega)
/-- The bound on the size of what came in. -/
theorem szTrainS_cases (l : List S73) (hl : l.length ≤ maxLen) : (l.length ≤ 1048576 ∧ laws_szTrainS.f l 1048576 = some (1048576 - (l.length : Int))) ∨ laws_szTrainS.f l 1048576 = some (-1) := by
  unfold maxLen at hl
  unfold laws_szTrainS.f
  rw [w64 (x := 1048576 - (l.length : Int)) (by omega) (by omega)]
  by_cases h : (1048576 : Int) - l.length < 0
  · right; rw [if_pos h]
  · left; rw [if_neg h]; exact ⟨by omega, rfl⟩
/-- Trains marked from m on. -/
def trainsFrom (m : Int) : Nat → List S69
  | 0 => []
  | n + 1 => ⟨m, m + 1⟩ :: trainsFrom (m + 2) n
theorem trainsFrom_length : ∀ (n : Nat) (m : Int), (trainsFrom m n).length = n := by
  intro n
  induction n with
  | zero => intro m; rfl
  | succ n ih => intro m; simp [trainsFrom, ih]
theorem markTrainS_l0_ev : ∀ (d : Nat) (x : List S69) (m i : Int), 0 ≤ i → (x.length : Int) - i = d → x.length ≤ 1048576 → 0 ≤ m → m + 2 * d ≤ 1000000000000 → Ev (fun k => laws_markTrainS.l0 k x m i) (m + 2 * d, x.take i.toNat ++ trainsFrom m d) := by
  intro d
  induction d with
  | zero =>
    intro x m i h0 hd hl _ _
    refine Ev.step (fun k => by simp only [laws_markTrainS.l0]; rw [if_neg (by omega)]) ?_
    rw [List.take_of_length_le (by omega)]
    simp only [trainsFrom, List.append_nil]
    have : m + 2 * ((0 : Nat) : Int) = m := by omega
    rw [this]
    exact Ev.now _
  | succ d ih =>
    intro x m i h0 hd hl hm hm2
    have hi : i.toNat < x.length := by omega
    have e : ((x.set i.toNat (⟨m, (rd_T69 x i).f1⟩ : S69)).set i.toNat (⟨(rd_T69 (x.set i.toNat (⟨m, (rd_T69 x i).f1⟩ : S69)) i).f0, m + 1⟩ : S69)) = x.set i.toNat ⟨m, m + 1⟩ := by
      rw [List.set_set]
      congr 1
      unfold rd_T69
      rw [List.getD_eq_getElem?_getD, List.getElem?_set_self hi]
      rfl
    refine Ev.step (fun k => by simp only [laws_markTrainS.l0, Option.bind_some]; rw [if_pos (by omega), if_pos h0, w64 (x := m + 1) (by omega) (by omega), w64 (x := m + 1 + 1) (by omega) (by omega), w64 (x := i + 1) (by omega) (by omega), e]) ?_
    have h := ih (x.set i.toNat ⟨m, m + 1⟩) (m + 2) (i + 1) (by omega) (by simp; omega) (by simpa using hl) (by omega) (by omega)
    rw [show (i + 1).toNat = i.toNat + 1 by omega, set_fill x (trainsFrom (m + 2) d) i.toNat _ hi] at h
    rw [show m + 2 * ((d + 1 : Nat) : Int) = m + 2 + 2 * (d : Int) by omega, show m + 1 + 1 = m + 2 by omega]
    exact h
theorem markTrainS_ev (x : List S69) (hl : x.length ≤ 1048576) : Ev (fun k => laws_markTrainS.f k x 1) (1 + 2 * x.length, trainsFrom 1 x.length) := by
  unfold laws_markTrainS.f
  have h := markTrainS_l0_ev x.length x 1 0 (by omega) (by omega) hl (by omega) (by omega)
  simpa using h
/-- m, m + 1, m + 2, ..: n of them. -/
def upFrom (m : Int) : Nat → List Int
  | 0 => []
  | n + 1 => m :: upFrom (m + 1) n
theorem upFrom_length : ∀ (n : Nat) (m : Int), (upFrom m n).length = n := by
  intro n
  induction n with
  | zero => intro m; rfl
  | succ n ih => intro m; simp [upFrom, ih]
theorem markIntS_l0_ev : ∀ (d : Nat) (x : List Int) (m i : Int), 0 ≤ i → (x.length : Int) - i = d → x.length ≤ 1048576 → -1000000000 ≤ m → m + d ≤ 1000000000000 → Ev (fun k => laws_markIntS.l0 k x m i) (m + d, x.take i.toNat ++ upFrom m d) := by
  intro d
  induction d with
  | zero =>
    intro x m i h0 hd hl _ _
    refine Ev.step (fun k => by simp only [laws_markIntS.l0]; rw [if_neg (by omega)]) ?_
    rw [List.take_of_length_le (by omega)]
    simp only [upFrom, List.append_nil]
    have : m + ((0 : Nat) : Int) = m := by omega
    rw [this]
    exact Ev.now _
  | succ d ih =>
    intro x m i h0 hd hl hm hm2
    refine Ev.step (fun k => by simp only [laws_markIntS.l0]; rw [if_pos (by omega), if_pos h0, w64 (x := m + 1) (by omega) (by omega), w64 (x := i + 1) (by omega) (by omega)]) ?_
    have h := ih (x.set i.toNat m) (m + 1) (i + 1) (by omega) (by simp; omega) (by simpa using hl) (by omega) (by omega)
    rw [show (i + 1).toNat = i.toNat + 1 by omega, set_fill x (upFrom (m + 1) d) i.toNat m (by omega)] at h
    rw [show m + ((d + 1 : Nat) : Int) = m + 1 + (d : Int) by omega]
    exact h
theorem heldIntS_l0_ev : ∀ (d : Nat) (x : List Int) (m i : Int), 0 ≤ i → x.length ≤ 1048576 → x.drop i.toNat = upFrom m d → (x.length : Int) - i = d → -1000000000 ≤ m → m + d ≤ 1000000000000 → Ev (fun k => laws_heldIntS.l0 k x m i) (m + d) := by
  intro d
  induction d with
  | zero =>
    intro x m i h0 hl hx hd _ _
    refine Ev.step (fun k => by simp only [laws_heldIntS.l0]; rw [if_neg (by omega)]) ?_
    have : m + ((0 : Nat) : Int) = m := by omega
    rw [this]
    exact Ev.now _
  | succ d ih =>
    intro x m i h0 hl hx hd hm hm2
    have hi : i < (x.length : Int) := by omega
    rw [drop_get x 0 i h0 hi] at hx
    simp only [upFrom, List.cons.injEq] at hx
    have e : rd x i = m := hx.1
    refine Ev.step (fun k => by simp only [laws_heldIntS.l0]; rw [if_pos hi, if_pos h0, if_pos e, w64 (x := m + 1) (by omega) (by omega), w64 (x := i + 1) (by omega) (by omega)]) ?_
    rw [show m + ((d + 1 : Nat) : Int) = m + 1 + (d : Int) by omega]
    exact ih x (m + 1) (i + 1) (by omega) hl hx.2 (by omega) (by omega) (by omega)
theorem markIntS_ev (x : List Int) (m : Int) (hl : x.length ≤ 1048576) (h0 : 0 ≤ m) (h1 : m ≤ 1000000000) : Ev (fun k => laws_markIntS.f k x m) (m + x.length, upFrom m x.length) := by
  unfold laws_markIntS.f
  have h := markIntS_l0_ev x.length x m 0 (by omega) (by omega) hl (by omega) (by omega)
  simpa using h
theorem heldIntS_ev (n : Nat) (m : Int) (hl : n ≤ 1048576) (h0 : 0 ≤ m) (h1 : m ≤ 1000000000) : Ev (fun k => laws_heldIntS.f k (upFrom m n) m) (m + n) := by
  unfold laws_heldIntS.f
  have h := heldIntS_l0_ev n (upFrom m n) m 0 (by omega) (by rw [upFrom_length]; exact hl) (by simp) (by rw [upFrom_length]; omega) (by omega) (by omega)
  simpa using h
theorem eqIntS_l0_ev (l : List Int) (hl : l.length ≤ 1048576) : ∀ i : Int, 0 ≤ i → i ≤ l.length → Ev (fun k => laws_eqIntS.l0 k l l i) true := by
  refine downI ?_ (fun i h0 h1 ih => ?_)
  · exact Ev.step (fun k => by simp only [laws_eqIntS.l0]; rw [if_neg (by omega)]) (Ev.now _)
  · refine Ev.step (fun k => by simp only [laws_eqIntS.l0, if_true]; rw [if_pos h1, if_pos h0, if_pos h1, w64 (x := i + 1) (by omega) (by omega)]) ih
theorem eqIntS_ev (l : List Int) (hl : l.length ≤ 1048576) : Ev (fun k => laws_eqIntS.f k l l) true := by
  refine Ev.congr (fun k => by unfold laws_eqIntS.f; rw [if_pos rfl]) ?_
  exact eqIntS_l0_ev l hl 0 (by omega) (by omega)
theorem FnExactMostInSiding : laws_FnExactMostInSiding.Pure := by
  intro l a hl wa
  refine Ev.rounds ?_
  unfold laws_FnExactMostInSiding.f
  rcases szTrainS_cases l hl with ⟨hs, h⟩ | h
  · simp only [h, Option.bind_some, if_neg (show ¬ ((1048576 : Int) - l.length < 0) by omega)]
    obtain ⟨r, b, r0, r1, r2⟩ := siding_both (l.map cvTrain) a
    have t1 := toTrainS_ev l hs
    have m1 := markIntS_ev r 1 (by omega) (by omega) (by omega)
    have m2 := heldIntS_ev r.length 1 (by omega) (by omega) (by omega)
    have q1 := eqIntS_ev r (by omega)
    refine Ev.bind t1 (Ev.bind r1 (Ev.bind t1 (Ev.bind r2 (Ev.bind q1 ?_))))
    simp only [if_true, bne_self_eq_false]
    refine Ev.step (fun k => by simp only [laws_FnExactMostInSiding.j0]; rw [if_neg (by simp)]) ?_
    refine Ev.bind t1 (Ev.bind (eqTrainS_ev _ (by simpa using hs)) ?_)
    simp only [if_true]
    refine Ev.bind (markTrainS_ev (l.map cvTrain) (by simpa using hs)) ?_
    refine Ev.congr (fun k => by rw [if_neg (by simp; omega)]) (Ev.bind q1 ?_)
    simp only [if_true, bne_self_eq_false]
    refine Ev.step (fun k => by simp only [laws_FnExactMostInSiding.j1]; rw [if_neg (by simp)]) ?_
    refine Ev.bind m1 (Ev.bind m2 ?_)
    refine Ev.congr (fun k => by rw [if_neg (by omega), if_pos rfl]) ?_
    refine Ev.bind t1 (Ev.bind r2 (Ev.bind q1 ?_))
    simp only [if_true, bne_self_eq_false]
    refine Ev.step (fun k => by simp only [laws_FnExactMostInSiding.j2]; rw [if_neg (by simp)]) ?_
    refine Ev.bind m2 ?_
    exact Ev.congr (fun k => by rw [if_neg (by omega), if_pos rfl]) (Ev.now _)
  · simp only [h, Option.bind_some]
    exact Ev.now _
end Go.Proofs.Ytoehcikfjipcaaa.Pure
