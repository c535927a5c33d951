/- The program's WorstRunners returns what the reference's WorstRunners returns, for all arguments. No conditions. -/
import Derived.Test.YtgjhomhfcifipaaQRx4
import Derived.Test.YtgjhomhfcifipaaPlain
set_option linter.unusedVariables false
set_option linter.unusedSimpArgs false
namespace Go.Proofs.Ytgjhomhfcifipaa.Pure
open Go.RowKit Go.Proofs.Ytgjhomhfcifipaa.QR Go.Proofs.YtgjhomhfcifipaaW.PrintWords Go.Proofs.YtgjhomhfcifipaaW.PrintLast Go.Proofs.YtgjhomhfcifipaaW.PrintMore Go.Proofs.Ytgjhomhfcifipaa.Plain
theorem in_eq (a b c : Int) : spec_l1In.f a b c = some (decide (b ≤ a ∧ a ≤ c)) := by
  unfold spec_l1In.f
  by_cases h : a ≥ b
  · rw [if_pos h]; congr 1; simp; omega
  · rw [if_neg h]; congr 1; simp; omega
theorem within_eq (a b c : Int) : impl_within.f a b c = some (decide (b ≤ a ∧ a ≤ c)) := by
  unfold impl_within.f
  by_cases h : a ≥ b
  · rw [if_pos h]; congr 1; simp; omega
  · rw [if_neg h]; congr 1; simp; omega
theorem w64 {x : Int} (h1 : -9223372036854775808 ≤ x) (h2 : x ≤ 9223372036854775807) : wrap64 x = x := by unfold wrap64; omega
def inB (lo hi : Int) (x : Int) : Bool := decide (lo ≤ x ∧ x ≤ hi)
theorem l1All_l0_ev (l : List Int) (lo hi : Int) (hl : l.length ≤ 1048576) : ∀ i : Int, 0 ≤ i → i ≤ l.length → Ev (fun k => spec_l1All.l0 k lo hi l l.length i) ((l.drop i.toNat).all (inB lo hi)) := by
  refine downI ?_ (fun i h0 h1 ih => ?_)
  · refine Ev.step (fun k => by simp only [spec_l1All.l0]; rw [if_neg (by omega)]) ?_
    rw [List.drop_of_length_le (by omega)]
    exact Ev.now _
  · rw [drop_get l 0 i h0 h1, List.all_cons]
    refine Ev.step (f := fun k => if inB lo hi (rd l i) = true then spec_l1All.l0 k lo hi l l.length (i + 1) else some false) (fun k => by simp only [spec_l1All.l0, in_eq, Option.bind_some]; rw [if_pos h1, if_pos h0, if_pos h1, w64 (x := i + 1) (by omega) (by omega)]; rfl) ?_
    show Ev _ (inB lo hi (rd l i) && _)
    cases inB lo hi (rd l i)
    · simp only [Bool.false_and, Bool.false_eq_true, if_false]; exact Ev.now _
    · simp only [Bool.true_and, if_true]; exact ih
theorem l1All_ev (l : List Int) (lo hi : Int) (hl : l.length ≤ 1048576) : Ev (fun k => spec_l1All.f k l lo hi) (l.all (inB lo hi)) := by
  unfold spec_l1All.f
  exact l1All_l0_ev l lo hi hl 0 (by omega) (by omega)
theorem allWithin_l0_ev (l : List Int) (lo hi : Int) (hl : l.length ≤ 1048576) : ∀ i : Int, 0 ≤ i → i ≤ l.length → Ev (fun k => impl_allWithin.l0 k lo hi l l.length i) ((l.drop i.toNat).all (inB lo hi)) := by
  refine downI ?_ (fun i h0 h1 ih => ?_)
  · refine Ev.step (fun k => by simp only [impl_allWithin.l0]; rw [if_neg (by omega)]) ?_
    rw [List.drop_of_length_le (by omega)]
    exact Ev.now _
  · rw [drop_get l 0 i h0 h1, List.all_cons]
    refine Ev.step (f := fun k => if inB lo hi (rd l i) = true then impl_allWithin.l0 k lo hi l l.length (i + 1) else some false) (fun k => by simp only [impl_allWithin.l0, within_eq, Option.bind_some]; rw [if_pos h1, if_pos h0, if_pos h1, w64 (x := i + 1) (by omega) (by omega)]; rfl) ?_
    show Ev _ (inB lo hi (rd l i) && _)
    cases inB lo hi (rd l i)
    · simp only [Bool.false_and, Bool.false_eq_true, if_false]; exact Ev.now _
    · simp only [Bool.true_and, if_true]; exact ih
theorem allWithin_ev (l : List Int) (lo hi : Int) (hl : l.length ≤ 1048576) : Ev (fun k => impl_allWithin.f k l lo hi) (l.all (inB lo hi)) := by
  unfold impl_allWithin.f
  exact allWithin_l0_ev l lo hi hl 0 (by omega) (by omega)
theorem l1Has_l0_ev (l : List Int) (x : Int) (hl : l.length ≤ 1048576) : ∀ i : Int, 0 ≤ i → i ≤ l.length → Ev (fun k => spec_l1Has.l0 k x l l.length i) (decide (x ∈ l.drop i.toNat)) := by
  refine downI ?_ (fun i h0 h1 ih => ?_)
  · refine Ev.step (fun k => by simp only [spec_l1Has.l0]; rw [if_neg (by omega)]) ?_
    rw [List.drop_of_length_le (by omega)]
    exact Ev.now _
  · rw [drop_get l 0 i h0 h1]
    by_cases e : rd l i = x
    · rw [decide_eq_true (show x ∈ l.getD i.toNat 0 :: l.drop (i + 1).toNat from by rw [List.mem_cons]; exact .inl e.symm)]
      exact Ev.step (fun k => by simp only [spec_l1Has.l0]; rw [if_pos h1, if_pos h0, if_pos h1, if_pos e]) (Ev.now _)
    · have e2 : decide (x ∈ l.getD i.toNat 0 :: l.drop (i + 1).toNat) = decide (x ∈ l.drop (i + 1).toNat) := by
        rw [decide_eq_decide, List.mem_cons]
        exact ⟨fun h => h.resolve_left (fun h => e h.symm), .inr⟩
      rw [e2]
      exact Ev.step (fun k => by simp only [spec_l1Has.l0]; rw [if_pos h1, if_pos h0, if_pos h1, if_neg e, w64 (x := i + 1) (by omega) (by omega)]) ih
theorem l1Has_ev (l : List Int) (x : Int) (hl : l.length ≤ 1048576) : Ev (fun k => spec_l1Has.f k l x) (decide (x ∈ l)) := by
  have h := l1Has_l0_ev l x hl 0 (by omega) (by omega)
  simp only [Int.toNat_zero, List.drop_zero] at h
  exact h
/-- The time of an order of runners, in parts of one unit. -/
def vtN (ls ss : List Int) (pr : Int) (o : List Int) : Nat → Int
  | 0 => 0
  | n + 1 => vtN ls ss pr o n + rd ls (n : Int) * (pr / rd ss (rd o (n : Int)))
def vt (ls ss : List Int) (pr : Int) (o : List Int) : Int := vtN ls ss pr o o.length
def upd (val : List Int → Int) (s b : List Int) : List Int := if s = [] ∨ val b < val s then b else s
def comb (val : List Int → Int) (s : List Int × Int) (b : List Int) : List Int × Int := if s.1 = [] ∨ val b < s.2 then (b, val b) else s
def laterB (val : List Int → Int) (s : List Int × Int) (b : List Int) : List Int × Int := if b = [] then s else comb val s b
theorem comb_upd (val : List Int → Int) (s : List Int × Int) (a b : List Int) (hb : b ≠ []) : comb val (laterB val s a) b = laterB val s (upd val a b) := by
  unfold laterB upd
  by_cases h : a = []
  · subst h
    simp [hb]
  · simp only [h, if_false, false_or]
    by_cases h2 : val b < val a
    · simp only [h2, if_true, hb, if_false]
      unfold comb
      by_cases h3 : s.1 = [] ∨ val a < s.2
      · rw [if_pos h3]
        simp only [h2, or_true, if_true]
        rw [if_pos (by rcases h3 with h3 | h3; exact .inl h3; right; omega)]
      · rw [if_neg h3]
    · simp only [h2, if_false, h]
      unfold comb
      by_cases h3 : s.1 = [] ∨ val a < s.2
      · rw [if_pos h3]
        simp only [h, h2, or_self, if_false]
      · rw [if_neg h3]
        rw [if_neg]
        intro h4
        apply h3
        rcases h4 with h4 | h4
        · exact .inl h4
        · right; omega
theorem room (l : List Int) : ∀ n : Nat, (∀ i : Int, 0 ≤ i → i < n → i ∈ l) → n ≤ l.length := by
  intro n
  induction n generalizing l with
  | zero => intro _; omega
  | succ n ih =>
    intro h
    have hm : (n : Int) ∈ l := h n (by omega) (by omega)
    have := ih (l.erase (n : Int)) (fun i h0 h1 => (List.mem_erase_of_ne (by omega)).2 (h i h0 (by omega)))
    rw [List.length_erase_of_mem hm] at this
    have : 0 < l.length := List.length_pos_of_mem hm
    omega
/-- The first best one of all orders that begin with o: the indices from n - j on are still to be tried. -/
def bestL (n : Nat) (val : List Int → Int) (g : List Int → List Int) (o : List Int) : Nat → List Int → List Int
  | 0, s => s
  | j + 1, s => bestL n val g o j (if ((n : Int) - ((j : Int) + 1)) ∈ o then s else upd val s (g (o ++ [(n : Int) - ((j : Int) + 1)])))
def bestO (n : Nat) (val : List Int → Int) : Nat → List Int → List Int
  | 0, o => o
  | d + 1, o => bestL n val (bestO n val d) o n []
/-- An order of n runners. -/
def ordOk (n : Nat) (o : List Int) : Prop := ∀ x, x ∈ o → 0 ≤ x ∧ x < (n : Int)
theorem ordOk_snoc {n : Nat} {o : List Int} {i : Int} (h : ordOk n o) (h0 : 0 ≤ i) (h1 : i < n) : ordOk n (o ++ [i]) := by
  intro x hx
  rcases List.mem_append.1 hx with hx | hx
  · exact h x hx
  · rw [List.mem_singleton.1 hx]; exact ⟨h0, h1⟩
theorem upd_cases (val : List Int → Int) (s b : List Int) : upd val s b = s ∨ upd val s b = b := by
  unfold upd
  split
  · exact .inr rfl
  · exact .inl rfl
theorem bestL_good {n : Nat} (val : List Int → Int) (g : List Int → List Int) (o : List Int) (G : List Int → Prop) (hg : ∀ i : Int, 0 ≤ i → i < n → G (g (o ++ [i])) ∧ g (o ++ [i]) ≠ []) : ∀ j : Nat, j ≤ n → ∀ s : List Int, (s = [] ∨ G s) → (bestL n val g o j s = [] ∨ G (bestL n val g o j s)) ∧ (s ≠ [] → bestL n val g o j s ≠ []) ∧ ((∃ i : Int, (n : Int) - j ≤ i ∧ i < n ∧ i ∉ o) → bestL n val g o j s ≠ []) := by
  intro j
  induction j with
  | zero =>
    intro _ s hs
    exact ⟨hs, fun h => h, fun ⟨i, a, b, _⟩ => by omega⟩
  | succ j ih =>
    intro hj s hs
    simp only [bestL]
    by_cases c : ((n : Int) - ((j : Int) + 1)) ∈ o
    · rw [if_pos c]
      obtain ⟨a1, a2, a3⟩ := ih (by omega) s hs
      refine ⟨a1, a2, fun ⟨i, b1, b2, b3⟩ => a3 ⟨i, ?_, b2, b3⟩⟩
      by_cases e : i = (n : Int) - ((j : Int) + 1)
      · rw [e] at b3; exact absurd c b3
      · omega
    · rw [if_neg c]
      obtain ⟨g1, g2⟩ := hg ((n : Int) - ((j : Int) + 1)) (by omega) (by omega)
      have hne : upd val s (g (o ++ [(n : Int) - ((j : Int) + 1)])) ≠ [] := by
        by_cases hs0 : s = []
        · unfold upd; rw [if_pos (.inl hs0)]; exact g2
        · rcases upd_cases val s (g (o ++ [(n : Int) - ((j : Int) + 1)])) with e | e <;> rw [e]
          · exact hs0
          · exact g2
      obtain ⟨a1, a2, a3⟩ := ih (by omega) (upd val s (g (o ++ [(n : Int) - ((j : Int) + 1)]))) (by
        by_cases hs0 : s = []
        · right; unfold upd; rw [if_pos (.inl hs0)]; exact g1
        · rcases upd_cases val s (g (o ++ [(n : Int) - ((j : Int) + 1)])) with e | e <;> rw [e]
          · exact hs
          · exact .inr g1)
      exact ⟨a1, fun _ => a2 hne, fun _ => a2 hne⟩
theorem bestO_good {n : Nat} (hn : 1 ≤ n) (val : List Int → Int) : ∀ (d : Nat) (o : List Int), o.length + d = n → ordOk n o → (bestO n val d o).length = n ∧ ordOk n (bestO n val d o) := by
  intro d
  induction d with
  | zero => intro o h ho; exact ⟨by simpa [bestO] using h, ho⟩
  | succ d ih =>
    intro o h ho
    have hg : ∀ i : Int, 0 ≤ i → i < n → ((bestO n val d (o ++ [i])).length = n ∧ ordOk n (bestO n val d (o ++ [i]))) ∧ bestO n val d (o ++ [i]) ≠ [] := by
      intro i h0 h1
      have a := ih (o ++ [i]) (by simp; omega) (ordOk_snoc ho h0 h1)
      exact ⟨a, fun e => by rw [e] at a; simp at a; omega⟩
    obtain ⟨a1, _, a3⟩ := bestL_good val (bestO n val d) o (fun s => s.length = n ∧ ordOk n s) hg n (Nat.le_refl _) [] (.inl rfl)
    have hex : ∃ i : Int, (n : Int) - n ≤ i ∧ i < n ∧ i ∉ o := by
      apply Classical.byContradiction
      intro hc
      have := room o n (fun i h0 h1 => Classical.byContradiction fun hi => hc ⟨i, by omega, h1, hi⟩)
      omega
    simp only [bestO]
    exact a1.resolve_left (a3 hex)
theorem bestO_ne {n : Nat} (hn : 1 ≤ n) (val : List Int → Int) (d : Nat) (o : List Int) (h : o.length + d = n) (ho : ordOk n o) : bestO n val d o ≠ [] := by
  intro e
  have := (bestO_good hn val d o h ho).1
  rw [e] at this
  simp at this
  omega
/-! ### The values -/
theorem rd_append (o : List Int) (i : Int) (j : Nat) (h : j < o.length) : rd (o ++ [i]) (j : Int) = rd o (j : Int) := by
  unfold rd
  simp only [List.getD_eq_getElem?_getD, Int.toNat_natCast]
  rw [List.getElem?_append_left h]
theorem rd_last (o : List Int) (i : Int) : rd (o ++ [i]) (o.length : Int) = i := by
  unfold rd
  simp [List.getD_eq_getElem?_getD]
theorem vtN_append (ls ss : List Int) (pr : Int) (o : List Int) (i : Int) : ∀ n : Nat, n ≤ o.length → vtN ls ss pr (o ++ [i]) n = vtN ls ss pr o n := by
  intro n
  induction n with
  | zero => intro _; rfl
  | succ n ih =>
    intro h
    simp only [vtN]
    rw [ih (by omega), rd_append o i n (by omega)]
theorem vt_snoc (ls ss : List Int) (pr : Int) (o : List Int) (i : Int) : vt ls ss pr (o ++ [i]) = vt ls ss pr o + rd ls (o.length : Int) * (pr / rd ss i) := by
  unfold vt
  rw [List.length_append, List.length_singleton]
  simp only [vtN]
  rw [vtN_append _ _ _ _ _ _ (Nat.le_refl _), rd_last]
/-- What is known of a team. -/
structure Team (ls ss : List Int) (pr : Int) : Prop where
  n1 : 1 ≤ ls.length
  n6 : ls.length ≤ 6
  eq : ss.length = ls.length
  l : ∀ i : Int, 0 ≤ i → i < ls.length → 1 ≤ rd ls i ∧ rd ls i ≤ 1000
  s : ∀ i : Int, 0 ≤ i → i < ls.length → 1 ≤ rd ss i ∧ rd ss i ≤ 100
  p0 : 0 ≤ pr
  p1 : pr ≤ 1000000000000
theorem Team.part {ls ss : List Int} {pr : Int} (T : Team ls ss pr) (i x : Int) (h0 : 0 ≤ i) (h1 : i < ls.length) (x0 : 0 ≤ x) (x1 : x < ls.length) : 0 ≤ pr / rd ss x ∧ pr / rd ss x ≤ 1000000000000 ∧ 0 ≤ rd ls i * (pr / rd ss x) ∧ rd ls i * (pr / rd ss x) ≤ 1000000000000000 := by
  obtain ⟨a, b⟩ := T.l i h0 h1
  obtain ⟨c, d⟩ := T.s x x0 x1
  have q0 : 0 ≤ pr / rd ss x := Int.ediv_nonneg T.p0 (by omega)
  have q1 : pr / rd ss x ≤ 1000000000000 := Int.le_trans (Int.ediv_le_self _ T.p0) T.p1
  exact ⟨q0, q1, Int.mul_nonneg (by omega) q0, Int.le_trans (Int.mul_le_mul b q1 q0 (by omega)) (by omega)⟩
theorem vtN_bd {ls ss : List Int} {pr : Int} (T : Team ls ss pr) (o : List Int) (ho : ordOk ls.length o) (hl : o.length ≤ ls.length) : ∀ n : Nat, n ≤ o.length → 0 ≤ vtN ls ss pr o n ∧ vtN ls ss pr o n ≤ n * 1000000000000000 := by
  intro n
  induction n with
  | zero => intro _; simp [vtN]
  | succ n ih =>
    intro h
    obtain ⟨a, b⟩ := ih (by omega)
    obtain ⟨x0, x1⟩ := ho (rd o (n : Int)) (get_mem o 0 (n : Int) (by omega) (by omega))
    obtain ⟨_, _, c, d⟩ := T.part (n : Int) (rd o (n : Int)) (by omega) (by omega) x0 x1
    simp only [vtN]
    omega
theorem vt_bd {ls ss : List Int} {pr : Int} (T : Team ls ss pr) (o : List Int) (ho : ordOk ls.length o) (hl : o.length ≤ ls.length) : 0 ≤ vt ls ss pr o ∧ vt ls ss pr o ≤ 6000000000000000 := by
  obtain ⟨a, b⟩ := vtN_bd T o ho hl o.length (Nat.le_refl _)
  have := T.n6
  unfold vt
  omega
/-! ### The reference -/
theorem tdiv_ediv {a b : Int} (h : 0 ≤ a) : a.tdiv b = a / b := Int.tdiv_eq_ediv_of_nonneg h
theorem reBetter_l1_ev {ls ss : List Int} {pr : Int} (T : Team ls ss pr) (a b : List Int) (ha : a.length = ls.length) (hb : b.length = ls.length) (oa : ordOk ls.length a) (ob : ordOk ls.length b) (least : Bool) : ∀ i : Nat, i ≤ ls.length → Ev (fun k => spec_reBetter.l1 k ss a b least pr (vtN ls ss pr a i) (vtN ls ss pr b i) ls ls.length i) (if least = true then decide (vt ls ss pr a < vt ls ss pr b) else decide (vt ls ss pr a > vt ls ss pr b)) := by
  have key : ∀ d i : Nat, i + d = ls.length → Ev (fun k => spec_reBetter.l1 k ss a b least pr (vtN ls ss pr a i) (vtN ls ss pr b i) ls ls.length i) (if least = true then decide (vt ls ss pr a < vt ls ss pr b) else decide (vt ls ss pr a > vt ls ss pr b)) := by
    intro d
    induction d with
    | zero =>
      intro i hi
      have e1 : i = a.length := by omega
      have e2 : i = b.length := by omega
      refine Ev.step (fun k => by simp only [spec_reBetter.l1]; rw [if_neg (by omega)]) ?_
      have v1 : vtN ls ss pr a i = vt ls ss pr a := by rw [e1]; rfl
      have v2 : vtN ls ss pr b i = vt ls ss pr b := by rw [e2]; rfl
      rw [v1, v2]
      cases least
      · exact Ev.now _
      · exact Ev.now _
    | succ d ih =>
      intro i hi
      have n6 := T.n6
      have hsl := T.eq
      obtain ⟨x0, x1⟩ := oa (rd a (i : Int)) (get_mem a 0 (i : Int) (by omega) (by omega))
      obtain ⟨y0, y1⟩ := ob (rd b (i : Int)) (get_mem b 0 (i : Int) (by omega) (by omega))
      obtain ⟨c1, c2, c3, c4⟩ := T.part (i : Int) (rd a (i : Int)) (by omega) (by omega) x0 x1
      obtain ⟨d1, d2, d3, d4⟩ := T.part (i : Int) (rd b (i : Int)) (by omega) (by omega) y0 y1
      have sx := T.s _ x0 x1
      have sy := T.s _ y0 y1
      obtain ⟨e1, e2⟩ := vtN_bd T a oa (by omega) i (by omega)
      obtain ⟨f1, f2⟩ := vtN_bd T b ob (by omega) i (by omega)
      have h := ih (i + 1) (by omega)
      refine Ev.step (fun k => ?_) h
      simp only [spec_reBetter.l1, vtN]
      rw [if_pos (by omega), if_pos (by omega), if_pos (by omega), if_pos (by omega), if_pos x0, if_pos (by omega), if_neg (by omega), if_pos (by omega), if_pos y0, if_pos (by omega), if_neg (by omega)]
      rw [tdiv_ediv T.p0, tdiv_ediv T.p0, w64 (x := pr / rd ss (rd a (i : Int))) (by omega) (by omega), w64 (x := pr / rd ss (rd b (i : Int))) (by omega) (by omega), w64 (x := rd ls (i : Int) * (pr / rd ss (rd a (i : Int)))) (by omega) (by omega), w64 (x := rd ls (i : Int) * (pr / rd ss (rd b (i : Int)))) (by omega) (by omega), w64 (x := vtN ls ss pr a i + rd ls (i : Int) * (pr / rd ss (rd a (i : Int)))) (by omega) (by omega), w64 (x := vtN ls ss pr b i + rd ls (i : Int) * (pr / rd ss (rd b (i : Int)))) (by omega) (by omega), w64 (x := (i : Int) + 1) (by omega) (by omega)]
      rfl
  intro i hi
  exact key (ls.length - i) i (by omega)
/-- The product of all speeds. -/
theorem reBetter_ev {ls ss : List Int} (T : Team ls ss (impl_chosenRunners.prod ss)) (a b : List Int) (ha : a.length = ls.length) (hb : b.length = ls.length) (oa : ordOk ls.length a) (ob : ordOk ls.length b) (least : Bool) : Ev (fun k => spec_reBetter.f k ls ss a b least) (if least = true then decide (vt ls ss (impl_chosenRunners.prod ss) a < vt ls ss (impl_chosenRunners.prod ss) b) else decide (vt ls ss (impl_chosenRunners.prod ss) a > vt ls ss (impl_chosenRunners.prod ss) b)) := by
  have hsl := T.eq
  have n6 := T.n6
  have key : ∀ d i : Nat, i + d = ss.length → Ev (fun k => spec_reBetter.l0 k ls ss a b least (impl_chosenRunners.prod (ss.take i)) ss ss.length i) (if least = true then decide (vt ls ss (impl_chosenRunners.prod ss) a < vt ls ss (impl_chosenRunners.prod ss) b) else decide (vt ls ss (impl_chosenRunners.prod ss) a > vt ls ss (impl_chosenRunners.prod ss) b)) := by
    intro d
    induction d with
    | zero =>
      intro i hi
      refine Ev.step (fun k => by simp only [spec_reBetter.l0]; rw [if_neg (by omega)]) ?_
      rw [List.take_of_length_le (by omega)]
      exact reBetter_l1_ev T a b ha hb oa ob least 0 (by omega)
    | succ d ih =>
      intro i hi
      have h := ih (i + 1) (by omega)
      have hp := impl_chosenRunners.prod_take ss (fun i h0 h1 => T.s i h0 (by omega)) (by omega) i (by omega)
      have hp2 := impl_chosenRunners.pow6 i (by omega)
      obtain ⟨s1, s2⟩ := T.s (i : Int) (by omega) (by omega)
      have e : ss.take (i + 1) = ss.take i ++ [rd ss (i : Int)] := take_get ss 0 (i : Int) (by omega) (by omega)
      have hm0 : 0 ≤ impl_chosenRunners.prod (ss.take i) * rd ss (i : Int) := Int.mul_nonneg (by omega) (by omega)
      have hm1 : impl_chosenRunners.prod (ss.take i) * rd ss (i : Int) ≤ 1000000000000 * 100 := Int.mul_le_mul (by omega) s2 (by omega) (by omega)
      rw [e, impl_chosenRunners.prod_snoc] at h
      refine Ev.step (fun k => by simp only [spec_reBetter.l0]; rw [if_pos (by omega), if_pos (by omega), if_pos (by omega), w64 (x := impl_chosenRunners.prod (ss.take i) * rd ss (i : Int)) (by omega) (by omega), w64 (x := (i : Int) + 1) (by omega) (by omega)]; rfl) h
  unfold spec_reBetter.f
  exact key ss.length 0 (by omega)
/-- The sign: 1 for the least, -1 for the most. -/
def sgOf (least : Bool) : Int := if least = true then 1 else -1
def valR (ls ss : List Int) (least : Bool) (o : List Int) : Int := sgOf least * vt ls ss (impl_chosenRunners.prod ss) o
theorem own_eq (l : List Int) (h : l.length < 1000) : spec_l1Own.f l = some l := by
  unfold spec_l1Own.f
  simp only [Option.bind_some, List.length_nil, List.nil_append]
  rw [if_pos (by omega)]
theorem reRunners_ev {ls ss : List Int} (T : Team ls ss (impl_chosenRunners.prod ss)) (least : Bool) : ∀ (d : Nat) (o : List Int), o.length + d = ls.length → ordOk ls.length o → Ev (fun k => spec_reRunners.f k ls ss o least) (bestO ls.length (valR ls ss least) d o) := by
  have hsl := T.eq
  have n6 := T.n6
  have n1 := T.n1
  intro d
  induction d with
  | zero =>
    intro o h ho
    refine Ev.step (fun k => by simp only [spec_reRunners.f]; rw [if_pos (by omega), own_eq o (by omega)]) ?_
    exact Ev.now _
  | succ d ih =>
    intro o h ho
    refine Ev.step (fun k => by simp only [spec_reRunners.f]; rw [if_neg (by omega)]) ?_
    have hg : ∀ i : Int, 0 ≤ i → i < ls.length → ((bestO ls.length (valR ls ss least) d (o ++ [i])).length = ls.length ∧ ordOk ls.length (bestO ls.length (valR ls ss least) d (o ++ [i]))) ∧ bestO ls.length (valR ls ss least) d (o ++ [i]) ≠ [] := fun i h0 h1 =>
      ⟨bestO_good n1 _ d (o ++ [i]) (by simp; omega) (ordOk_snoc ho h0 h1), bestO_ne n1 _ d (o ++ [i]) (by simp; omega) (ordOk_snoc ho h0 h1)⟩
    have key : ∀ j : Nat, j ≤ ls.length → ∀ s : List Int, (s = [] ∨ s.length = ls.length ∧ ordOk ls.length s) → Ev (fun k => spec_reRunners.l0 k ls ss o least s ss.length ((ls.length : Int) - j)) (bestL ls.length (valR ls ss least) (bestO ls.length (valR ls ss least) d) o j s) := by
      intro j
      induction j with
      | zero =>
        intro _ s hs
        refine Ev.step (fun k => by simp only [spec_reRunners.l0]; rw [if_neg (by omega)]) ?_
        exact Ev.now _
      | succ j ihj =>
        intro hj s hs
        have ej : (ls.length : Int) - ((j + 1 : Nat) : Int) = (ls.length : Int) - ((j : Int) + 1) := by omega
        rw [ej]
        obtain ⟨i, hi⟩ : ∃ i : Int, (ls.length : Int) - ((j : Int) + 1) = i := ⟨_, rfl⟩
        simp only [bestL]
        rw [hi]
        have hw : ∀ k s', spec_reRunners.l0 k ls ss o least s' ss.length (wrap64 (i + 1)) = spec_reRunners.l0 k ls ss o least s' ss.length ((ls.length : Int) - j) := by
          intro k s'
          rw [w64 (x := i + 1) (by omega) (by omega)]
          congr 1
          omega
        refine Ev.step (fun k => by simp only [spec_reRunners.l0]; rw [if_pos (by omega)]) ?_
        refine Ev.bind (l1Has_ev o i (by omega)) ?_
        by_cases c : i ∈ o
        · simp only [c, decide_true, if_true]
          exact Ev.congr (fun k => hw k s) (ihj (by omega) s hs)
        · simp only [c, decide_false, Bool.false_eq_true, if_false]
          obtain ⟨⟨g1, g2⟩, g3⟩ := hg i (by omega) (by omega)
          refine Ev.congr (fun k => by rw [own_eq o (by omega), Option.bind_some, if_pos (by omega)]) ?_
          refine Ev.bind (ih (o ++ [i]) (by simp; omega) (ordOk_snoc ho (by omega) (by omega))) ?_
          by_cases hs0 : s = []
          · refine Ev.congr (fun k => by rw [if_pos (by rw [hs0]; rfl), hw]) ?_
            have e : upd (valR ls ss least) s (bestO ls.length (valR ls ss least) d (o ++ [i])) = bestO ls.length (valR ls ss least) d (o ++ [i]) := by unfold upd; rw [if_pos (.inl hs0)]
            rw [e]
            exact ihj (by omega) _ (.inr ⟨g1, g2⟩)
          · obtain ⟨s1, s2⟩ := hs.resolve_left hs0
            refine Ev.congr (fun k => by rw [if_neg (by omega)]) ?_
            refine Ev.bind (reBetter_ev T _ _ g1 s1 g2 s2 least) ?_
            have e : (if least = true then decide (vt ls ss (impl_chosenRunners.prod ss) (bestO ls.length (valR ls ss least) d (o ++ [i])) < vt ls ss (impl_chosenRunners.prod ss) s) else decide (vt ls ss (impl_chosenRunners.prod ss) (bestO ls.length (valR ls ss least) d (o ++ [i])) > vt ls ss (impl_chosenRunners.prod ss) s)) = decide (valR ls ss least (bestO ls.length (valR ls ss least) d (o ++ [i])) < valR ls ss least s) := by
              unfold valR sgOf
              cases least
              · simp
              · simp
            rw [e]
            by_cases cb : valR ls ss least (bestO ls.length (valR ls ss least) d (o ++ [i])) < valR ls ss least s
            · have e2 : upd (valR ls ss least) s (bestO ls.length (valR ls ss least) d (o ++ [i])) = bestO ls.length (valR ls ss least) d (o ++ [i]) := by unfold upd; rw [if_pos (.inr cb)]
              rw [e2]
              refine Ev.congr (fun k => by rw [if_pos (decide_eq_true cb), hw]) ?_
              exact ihj (by omega) _ (.inr ⟨g1, g2⟩)
            · have e2 : upd (valR ls ss least) s (bestO ls.length (valR ls ss least) d (o ++ [i])) = s := by unfold upd; rw [if_neg (by rintro (h' | h'); exact hs0 h'; exact cb h')]
              rw [e2]
              refine Ev.congr (fun k => by rw [if_neg (by simpa using cb), hw]) ?_
              exact ihj (by omega) _ hs
    have h0 := key ls.length (Nat.le_refl _) [] (.inl rfl)
    rw [show (ls.length : Int) - (ls.length : Int) = 0 by omega] at h0
    exact h0
/-! ### The program -/
theorem index_l0_ev (l : List Int) (x : Int) (hl : l.length ≤ 1000) : ∀ i : Int, 0 ≤ i → i ≤ l.length → ∃ r : Int, Ev (fun k => slices_Index_int_int.l0 k l x l.length i) r ∧ (decide (r ≥ 0) = decide (x ∈ l.drop i.toNat)) := by
  refine downI ?_ (fun i h0 h1 ih => ?_)
  · refine ⟨-1, Ev.step (fun k => by simp only [slices_Index_int_int.l0]; rw [if_neg (by omega)]) (Ev.now _), ?_⟩
    rw [List.drop_of_length_le (by omega)]
    simp
  · rw [drop_get l 0 i h0 h1]
    by_cases e : x = rd l i
    · refine ⟨i, Ev.step (fun k => by simp only [slices_Index_int_int.l0]; rw [if_pos h1, if_pos h0, if_pos h1, if_pos e]) (Ev.now _), ?_⟩
      rw [decide_eq_true (show x ∈ l.getD i.toNat 0 :: l.drop (i + 1).toNat from by rw [List.mem_cons]; exact .inl e)]
      exact decide_eq_true h0
    · obtain ⟨r, a, b⟩ := ih
      refine ⟨r, Ev.step (fun k => by simp only [slices_Index_int_int.l0]; rw [if_pos h1, if_pos h0, if_pos h1, if_neg e, w64 (x := i + 1) (by omega) (by omega)]) a, ?_⟩
      rw [b, decide_eq_decide, List.mem_cons]
      exact ⟨.inr, fun h => h.resolve_left e⟩
theorem contains_ev (l : List Int) (x : Int) (hl : l.length ≤ 1000) : Ev (fun k => slices_Contains_int_int.f k l x) (decide (x ∈ l)) := by
  obtain ⟨r, a, b⟩ := index_l0_ev l x hl 0 (by omega) (by omega)
  unfold slices_Contains_int_int.f slices_Index_int_int.f
  refine Ev.bind a ?_
  simp only [Int.toNat_zero, List.drop_zero] at b
  rw [b]
  exact Ev.now _
theorem ext_ev {ls ss : List Int} (T : Team ls ss (impl_chosenRunners.prod ss)) (least : Bool) : ∀ (d : Nat) (o : List Int) (b : List Int) (m : Int), o.length + d = ls.length → ordOk ls.length o → Ev (fun k => impl_chosenRunners.ext ls ss (sgOf least) (impl_chosenRunners.prod ss) k o (vt ls ss (impl_chosenRunners.prod ss) o) b m) (comb (valR ls ss least) (b, m) (bestO ls.length (valR ls ss least) d o)) := by
  have hsl := T.eq
  have n6 := T.n6
  have n1 := T.n1
  intro d
  induction d with
  | zero =>
    intro o b m h ho
    obtain ⟨v0, v1⟩ := vt_bd T o ho (by omega)
    refine Ev.step (f := fun _ => some (comb (valR ls ss least) (b, m) (bestO ls.length (valR ls ss least) 0 o))) (fun k => ?_) (Ev.now _)
    simp only [impl_chosenRunners.ext]
    rw [if_pos (by omega), if_pos (by omega)]
    rfl
  | succ d ih =>
    intro o b m h ho
    obtain ⟨v0, v1⟩ := vt_bd T o ho (by omega)
    refine Ev.step (fun k => by simp only [impl_chosenRunners.ext]; rw [if_pos (by omega), if_neg (by omega)]) ?_
    have hg : ∀ i : Int, 0 ≤ i → i < ls.length → bestO ls.length (valR ls ss least) d (o ++ [i]) ≠ [] := fun i h0 h1 => bestO_ne n1 _ d (o ++ [i]) (by simp; omega) (ordOk_snoc ho h0 h1)
    have key : ∀ j : Nat, j ≤ ls.length → ∀ s : List Int, Ev (fun k => impl_chosenRunners.lp ls ss (sgOf least) (impl_chosenRunners.prod ss) k o (vt ls ss (impl_chosenRunners.prod ss) o) ((ls.length : Int) - j) (laterB (valR ls ss least) (b, m) s).1 (laterB (valR ls ss least) (b, m) s).2) (laterB (valR ls ss least) (b, m) (bestL ls.length (valR ls ss least) (bestO ls.length (valR ls ss least) d) o j s)) := by
      intro j
      induction j with
      | zero =>
        intro _ s
        refine Ev.step (fun k => by simp only [impl_chosenRunners.lp]; rw [if_neg (by omega)]) ?_
        exact Ev.now _
      | succ j ihj =>
        intro hj s
        have ej : (ls.length : Int) - ((j + 1 : Nat) : Int) = (ls.length : Int) - ((j : Int) + 1) := by omega
        rw [ej]
        obtain ⟨i, hi⟩ : ∃ i : Int, (ls.length : Int) - ((j : Int) + 1) = i := ⟨_, rfl⟩
        simp only [bestL]
        rw [hi]
        have hw : i + 1 = (ls.length : Int) - j := by omega
        refine Ev.step (fun k => by simp only [impl_chosenRunners.lp]; rw [if_pos (by omega), if_pos (by omega), hw]) ?_
        refine Ev.bind (contains_ev o i (by omega)) ?_
        by_cases c : i ∈ o
        · simp only [c, decide_true, if_true]
          exact ihj (by omega) s
        · simp only [c, decide_false, Bool.false_eq_true, if_false]
          have h1 := ih (o ++ [i]) (laterB (valR ls ss least) (b, m) s).1 (laterB (valR ls ss least) (b, m) s).2 (by simp; omega) (ordOk_snoc ho (by omega) (by omega))
          rw [vt_snoc, show ((laterB (valR ls ss least) (b, m) s).1, (laterB (valR ls ss least) (b, m) s).2) = laterB (valR ls ss least) (b, m) s from rfl, comb_upd _ _ _ _ (hg i (by omega) (by omega))] at h1
          exact Ev.bind h1 (ihj (by omega) _)
    have h0 := key ls.length (Nat.le_refl _) []
    rw [show (ls.length : Int) - (ls.length : Int) = 0 by omega] at h0
    have e : laterB (valR ls ss least) (b, m) (bestO ls.length (valR ls ss least) (d + 1) o) = comb (valR ls ss least) (b, m) (bestO ls.length (valR ls ss least) (d + 1) o) := by
      unfold laterB
      rw [if_neg (bestO_ne n1 _ (d + 1) o h ho)]
    rw [← e]
    exact h0
/-- Both tell the same order, or both fail. -/
def goodTeam (ls ss : List Int) : Bool := decide (1 ≤ (ls.length : Int) ∧ (ls.length : Int) ≤ 6) && (decide ((ss.length : Int) = (ls.length : Int)) && (ls.all (inB 1 1000) && ss.all (inB 1 100)))
theorem reTeam_ev (ls ss : List Int) : Ev (fun k => spec_reTeam.f k ls ss) (goodTeam ls ss) := by
  unfold spec_reTeam.f goodTeam
  simp only [in_eq, Option.bind_some]
  by_cases h : 1 ≤ (ls.length : Int) ∧ (ls.length : Int) ≤ 6
  · simp only [h, and_self, decide_true, if_true, Bool.true_and]
    by_cases h2 : (ss.length : Int) = (ls.length : Int)
    · simp only [h2, decide_true, if_true, Bool.true_and]
      refine Ev.bind (l1All_ev ls 1 1000 (by omega)) ?_
      cases ls.all (inB 1 1000)
      · simp only [Bool.false_and, Bool.false_eq_true, if_false]; exact Ev.now _
      · simp only [Bool.true_and, if_true]
        exact Ev.bind (l1All_ev ss 1 100 (by omega)) (Ev.now _)
    · simp only [h2, decide_false, if_false, Bool.false_and]
      exact Ev.now _
  · simp only [h, decide_false, Bool.false_and, Bool.false_eq_true, if_false]
    exact Ev.now _
theorem team_of {ls ss : List Int} (h : goodTeam ls ss = true) : Team ls ss (impl_chosenRunners.prod ss) := by
  unfold goodTeam at h
  simp only [Bool.and_eq_true, decide_eq_true_iff] at h
  obtain ⟨⟨a, b⟩, c, d, e⟩ := h
  have hs : ∀ i : Int, 0 ≤ i → i < ls.length → 1 ≤ rd ss i ∧ rd ss i ≤ 100 := fun i h0 h1 => of_decide_eq_true (List.all_eq_true.1 e _ (get_mem ss 0 i h0 (by omega)))
  have hp := impl_chosenRunners.prod_take ss (fun i h0 h1 => hs i h0 (by omega)) (by omega) ss.length (Nat.le_refl _)
  rw [List.take_of_length_le (Nat.le_refl _)] at hp
  have hp2 := impl_chosenRunners.pow6 ss.length (by omega)
  exact ⟨by omega, by omega, by omega, fun i h0 h1 => of_decide_eq_true (List.all_eq_true.1 d _ (get_mem ls 0 i h0 h1)), hs, by omega, by omega⟩
theorem goodB_of {ls ss : List Int} (h : goodTeam ls ss = true) (least : Bool) : impl_chosenRunners.goodB ls ss (sgOf least) = true := by
  have T := team_of h
  have n1 := T.n1
  have n6 := T.n6
  have eq := T.eq
  unfold goodTeam at h
  simp only [Bool.and_eq_true, decide_eq_true_iff] at h
  obtain ⟨_, _, d, e⟩ := h
  unfold impl_chosenRunners.goodB
  have hs : sgOf least = 1 ∨ sgOf least = -1 := by
    unfold sgOf
    cases least
    · exact .inr rfl
    · exact .inl rfl
  rw [Bool.and_eq_true, Bool.and_eq_true]
  exact ⟨⟨d, e⟩, decide_eq_true ⟨n1, n6, eq, hs⟩⟩
def runnersOf (ls ss : List Int) (least : Bool) : List Int × Bool := if goodTeam ls ss = true then (bestO ls.length (valR ls ss least) ls.length [], true) else ([], false)
theorem chosen_ev (ls ss : List Int) (least : Bool) : Ev (fun k => impl_chosenRunners.f k ls ss (sgOf least)) (runnersOf ls ss least) := by
  unfold impl_chosenRunners.f runnersOf
  simp only [within_eq, Option.bind_some]
  by_cases h : 1 ≤ (ls.length : Int) ∧ (ls.length : Int) ≤ 6
  · by_cases h2 : (ss.length : Int) = (ls.length : Int)
    · simp only [h, and_self, decide_true, if_true]
      refine Ev.bind (allWithin_ev ls 1 1000 (by omega)) ?_
      cases e1 : ls.all (inB 1 1000)
      · have : goodTeam ls ss = false := by simp [goodTeam, e1]
        simp only [this, Bool.false_eq_true, if_false]
        exact Ev.now _
      · simp only [if_true, h2]
        refine Ev.bind (allWithin_ev ss 1 100 (by omega)) ?_
        cases e2 : ss.all (inB 1 100)
        · have : goodTeam ls ss = false := by simp [goodTeam, e1, e2]
          simp only [this, Bool.false_eq_true, if_false]
          exact Ev.now _
        · have hg : goodTeam ls ss = true := by simp [goodTeam, e1, e2, h, h2]
          have T := team_of hg
          simp only [hg, if_true, goodB_of hg least]
          have hx := ext_ev T least ls.length [] [] 0 (by simp) (fun x hx => by cases hx)
          have hv : vt ls ss (impl_chosenRunners.prod ss) [] = 0 := rfl
          rw [hv] at hx
          refine Ev.bind hx ?_
          have hc : comb (valR ls ss least) ([], 0) (bestO ls.length (valR ls ss least) ls.length []) = (bestO ls.length (valR ls ss least) ls.length [], valR ls ss least (bestO ls.length (valR ls ss least) ls.length [])) := by simp [comb]
          rw [hc]
          exact Ev.now _
    · have hg : goodTeam ls ss = false := by simp [goodTeam, h2]
      simp only [h, and_self, decide_true, if_true, h2, if_false, hg, Bool.false_eq_true]
      refine Ev.bind (allWithin_ev ls 1 1000 (by omega)) ?_
      cases ls.all (inB 1 1000)
      · simp only [Bool.false_eq_true, if_false]; exact Ev.now _
      · simp only [if_true]; exact Ev.now _
  · have hg : goodTeam ls ss = false := by simp [goodTeam, h]
    simp only [h, decide_false, Bool.false_eq_true, if_false, hg]
    exact Ev.now _
theorem runners_len (ls ss : List Int) (least : Bool) : (runnersOf ls ss least).1.length ≤ 6 := by
  unfold runnersOf
  by_cases h : goodTeam ls ss = true
  · rw [if_pos h]
    have T := team_of h
    have := (bestO_good T.n1 (valR ls ss least) ls.length [] (by simp) (fun x hx => by cases hx)).1
    have := T.n6
    show (bestO ls.length (valR ls ss least) ls.length []).length ≤ 6
    omega
  · rw [if_neg h]
    simp
theorem specRunners_ev (ls ss : List Int) (least : Bool) : Ev (fun k => (spec_reTeam.f k ls ss).bind fun t => (if t = true then ((spec_reRunners.f k ls ss ([] : List Int) least).bind fun t2 => (some (t2, true))) else (some (([] : List Int), false)))) (runnersOf ls ss least) := by
  refine Ev.bind (reTeam_ev ls ss) ?_
  unfold runnersOf
  by_cases h : goodTeam ls ss = true
  · simp only [h, if_true]
    exact Ev.bind (reRunners_ev (team_of h) least ls.length [] (by simp) (fun x hx => by cases hx)) (Ev.now _)
  · simp only [Bool.eq_false_iff.2 h, Bool.false_eq_true, if_false]
    exact Ev.now _
theorem toIntS_l0_ev (l : List Int) (hl : l.length ≤ 1048576) : ∀ i : Int, 0 ≤ i → i ≤ l.length → ∀ acc : List Int, acc.length = l.length → Ev (fun k => laws_toIntS.l0 k l acc i) (acc.take i.toNat ++ l.drop i.toNat) := by
  refine downI (fun acc ha => ?_) (fun i h0 h1 ih acc ha => ?_)
  · refine Ev.step (fun k => by simp only [laws_toIntS.l0]; rw [if_neg (by omega)]) ?_
    rw [List.take_of_length_le (by omega), List.drop_of_length_le (by omega), List.append_nil]
    exact Ev.now _
  · refine Ev.step (fun k => by simp only [laws_toIntS.l0]; rw [if_pos h1, if_pos h0, if_pos (by omega), w64 (x := i + 1) (by omega) (by omega)]) ?_
    have hi := ih (acc.set i.toNat (rd l i)) (by simpa using ha)
    rw [drop_get l 0 i h0 h1]
    rw [show (i + 1).toNat = i.toNat + 1 by omega] at hi ⊢
    rw [set_fill acc _ i.toNat _ (by omega)] at hi
    exact hi
theorem toIntS_ev (l : List Int) (hl : l.length ≤ 1048576) : Ev (fun k => laws_toIntS.f k l) l := by
  refine Ev.congr (fun k => by unfold laws_toIntS.f; rw [if_pos (by omega), if_pos (by omega)]) ?_
  have h := toIntS_l0_ev l hl 0 (by omega) (by omega) (List.replicate ((l.length : Int)).toNat 0) (by simp)
  simpa using h
/-- m, m + 1, m + 2, ..: n of them. -/
def upFrom (m : Int) : Nat → List Int
  | 0 => []
  | n + 1 => m :: upFrom (m + 1) n
theorem upFrom_length : ∀ (n : Nat) (m : Int), (upFrom m n).length = n := by
  intro n
  induction n with
  | zero => intro m; rfl
  | succ n ih => intro m; simp [upFrom, ih]
theorem markIntS_l0_ev : ∀ (d : Nat) (x : List Int) (m i : Int), 0 ≤ i → (x.length : Int) - i = d → x.length ≤ 1048576 → -1000000000 ≤ m → m + d ≤ 1000000000000 → Ev (fun k => laws_markIntS.l0 k x m i) (m + d, x.take i.toNat ++ upFrom m d) := by
  intro d
  induction d with
  | zero =>
    intro x m i h0 hd hl _ _
    refine Ev.step (fun k => by simp only [laws_markIntS.l0]; rw [if_neg (by omega)]) ?_
    rw [List.take_of_length_le (by omega)]
    simp only [upFrom, List.append_nil]
    have : m + ((0 : Nat) : Int) = m := by omega
    rw [this]
    exact Ev.now _
  | succ d ih =>
    intro x m i h0 hd hl hm hm2
    refine Ev.step (fun k => by simp only [laws_markIntS.l0]; rw [if_pos (by omega), if_pos h0, w64 (x := m + 1) (by omega) (by omega), w64 (x := i + 1) (by omega) (by omega)]) ?_
    have h := ih (x.set i.toNat m) (m + 1) (i + 1) (by omega) (by simp; omega) (by simpa using hl) (by omega) (by omega)
    rw [show (i + 1).toNat = i.toNat + 1 by omega, set_fill x (upFrom (m + 1) d) i.toNat m (by omega)] at h
    rw [show m + ((d + 1 : Nat) : Int) = m + 1 + (d : Int) by omega]
    exact h
theorem heldIntS_l0_ev : ∀ (d : Nat) (x : List Int) (m i : Int), 0 ≤ i → x.length ≤ 1048576 → x.drop i.toNat = upFrom m d → (x.length : Int) - i = d → -1000000000 ≤ m → m + d ≤ 1000000000000 → Ev (fun k => laws_heldIntS.l0 k x m i) (m + d) := by
  intro d
  induction d with
  | zero =>
    intro x m i h0 hl hx hd _ _
    refine Ev.step (fun k => by simp only [laws_heldIntS.l0]; rw [if_neg (by omega)]) ?_
    have : m + ((0 : Nat) : Int) = m := by omega
    rw [this]
    exact Ev.now _
  | succ d ih =>
    intro x m i h0 hl hx hd hm hm2
    have hi : i < (x.length : Int) := by omega
    rw [drop_get x 0 i h0 hi] at hx
    simp only [upFrom, List.cons.injEq] at hx
    have e : rd x i = m := hx.1
    refine Ev.step (fun k => by simp only [laws_heldIntS.l0]; rw [if_pos hi, if_pos h0, if_pos e, w64 (x := m + 1) (by omega) (by omega), w64 (x := i + 1) (by omega) (by omega)]) ?_
    rw [show m + ((d + 1 : Nat) : Int) = m + 1 + (d : Int) by omega]
    exact ih x (m + 1) (i + 1) (by omega) hl hx.2 (by omega) (by omega) (by omega)
theorem markIntS_ev (x : List Int) (m : Int) (hl : x.length ≤ 1048576) (h0 : 0 ≤ m) (h1 : m ≤ 1000000000) : Ev (fun k => laws_markIntS.f k x m) (m + x.length, upFrom m x.length) := by
  unfold laws_markIntS.f
  have h := markIntS_l0_ev x.length x m 0 (by omega) (by omega) hl (by omega) (by omega)
  simpa using h
theorem heldIntS_ev (n : Nat) (m : Int) (hl : n ≤ 1048576) (h0 : 0 ≤ m) (h1 : m ≤ 1000000000) : Ev (fun k => laws_heldIntS.f k (upFrom m n) m) (m + n) := by
  unfold laws_heldIntS.f
  have h := heldIntS_l0_ev n (upFrom m n) m 0 (by omega) (by rw [upFrom_length]; exact hl) (by simp) (by rw [upFrom_length]; omega) (by omega) (by omega)
  simpa using h
theorem eqIntS_l0_ev (l : List Int) (hl : l.length ≤ 1048576) : ∀ i : Int, 0 ≤ i → i ≤ l.length → Ev (fun k => laws_eqIntS.l0 k l l i) true := by
  refine downI ?_ (fun i h0 h1 ih => ?_)
  · exact Ev.step (fun k => by simp only [laws_eqIntS.l0]; rw [if_neg (by omega)]) (Ev.now _)
  · refine Ev.step (fun k => by simp only [laws_eqIntS.l0, if_true]; rw [if_pos h1, if_pos h0, if_pos h1, w64 (x := i + 1) (by omega) (by omega)]) ih
theorem eqIntS_ev (l : List Int) (hl : l.length ≤ 1048576) : Ev (fun k => laws_eqIntS.f k l l) true := by
  refine Ev.congr (fun k => by unfold laws_eqIntS.f; rw [if_pos rfl]) ?_
  exact eqIntS_l0_ev l hl 0 (by omega) (by omega)
theorem worstRunners_told (l0 l1 : List Int) : ∃ (r : List Int) (b : Bool), r.length ≤ 6 ∧ Ev (fun k => spec_WorstRunners.f k l0 l1) (r, b) ∧ Ev (fun k => impl_WorstRunners.f k l0 l1) (r, b) := by
  refine ⟨(runnersOf l0 l1 false).1, (runnersOf l0 l1 false).2, runners_len _ _ _, ?_, ?_⟩
  · unfold spec_WorstRunners.f
    exact specRunners_ev l0 l1 false
  · unfold impl_WorstRunners.f
    exact Ev.bind (chosen_ev l0 l1 false) (Ev.now _)
theorem FnExactWorstRunners : laws_FnExactWorstRunners.Pure := by
  intro l0 l1 _ _
  refine Ev.rounds ?_
  unfold laws_FnExactWorstRunners.f
  by_cases c0 : (l0.length : Int) > 1048576
  · exact Ev.congr (fun k => by rw [if_pos c0]) (Ev.now _)
  refine Ev.congr (fun k => by rw [if_neg c0]) ?_
  by_cases c1 : (l1.length : Int) > 1048576
  · exact Ev.congr (fun k => by rw [if_pos c1]) (Ev.now _)
  refine Ev.congr (fun k => by rw [if_neg c1]) ?_
  obtain ⟨r, b, hr, s1, i1⟩ := worstRunners_told l0 l1
  have t0 := toIntS_ev l0 (by omega)
  have t1 := toIntS_ev l1 (by omega)
  have q0 := eqIntS_ev l0 (by omega)
  have q1 := eqIntS_ev l1 (by omega)
  have qr := eqIntS_ev r (by omega)
  refine Ev.bind t0 (Ev.bind t1 (Ev.bind s1 (Ev.bind t0 (Ev.bind t1 (Ev.bind i1 (Ev.bind qr ?_))))))
  simp only [if_true, bne_self_eq_false]
  refine Ev.step (fun k => by simp only [laws_FnExactWorstRunners.j0]; rw [if_neg (by simp)]) ?_
  refine Ev.bind t0 (Ev.bind q0 ?_)
  simp only [if_true]
  refine Ev.bind t1 (Ev.bind q1 ?_)
  simp only [if_true]
  refine Ev.bind (markIntS_ev l0 1 (by omega) (by omega) (by omega)) (Ev.bind (markIntS_ev l1 (1 + l0.length) (by omega) (by omega) (by omega)) ?_)
  refine Ev.congr (fun k => by rw [if_neg (by omega)]) (Ev.bind qr ?_)
  simp only [if_true, bne_self_eq_false]
  refine Ev.step (fun k => by simp only [laws_FnExactWorstRunners.j1]; rw [if_neg (by simp)]) ?_
  refine Ev.bind (markIntS_ev r 1 (by omega) (by omega) (by omega)) (Ev.bind (heldIntS_ev r.length 1 (by omega) (by omega) (by omega)) ?_)
  refine Ev.congr (fun k => by rw [if_neg (by omega), if_pos rfl]) ?_
  refine Ev.bind t0 (Ev.bind t1 (Ev.bind i1 (Ev.bind qr ?_)))
  simp only [if_true, bne_self_eq_false]
  refine Ev.step (fun k => by simp only [laws_FnExactWorstRunners.j2]; rw [if_neg (by simp)]) ?_
  refine Ev.bind (heldIntS_ev r.length 1 (by omega) (by omega) (by omega)) ?_
  exact Ev.congr (fun k => by rw [if_neg (by omega), if_pos rfl]) (Ev.now _)
end Go.Proofs.Ytgjhomhfcifipaa.Pure
