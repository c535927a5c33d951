/- Needed speeds give the mean, best runners need no more than worst ones, joined legs take as long, and a shared bicycle brings both to the end at once, for all drawn inputs. No conditions. -/
import Derived.Test.YtgjhomhfcifipaaQSx13d
import Derived.Test.YtgjhomhfcifipaaPlain
set_option linter.unusedVariables false
set_option linter.unusedSimpArgs false
namespace Go.Proofs.Ytgjhomhfcifipaa.Pure
open Go.RowKit Go.Proofs.Ytgjhomhfcifipaa.QS Go.Proofs.YtgjhomhfcifipaaW.PrintWords Go.Proofs.YtgjhomhfcifipaaW.PrintLast Go.Proofs.YtgjhomhfcifipaaW.PrintMore Go.Proofs.Ytgjhomhfcifipaa.Plain
theorem wrap_mod (x : Int) : ∃ q : Int, wrap64 x = x + 18446744073709551616 * q := by
  refine ⟨-((x + 9223372036854775808) / 18446744073709551616), ?_⟩
  unfold wrap64
  omega
theorem wrap_shift (x q : Int) : wrap64 (x + 18446744073709551616 * q) = wrap64 x := by
  unfold wrap64
  omega
theorem wrap_add_l (a b : Int) : wrap64 (wrap64 a + b) = wrap64 (a + b) := by
  unfold wrap64
  omega
theorem wrap_add_r (a b : Int) : wrap64 (a + wrap64 b) = wrap64 (a + b) := by
  unfold wrap64
  omega
theorem wrap_sub_l (a b : Int) : wrap64 (wrap64 a - b) = wrap64 (a - b) := by
  unfold wrap64
  omega
theorem wrap_sub_r (a b : Int) : wrap64 (a - wrap64 b) = wrap64 (a - b) := by
  unfold wrap64
  omega
theorem wrap_mul_l (a b : Int) : wrap64 (wrap64 a * b) = wrap64 (a * b) := by
  obtain ⟨q, h⟩ := wrap_mod a
  rw [h, Int.add_mul, Int.mul_assoc]
  exact wrap_shift _ _
theorem wrap_mul_r (a b : Int) : wrap64 (a * wrap64 b) = wrap64 (a * b) := by
  rw [Int.mul_comm, wrap_mul_l, Int.mul_comm]
theorem wrap_neg (a : Int) : wrap64 (-wrap64 a) = wrap64 (-a) := by
  unfold wrap64
  omega
theorem w64 {x : Int} (h1 : -9223372036854775808 ≤ x) (h2 : x ≤ 9223372036854775807) : wrap64 x = x := by unfold wrap64; omega
theorem yLow_l0_ev : ∀ (n : Nat) (a b : Int), 0 ≤ a → 0 ≤ b → b.toNat ≤ n → Ev (fun k => laws_yLow.l0 k a b) (gg a b == 1) := by
  intro n
  induction n with
  | zero =>
    intro a b ha hb hn
    have e : b = 0 := by omega
    subst e
    refine Ev.step (fun k => by simp only [laws_yLow.l0]; rw [if_neg (by omega)]) ?_
    rw [gg_zero ha]
    exact Ev.now _
  | succ n ih =>
    intro a b ha hb hn
    by_cases e : b = 0
    · subst e
      refine Ev.step (fun k => by simp only [laws_yLow.l0]; rw [if_neg (by omega)]) ?_
      rw [gg_zero ha]
      exact Ev.now _
    · obtain ⟨g1, g2, g3⟩ := gg_step ha (show 0 < b by omega)
      refine Ev.step (fun k => by simp only [laws_yLow.l0]; rw [if_pos (by omega), if_neg e]) ?_
      rw [← g1]
      exact ih b (a.tmod b) (by omega) g2 (by omega)
/-- A fraction in lowest terms is told so. -/
theorem yLow_ev (a b : Int) (ha : 0 ≤ a) (hb : 1 ≤ b) (hg : gg a b = 1) : Ev (fun k => laws_yLow.f k a b) true := by
  unfold laws_yLow.f
  refine Ev.congr (fun k => by rw [if_neg (by omega), if_neg (by omega)]) ?_
  refine Ev.step (f := fun k => laws_yLow.l0 k a b) (fun k => by simp only [laws_yLow.j0]) ?_
  have h := yLow_l0_ev b.toNat a b ha (by omega) (Nat.le_refl _)
  rw [hg] at h
  exact h
theorem yLow_lo {n d : Int} (hd : 0 < d) (hn : 0 ≤ n) : Ev (fun k => laws_yLow.f k (lo n d).1 (lo n d).2) true :=
  yLow_ev _ _ (lo_nonneg hd hn) (lo_pos n hd) (lo_gcd n hd)
/-! ### A reader of choices: whatever its state, it goes on -/
theorem u64_wrap (n : Int) : IntKind.u64.wrap n = n % 18446744073709551616 := by simp [IntKind.wrap, IntKind.bits, IntKind.signed]
theorem mask255 (y : Int) : 0 ≤ Go.bits .and .u64 (IntKind.u64.wrap y / 1099511627776) 255 ∧ Go.bits .and .u64 (IntKind.u64.wrap y / 1099511627776) 255 ≤ 255 := by
  have h0 : 0 ≤ IntKind.u64.wrap y / 1099511627776 := by rw [u64_wrap]; omega
  have h1 : IntKind.u64.wrap y / 1099511627776 < 2 ^ 24 := by rw [u64_wrap]; omega
  have e := Go.bits_mask .u64 24 (by decide) (fun n a b => by rw [u64_wrap]; omega) 8 (by decide) (IntKind.u64.wrap y / 1099511627776) h0 h1
  rw [show (255 : Int) = 2 ^ 8 - 1 by decide, e]
  omega
/-- The bytes of a code. -/
def Bytes (code : List Int) : Prop := code.length ≤ 1048576 ∧ ∀ x, x ∈ code → 0 ≤ x ∧ x ≤ 255
theorem bytes_of {code : List Int} (hl : code.length ≤ 1048576) (h : ∀ x, x ∈ code → (Lit.int .u8 x).wf = true) : Bytes code := by
  refine ⟨hl, fun x hx => ?_⟩
  have := h x hx
  simp only [Lit.wf, IntKind.min, IntKind.max, IntKind.signed, IntKind.bits, Bool.and_eq_true, decide_eq_true_eq] at this
  simp at this
  omega
theorem next_ok {code : List Int} (hc : Bytes code) (p s : Int) (h0 : 0 ≤ p) (h1 : p ≤ 1000000000) : ∃ x s', spec_l1Cur_next.f code p s = some (x, p + 1, s') ∧ 0 ≤ x ∧ x ≤ 255 := by
  unfold spec_l1Cur_next.f
  have hw : wrap64 (p + 1) = p + 1 := w64 (by omega) (by omega)
  rw [hw]
  by_cases c : p < (code.length : Int)
  · rw [if_pos c, if_pos h0]
    obtain ⟨b0, b1⟩ := hc.2 (rd code p) (get_mem code 0 p h0 c)
    rw [if_pos (by omega), w64 (x := rd code p) (by omega) (by omega)]
    exact ⟨_, _, rfl, b0, b1⟩
  · rw [if_neg c]
    by_cases c2 : p + 1 ≤ (code.length : Int)
    · omega
    · rw [if_neg c2]
      have m := mask255 (IntKind.u64.wrap (IntKind.u64.wrap (s * 6364136223846793005)) + 1442695040888963407)
      rw [w64 (by omega) (by omega)]
      exact ⟨_, _, rfl, m.1, m.2⟩
theorem pick_ok {code : List Int} (hc : Bytes code) (p s n : Int) (h0 : 0 ≤ p) (h1 : p ≤ 999999990) (hn : n ≤ 1000000000) : ∃ x p' s', spec_l1Cur_pick.f code p s n = some (x, p', s') ∧ 0 ≤ x ∧ (1 ≤ n → x < n) ∧ x ≤ 1000000000 ∧ p ≤ p' ∧ p' ≤ p + 2 := by
  unfold spec_l1Cur_pick.f
  by_cases c : n ≤ 1
  · rw [if_pos c]
    exact ⟨0, p, s, rfl, by omega, by omega, by omega, by omega, by omega⟩
  · rw [if_neg c]
    obtain ⟨x, s1, e1, x0, x1⟩ := next_ok hc p s h0 (by omega)
    rw [e1]
    simp only [Option.bind_some]
    have tm : ∀ y : Int, 0 ≤ y → 0 ≤ Int.tmod y n ∧ Int.tmod y n < n := by
      intro y hy
      rw [Int.tmod_eq_emod_of_nonneg hy]
      exact ⟨Int.emod_nonneg _ (by omega), Int.emod_lt_of_pos _ (by omega)⟩
    by_cases c2 : n > 200
    · rw [if_pos c2]
      obtain ⟨y, s2, e2, y0, y1⟩ := next_ok hc (p + 1) s1 (by omega) (by omega)
      rw [e2]
      simp only [Option.bind_some]
      rw [if_neg (by omega), w64 (x := x * 256) (by omega) (by omega), w64 (x := x * 256 + y) (by omega) (by omega)]
      have := tm (x * 256 + y) (by omega)
      exact ⟨_, _, _, rfl, this.1, fun _ => this.2, by omega, by omega, by omega⟩
    · rw [if_neg c2, if_neg (by omega)]
      have := tm x (by omega)
      exact ⟨_, _, _, rfl, this.1, fun _ => this.2, by omega, by omega, by omega⟩
theorem among_ok {code : List Int} (hc : Bytes code) (p s : Int) (l : List Int) (h0 : 0 ≤ p) (h1 : p ≤ 999999990) (hl : 0 < l.length) (hl2 : l.length ≤ 1000) : ∃ x p' s', spec_l1Cur_among.f code p s l = some (x, p', s') ∧ x ∈ l ∧ p ≤ p' ∧ p' ≤ p + 2 := by
  obtain ⟨x, p', s', e, x0, x1, _, p0, p1⟩ := pick_ok hc p s l.length h0 h1 (by omega)
  have x1 := x1 (by omega)
  unfold spec_l1Cur_among.f
  rw [e]
  simp only [Option.bind_some]
  rw [if_pos x0, if_pos x1]
  exact ⟨_, _, _, rfl, get_mem l 0 x x0 x1, p0, p1⟩
theorem one_ok {code : List Int} (hc : Bytes code) (p s n : Int) (h0 : 0 ≤ p) (h1 : p ≤ 999999990) (hn : n ≤ 1000000000) : ∃ x p' s', spec_l1Cur_one.f code p s n = some (x, p', s') ∧ p ≤ p' ∧ p' ≤ p + 2 := by
  obtain ⟨x, p', s', e, x0, x1, _, p0, p1⟩ := pick_ok hc p s n h0 h1 hn
  unfold spec_l1Cur_one.f
  rw [e]
  exact ⟨_, _, _, rfl, p0, p1⟩
theorem sureLegs_l0_ev {code : List Int} (hc : Bytes code) : ∀ (d : Nat) (acc : List S54) (p s : Int), d ≤ 10 → acc.length + d ≤ 100 → 0 ≤ p → p + 4 * d ≤ 999999000 → ∃ r p' s', Ev (fun k => spec_l1Cur_sureLegs.l0 k acc (d : Int) code p s) (r, p', s') ∧ r.length = acc.length + d ∧ p ≤ p' ∧ p' ≤ p + 4 * d := by
  intro d
  induction d with
  | zero =>
    intro acc p s _ _ h0 _
    exact ⟨acc, p, s, Ev.step (fun k => by simp only [spec_l1Cur_sureLegs.l0]; rw [if_neg (by omega)]) (Ev.now _), by simp, by omega, by omega⟩
  | succ d ih =>
    intro acc p s hd ha h0 h1
    obtain ⟨x, p1, s1, e1, x0, x1, x2, q0, q1⟩ := pick_ok hc p s 60 h0 (by omega) (by omega)
    obtain ⟨y, p2, s2, e2, y0, y1, y2, q2, q3⟩ := pick_ok hc p1 s1 12 (by omega) (by omega) (by omega)
    obtain ⟨r, p', s', e, a, b, c⟩ := ih (acc ++ [⟨wrap64 (1 + x), wrap64 (1 + y)⟩]) p2 s2 (by omega) (by simp; omega) (by omega) (by omega)
    refine ⟨r, p', s', ?_, by simp at a; omega, by omega, by omega⟩
    refine Ev.step (fun k => by simp only [spec_l1Cur_sureLegs.l0]; rw [if_pos (by omega), e1, Option.bind_some, e2, Option.bind_some, if_pos (show acc.length < 8796093022208 by omega), w64 (x := ((d + 1 : Nat) : Int) - 1) (by omega) (by omega), show ((d + 1 : Nat) : Int) - 1 = d by omega]) ?_
    exact e
theorem sureLegs_ev {code : List Int} (hc : Bytes code) (p s : Int) (h0 : 0 ≤ p) (h1 : p ≤ 999998000) : ∃ r p' s', Ev (fun k => spec_l1Cur_sureLegs.f k code p s) (r, p', s') ∧ 1 ≤ r.length ∧ r.length ≤ 4 ∧ p ≤ p' ∧ p' ≤ p + 100 := by
  obtain ⟨x, p1, s1, e1, x0, x1, x2, q0, q1⟩ := pick_ok hc p s 4 h0 (by omega) (by omega)
  obtain ⟨d, hd⟩ : ∃ d : Nat, 1 + x = d := ⟨(1 + x).toNat, by omega⟩
  obtain ⟨r, p', s', e, a, b, c⟩ := sureLegs_l0_ev hc d [] p1 s1 (by omega) (by simp; omega) (by omega) (by omega)
  refine ⟨r, p', s', ?_, by simp at a; omega, by simp at a; omega, by omega, by omega⟩
  unfold spec_l1Cur_sureLegs.f
  refine Ev.congr (fun k => by rw [e1, Option.bind_some, w64 (x := 1 + x) (by omega) (by omega), hd]) ?_
  exact e
theorem legs_l0_ev {code : List Int} (hc : Bytes code) : ∀ (d : Nat) (acc : List S54) (p s : Int), (acc.length : Int) + d = 6 → 0 ≤ p → p + 4 * d ≤ 999999000 → ∃ r p' s', Ev (fun k => spec_l1Cur_legs.l0 k acc code p s) (r, p', s') ∧ r.length ≤ 6 ∧ p ≤ p' ∧ p' ≤ p + 4 * d + 2 := by
  intro d
  induction d with
  | zero =>
    intro acc p s ha h0 h1
    obtain ⟨x, p1, s1, e1, x0, x1, x2, q0, q1⟩ := pick_ok hc p s 2 h0 (by omega) (by omega)
    refine ⟨acc, p1, s1, Ev.step (fun k => by simp only [spec_l1Cur_legs.l0]; rw [e1, Option.bind_some, w64 (x := 5 + x) (by omega) (by omega), if_neg (by omega)]) (Ev.now _), by omega, by omega, by omega⟩
  | succ d ih =>
    intro acc p s ha h0 h1
    obtain ⟨x, p1, s1, e1, x0, x1, x2, q0, q1⟩ := pick_ok hc p s 2 h0 (by omega) (by omega)
    by_cases c : (acc.length : Int) < 5 + x
    · obtain ⟨y, p2, s2, e2, ym, q2, q3⟩ := among_ok hc p1 s1 [97, 89, 83, 79, 73, 71, 67, 61] (by omega) (by omega) (by simp) (by simp)
      obtain ⟨r, p', s', e, a, b, g⟩ := ih (acc ++ [⟨7, y⟩]) p2 s2 (by simp; omega) (by omega) (by omega)
      refine ⟨r, p', s', ?_, a, by omega, by omega⟩
      refine Ev.step (fun k => by simp only [spec_l1Cur_legs.l0]; rw [e1, Option.bind_some, w64 (x := 5 + x) (by omega) (by omega), if_pos c, e2, Option.bind_some, if_pos (show acc.length < 8796093022208 by omega)]) ?_
      exact e
    · refine ⟨acc, p1, s1, Ev.step (fun k => by simp only [spec_l1Cur_legs.l0]; rw [e1, Option.bind_some, w64 (x := 5 + x) (by omega) (by omega), if_neg c]) (Ev.now _), by omega, by omega, by omega⟩
theorem legs_ev {code : List Int} (hc : Bytes code) (p s : Int) (h0 : 0 ≤ p) (h1 : p ≤ 999990000) : ∃ r p' s', Ev (fun k => spec_l1Cur_legs.f k code p s) (r, p', s') ∧ r.length ≤ 6 ∧ p ≤ p' ∧ p' ≤ p + 200 := by
  obtain ⟨l, p1, s1, e1, l0, l1, q0, q1⟩ := sureLegs_ev hc p s h0 (by omega)
  obtain ⟨x, p2, s2, e2, x0, x1, x2, q2, q3⟩ := pick_ok hc p1 s1 14 (by omega) (by omega) (by omega)
  by_cases c0 : x = 0
  · refine ⟨[], p2, s2, ?_, by simp, by omega, by omega⟩
    unfold spec_l1Cur_legs.f
    refine Ev.bind e1 (Ev.congr (fun k => by rw [e2, Option.bind_some, if_pos c0]) (Ev.now _))
  by_cases c1 : x = 1
  · obtain ⟨y, p3, s3, e3, ym, q4, q5⟩ := among_ok hc p2 s2 [0, (-1), 1000, 1001, 4611686018427387904] (by omega) (by omega) (by simp) (by simp)
    refine ⟨l.set (0 : Int).toNat ⟨y, (rd_T54 l 0).f1⟩, p3, s3, ?_, by simp; omega, by omega, by omega⟩
    unfold spec_l1Cur_legs.f
    refine Ev.bind e1 (Ev.congr (fun k => by rw [e2, Option.bind_some, if_neg c0, if_pos c1, e3, Option.bind_some, if_pos (show 0 < (l.length : Int) by omega)]) (Ev.now _))
  by_cases c2 : x = 2
  · obtain ⟨y, p3, s3, e3, ym, q4, q5⟩ := among_ok hc p2 s2 [0, (-1), 100, 101, 4611686018427387904] (by omega) (by omega) (by simp) (by simp)
    refine ⟨l.set (0 : Int).toNat ⟨(rd_T54 l 0).f0, y⟩, p3, s3, ?_, by simp; omega, by omega, by omega⟩
    unfold spec_l1Cur_legs.f
    refine Ev.bind e1 (Ev.congr (fun k => by rw [e2, Option.bind_some, if_neg c0, if_neg c1, if_pos c2, e3, Option.bind_some, if_pos (show 0 < (l.length : Int) by omega)]) (Ev.now _))
  by_cases c3 : x = 3
  · obtain ⟨r, p', s', e, a, b, g⟩ := legs_l0_ev hc (6 - l.length) l p2 s2 (by omega) (by omega) (by omega)
    refine ⟨r, p', s', ?_, a, by omega, by omega⟩
    unfold spec_l1Cur_legs.f
    refine Ev.bind e1 (Ev.congr (fun k => by rw [e2, Option.bind_some, if_neg c0, if_neg c1, if_neg c2, if_pos c3]) e)
  · refine ⟨l, p2, s2, ?_, by omega, by omega, by omega⟩
    unfold spec_l1Cur_legs.f
    refine Ev.bind e1 (Ev.congr (fun k => by rw [e2, Option.bind_some, if_neg c0, if_neg c1, if_neg c2, if_neg c3]) (Ev.now _))
theorem team_l0_ev {code : List Int} (hc : Bytes code) : ∀ (d : Nat) (a b : List Int) (p s : Int), d ≤ 10 → a.length + d ≤ 100 → b.length + d ≤ 100 → 0 ≤ p → p + 4 * d ≤ 999990000 → ∃ r q p' s', Ev (fun k => spec_l1Cur_team.l0 k a b (d : Int) code p s) (r, q, p', s') ∧ r.length ≤ a.length + d ∧ q.length ≤ b.length + d + 1 ∧ p ≤ p' ∧ p' ≤ p + 4 * d + 4 := by
  intro d
  induction d with
  | zero =>
    intro a b p s _ ha hb h0 h1
    obtain ⟨x, p1, s1, e1, q0, q1⟩ := one_ok hc p s 10 h0 (by omega) (by omega)
    cases x with
    | false => exact ⟨a, b, p1, s1, Ev.step (fun k => by simp only [spec_l1Cur_team.l0]; rw [if_neg (by omega), e1, Option.bind_some, if_neg (by simp)]) (Ev.now _), by omega, by omega, by omega, by omega⟩
    | true =>
      obtain ⟨y, p3, s3, e3, ym, q4, q5⟩ := among_ok hc p1 s1 [0, 1, 101] (by omega) (by omega) (by simp) (by simp)
      exact ⟨a, b ++ [y], p3, s3, Ev.step (fun k => by simp only [spec_l1Cur_team.l0]; rw [if_neg (by omega), e1, Option.bind_some, if_pos rfl, e3, Option.bind_some, if_pos (show b.length < 17592186044416 by omega)]) (Ev.now _), by omega, by simp, by omega, by omega⟩
  | succ d ih =>
    intro a b p s hd ha hb h0 h1
    obtain ⟨x, p1, s1, e1, x0, x1, x2, q0, q1⟩ := pick_ok hc p s 20 h0 (by omega) (by omega)
    obtain ⟨y, p2, s2, e2, y0, y1, y2, q2, q3⟩ := pick_ok hc p1 s1 9 (by omega) (by omega) (by omega)
    obtain ⟨r, q, p', s', e, c1, c2, c3, c4⟩ := ih (a ++ [wrap64 (1 + x)]) (b ++ [wrap64 (1 + y)]) p2 s2 (by omega) (by simp; omega) (by simp; omega) (by omega) (by omega)
    refine ⟨r, q, p', s', ?_, by simp at c1; omega, by simp at c2; omega, by omega, by omega⟩
    refine Ev.step (fun k => by simp only [spec_l1Cur_team.l0]; rw [if_pos (by omega), e1, Option.bind_some, if_pos (show a.length < 17592186044416 by omega), e2, Option.bind_some, if_pos (show b.length < 17592186044416 by omega), w64 (x := ((d + 1 : Nat) : Int) - 1) (by omega) (by omega), show ((d + 1 : Nat) : Int) - 1 = d by omega]) ?_
    exact e
theorem team_ev {code : List Int} (hc : Bytes code) (p s : Int) (h0 : 0 ≤ p) (h1 : p ≤ 999980000) : ∃ r q p' s', Ev (fun k => spec_l1Cur_team.f k code p s) (r, q, p', s') ∧ r.length ≤ 10 ∧ q.length ≤ 10 ∧ p ≤ p' ∧ p' ≤ p + 100 := by
  obtain ⟨x, p1, s1, e1, x0, x1, x2, q0, q1⟩ := pick_ok hc p s 4 h0 (by omega) (by omega)
  obtain ⟨d, hd⟩ : ∃ d : Nat, 1 + x = d := ⟨(1 + x).toNat, by omega⟩
  obtain ⟨r, q, p', s', e, a, b, c, g⟩ := team_l0_ev hc d [] [] p1 s1 (by omega) (by simp; omega) (by simp; omega) (by omega) (by omega)
  refine ⟨r, q, p', s', ?_, by simp at a; omega, by simp at b; omega, by omega, by omega⟩
  unfold spec_l1Cur_team.f
  refine Ev.congr (fun k => by rw [e1, Option.bind_some, w64 (x := 1 + x) (by omega) (by omega), hd]) ?_
  exact e
theorem drawNeeded_ev {code : List Int} (hc : Bytes code) : ∃ (l : List S54) (a b : Int), Ev (fun k => spec_DrawNeededSpeed.f k code) (l, a, b) ∧ l.length ≤ 6 := by
  obtain ⟨l, p1, s1, e1, l1, q0, q1⟩ := legs_ev hc 0 0 (by omega) (by omega)
  obtain ⟨x, p2, s2, e2, _, q2, q3⟩ := among_ok hc p1 s1 [1, 20, 60, 1000, 1001, 0] (by omega) (by omega) (by simp) (by simp)
  obtain ⟨y, p3, s3, e3, _, q4, q5⟩ := among_ok hc p2 s2 [1, 2, 3, 5, 8, 13, 100, 101, 0] (by omega) (by omega) (by simp) (by simp)
  refine ⟨l, x, y, ?_, l1⟩
  unfold spec_DrawNeededSpeed.f spec_DrawNeededSpeed.i.f
  exact Ev.bind (Ev.bind e1 (Ev.congr (fun k => by rw [e2, Option.bind_some, e3, Option.bind_some]) (Ev.now _))) (Ev.now _)
theorem drawRunners_ev {code : List Int} (hc : Bytes code) : ∃ a b : List Int, Ev (fun k => spec_DrawBestRunners.f k code) (a, b) ∧ a.length ≤ 10 ∧ b.length ≤ 10 := by
  obtain ⟨a, b, p1, s1, e1, h1, h2, q0, q1⟩ := team_ev hc 0 0 (by omega) (by omega)
  refine ⟨a, b, ?_, h1, h2⟩
  unfold spec_DrawBestRunners.f spec_DrawBestRunners.i.f
  exact Ev.bind (Ev.bind e1 (Ev.now _)) (Ev.now _)
theorem drawJoin_ev {code : List Int} (hc : Bytes code) : ∃ l : List S54, Ev (fun k => spec_DrawJoinLegs.f k code) l ∧ l.length ≤ 7 := by
  obtain ⟨l, p1, s1, e1, l1, q0, q1⟩ := legs_ev hc 0 0 (by omega) (by omega)
  unfold spec_DrawJoinLegs.f spec_DrawJoinLegs.i.f
  by_cases c : (l.length : Int) > 0
  · obtain ⟨x, p2, s2, e2, q2, q3⟩ := one_ok hc p1 s1 2 (by omega) (by omega) (by omega)
    cases x with
    | false => exact ⟨l, Ev.bind (Ev.bind e1 (Ev.congr (fun k => by rw [if_pos c, e2, Option.bind_some, if_neg (by simp)]) (Ev.now _))) (Ev.now _), by omega⟩
    | true => exact ⟨l ++ [⟨3, (rd_T54 l ((l.length : Int) - 1)).f1⟩], Ev.bind (Ev.bind e1 (Ev.congr (fun k => by rw [if_pos c, e2, Option.bind_some, if_pos rfl, w64 (x := (l.length : Int) - 1) (by omega) (by omega), if_pos (show 0 ≤ (l.length : Int) - 1 by omega), if_pos (show (l.length : Int) - 1 < (l.length : Int) by omega), if_pos (show l.length < 8796093022208 by omega)]) (Ev.now _))) (Ev.now _), by simp; omega⟩
  · exact ⟨l, Ev.bind (Ev.bind e1 (Ev.congr (fun k => by rw [if_neg c]) (Ev.now _))) (Ev.now _), by omega⟩
theorem drawRide_ev {code : List Int} (hc : Bytes code) : ∃ a b c d : Int, spec_DrawRideAndWalk.f code = some (a, b, c, d) := by
  obtain ⟨x, p1, s1, e1, _, q0, q1⟩ := among_ok hc 0 0 [1, 12, 30, 1000, 1001, 0] (by omega) (by omega) (by simp) (by simp)
  obtain ⟨y, p2, s2, e2, y0, y1, y2, q2, q3⟩ := pick_ok hc p1 s1 8 (by omega) (by omega) (by omega)
  obtain ⟨z, p3, s3, e3, z0, z1, z2, q4, q5⟩ := pick_ok hc p2 s2 8 (by omega) (by omega) (by omega)
  obtain ⟨u, p4, s4, e4, _, q6, q7⟩ := among_ok hc p3 s3 [2, 5, 8, 12, 100, 101, 1, 0] (by omega) (by omega) (by simp) (by simp)
  exact ⟨x, y, z, u, by unfold spec_DrawRideAndWalk.f spec_DrawRideAndWalk.i.f; rw [e1, Option.bind_some, e2, Option.bind_some, e3, Option.bind_some, e4]; rfl⟩
theorem drawShared_ev {code : List Int} (hc : Bytes code) : ∃ a b c : Int, spec_DrawSharedBicycle.f code = some (a, b, c) := by
  obtain ⟨x, p1, s1, e1, _, q0, q1⟩ := among_ok hc 0 0 [1, 12, 30, 1000, 1001, 0] (by omega) (by omega) (by simp) (by simp)
  obtain ⟨y, p2, s2, e2, y0, y1, y2, q2, q3⟩ := pick_ok hc p1 s1 8 (by omega) (by omega) (by omega)
  obtain ⟨u, p4, s4, e4, _, q6, q7⟩ := among_ok hc p2 s2 [2, 5, 8, 12, 100, 101, 1, 0] (by omega) (by omega) (by simp) (by simp)
  exact ⟨x, y, u, by unfold spec_DrawSharedBicycle.f spec_DrawSharedBicycle.i.f; rw [e1, Option.bind_some, e2, Option.bind_some, e4]; rfl⟩
theorem in_eq (a b c : Int) : spec_l1In.f a b c = some (decide (b ≤ a ∧ a ≤ c)) := by
  unfold spec_l1In.f
  by_cases h : a ≥ b
  · rw [if_pos h]; congr 1; simp; omega
  · rw [if_neg h]; congr 1; simp; omega
theorem within_eq (a b c : Int) : impl_within.f a b c = some (decide (b ≤ a ∧ a ≤ c)) := by
  unfold impl_within.f
  by_cases h : a ≥ b
  · rw [if_pos h]; congr 1; simp; omega
  · rw [if_neg h]; congr 1; simp; omega
def okLeg (x : S54) : Bool := decide (1 ≤ x.f0 ∧ x.f0 ≤ 1000) && decide (1 ≤ x.f1 ∧ x.f1 ≤ 100)
def goodLegs (l : List S54) : Bool := decide (1 ≤ (l.length : Int) ∧ (l.length : Int) ≤ 5) && l.all okLeg
theorem okLeg_iff {x : S54} : okLeg x = true ↔ (1 ≤ x.f0 ∧ x.f0 ≤ 1000) ∧ (1 ≤ x.f1 ∧ x.f1 ≤ 100) := by
  unfold okLeg; rw [Bool.and_eq_true, decide_eq_true_iff, decide_eq_true_iff]
theorem reGood_l0_ev (l : List S54) (hl : l.length ≤ 5) : ∀ i : Int, 0 ≤ i → i ≤ l.length → Ev (fun k => spec_reGood.l0 k l l.length i) ((l.drop i.toNat).all okLeg) := by
  refine downI ?_ (fun i h0 h1 ih => ?_)
  · refine Ev.step (fun k => by simp only [spec_reGood.l0]; rw [if_neg (by omega)]) ?_
    rw [List.drop_of_length_le (by omega)]
    exact Ev.now _
  · rw [drop_get l z54 i h0 h1, List.all_cons]
    refine Ev.step (f := fun k => if decide (1 ≤ (rd_T54 l i).f0 ∧ (rd_T54 l i).f0 ≤ 1000) = true then (if decide (1 ≤ (rd_T54 l i).f1 ∧ (rd_T54 l i).f1 ≤ 100) = true then spec_reGood.l0 k l l.length (i + 1) else some false) else some false) (fun k => by simp only [spec_reGood.l0, in_eq, Option.bind_some]; rw [if_pos h1, if_pos h0, if_pos h1, w64 (x := i + 1) (by omega) (by omega)]) ?_
    show Ev _ (okLeg (rd_T54 l i) && _)
    unfold okLeg
    by_cases a : decide (1 ≤ (rd_T54 l i).f0 ∧ (rd_T54 l i).f0 ≤ 1000) = true
    · by_cases b : decide (1 ≤ (rd_T54 l i).f1 ∧ (rd_T54 l i).f1 ≤ 100) = true
      · simp only [a, b, if_true, Bool.true_and]; exact ih
      · simp only [a, b, if_true, Bool.true_and, Bool.false_and, Bool.false_eq_true, if_false]; exact Ev.now _
    · simp only [a, Bool.false_and, Bool.false_eq_true, if_false]; exact Ev.now _
theorem reGood_ev (l : List S54) : Ev (fun k => spec_reGood.f k l) (goodLegs l) := by
  unfold spec_reGood.f goodLegs
  simp only [in_eq, Option.bind_some]
  by_cases h : 1 ≤ (l.length : Int) ∧ (l.length : Int) ≤ 5
  · simp only [h, and_self, decide_true, if_true, Bool.true_and]
    exact reGood_l0_ev l (by omega) 0 (by omega) (by omega)
  · simp only [h, decide_false, Bool.false_and, Bool.false_eq_true, if_false]
    exact Ev.now _
theorem areLegs_1_eq (x : S54) : impl_AreLegs_1.f x.f0 x.f1 = some (!okLeg x) := by
  unfold impl_AreLegs_1.f impl_isLong.f impl_isFast.f okLeg
  simp only [within_eq, Option.bind_some]
  by_cases a : decide (1 ≤ x.f0 ∧ x.f0 ≤ 1000) = true
  · simp [a]
  · simp [a]
theorem indexLeg_ev (l : List S54) (hl : l.length ≤ 5) : ∀ i : Int, 0 ≤ i → i ≤ l.length → ∃ r : Int, Ev (fun k => impl_Leg_72.l0 k l l.length i) r ∧ decide (r ≥ 0) = !((l.drop i.toNat).all okLeg) := by
  refine downI ?_ (fun i h0 h1 ih => ?_)
  · refine ⟨-1, Ev.step (fun k => by simp only [impl_Leg_72.l0]; rw [if_neg (by omega)]) (Ev.now _), ?_⟩
    rw [List.drop_of_length_le (by omega)]
    rfl
  · rw [drop_get l z54 i h0 h1, List.all_cons]
    have st : ∀ k, impl_Leg_72.l0 (k + 1) l l.length i = if (!okLeg (rd_T54 l i)) = true then some i else impl_Leg_72.l0 k l l.length (i + 1) := fun k => by
      simp only [impl_Leg_72.l0, areLegs_1_eq, Option.bind_some]; rw [if_pos h1, if_pos h0, if_pos h1, w64 (x := i + 1) (by omega) (by omega)]
    show ∃ r : Int, _ ∧ _ = !(okLeg (rd_T54 l i) && _)
    cases a : okLeg (rd_T54 l i)
    · exact ⟨i, Ev.step (fun k => by rw [st, a]; rfl) (Ev.now i), by simp [h0]⟩
    · obtain ⟨r, h2, h3⟩ := ih
      exact ⟨r, Ev.step (fun k => by rw [st, a]; rfl) h2, by simpa using h3⟩
theorem areLegs_ev (l : List S54) : Ev (fun k => impl_AreLegs.f k l) (goodLegs l) := by
  unfold impl_AreLegs.f goodLegs
  simp only [within_eq, Option.bind_some]
  by_cases h : 1 ≤ (l.length : Int) ∧ (l.length : Int) ≤ 5
  · simp only [h, and_self, decide_true, if_true, Bool.true_and]
    obtain ⟨r, h1, h2⟩ := indexLeg_ev l (by omega) 0 (by omega) (by omega)
    unfold impl_Leg_65.f impl_Leg_72.f
    refine Ev.bind (Ev.bind h1 (Ev.now _)) ?_
    rw [h2]
    simp only [Bool.not_not]
    exact Ev.now _
  · simp only [h, decide_false, Bool.false_and, Bool.false_eq_true, if_false]
    exact Ev.now _
theorem good_len {l : List S54} (h : goodLegs l = true) : 1 ≤ l.length ∧ l.length ≤ 5 := by
  unfold goodLegs at h
  rw [Bool.and_eq_true, decide_eq_true_iff] at h
  omega
theorem good_ok {l : List S54} (h : goodLegs l = true) : ∀ x, x ∈ l → okLeg x = true := by
  unfold goodLegs at h
  rw [Bool.and_eq_true] at h
  exact List.all_eq_true.1 h.2
def longI (l : List S54) : Int := (l.map (fun x => x.f0)).sum
theorem longI_cons (x : S54) (l : List S54) : longI (x :: l) = x.f0 + longI l := by simp [longI]
theorem longI_bd : ∀ (l : List S54), (∀ x, x ∈ l → okLeg x = true) → (l.length : Int) ≤ longI l ∧ longI l ≤ 1000 * l.length := by
  intro l
  induction l with
  | nil => intro _; simp [longI]
  | cons x l ih =>
    intro h
    rw [longI_cons]
    have h1 := okLeg_iff.1 (h x List.mem_cons_self)
    have h2 := ih (fun y hy => h y (List.mem_cons_of_mem _ hy))
    simp only [List.length_cons]
    omega
theorem reLong_l0_ev (l : List S54) (hl : l.length ≤ 5) (ok : ∀ x, x ∈ l → okLeg x = true) : ∀ i : Int, 0 ≤ i → i ≤ l.length → ∀ s : Int, 0 ≤ s → s ≤ 1000 * i → Ev (fun k => spec_reLong.l0 k s l l.length i) (s + longI (l.drop i.toNat)) := by
  refine downI (fun s h0 h1 => ?_) (fun i h0 h1 ih s hs hs2 => ?_)
  · refine Ev.step (fun k => by simp only [spec_reLong.l0]; rw [if_neg (by omega)]) ?_
    rw [List.drop_of_length_le (by omega)]
    simp only [longI, List.map_nil, List.sum_nil, Int.add_zero]
    exact Ev.now _
  · have hx := okLeg_iff.1 (ok _ (get_mem l z54 i h0 h1))
    rw [drop_get l z54 i h0 h1, longI_cons, ← Int.add_assoc]
    have e : wrap64 (s + (rd_T54 l i).f0) = s + (l.getD i.toNat z54).f0 := w64 (x := s + (l.getD i.toNat z54).f0) (by omega) (by omega)
    refine Ev.step (fun k => by simp only [spec_reLong.l0]; rw [if_pos h1, if_pos h0, if_pos h1, w64 (x := i + 1) (by omega) (by omega), e]) ?_
    exact ih _ (by omega) (by omega)
theorem longOf_l0_ev (l : List S54) (hl : l.length ≤ 5) (ok : ∀ x, x ∈ l → okLeg x = true) : ∀ i : Int, 0 ≤ i → i ≤ l.length → ∀ s : Int, 0 ≤ s → s ≤ 1000 * i → Ev (fun k => impl_longOf.l0 k s l l.length i) (s + longI (l.drop i.toNat)) := by
  refine downI (fun s h0 h1 => ?_) (fun i h0 h1 ih s hs hs2 => ?_)
  · refine Ev.step (fun k => by simp only [impl_longOf.l0]; rw [if_neg (by omega)]) ?_
    rw [List.drop_of_length_le (by omega)]
    simp only [longI, List.map_nil, List.sum_nil, Int.add_zero]
    exact Ev.now _
  · have hx := okLeg_iff.1 (ok _ (get_mem l z54 i h0 h1))
    rw [drop_get l z54 i h0 h1, longI_cons, ← Int.add_assoc]
    have e : wrap64 (s + (rd_T54 l i).f0) = s + (l.getD i.toNat z54).f0 := w64 (x := s + (l.getD i.toNat z54).f0) (by omega) (by omega)
    refine Ev.step (fun k => by simp only [impl_longOf.l0]; rw [if_pos h1, if_pos h0, if_pos h1, w64 (x := i + 1) (by omega) (by omega), e]) ?_
    exact ih _ (by omega) (by omega)
theorem reLong_ev (l : List S54) (hl : l.length ≤ 5) (ok : ∀ x, x ∈ l → okLeg x = true) : Ev (fun k => spec_reLong.f k l) (longI l) := by
  unfold spec_reLong.f
  have h := reLong_l0_ev l hl ok 0 (by omega) (by omega) 0 (by omega) (by omega)
  simpa using h
theorem longOf_ev (l : List S54) (hl : l.length ≤ 5) (ok : ∀ x, x ∈ l → okLeg x = true) : Ev (fun k => impl_longOf.f k l) (longI l) := by
  unfold impl_longOf.f
  have h := longOf_l0_ev l hl ok 0 (by omega) (by omega) 0 (by omega) (by omega)
  simpa using h
theorem most_eq (a b : Int) : spec_l1Most.f a b = some (if a > b then a else b) := by
  unfold spec_l1Most.f; split <;> rfl
theorem l1Abs_eq {a : Int} (h1 : -4611686018427387904 ≤ a) (h2 : a ≤ 4611686018427387904) : spec_l1Abs.f a = some (if a < -a then -a else a) := by
  unfold spec_l1Abs.f
  rw [most_eq]
  have e : wrap64 (-a) = -a := by unfold wrap64; omega
  rw [e]
  simp only [Option.bind_some]
  congr 1
  split <;> split <;> omega
theorem divisorOf_ev : ∀ (n : Nat) (a b : Int), 0 ≤ a → 0 ≤ b → b.toNat ≤ n → Ev (fun k => impl_divisorOf.l0 k a b) (gg a b) := by
  intro n
  induction n with
  | zero =>
    intro a b ha hb hn
    obtain rfl : b = 0 := by omega
    refine Ev.step (fun k => by simp only [impl_divisorOf.l0]; rw [if_neg (by omega)]) ?_
    rw [gg_zero ha]; exact Ev.now a
  | succ n ih =>
    intro a b ha hb hn
    by_cases h : 0 < b
    · obtain ⟨g1, g2, g3⟩ := gg_step ha h
      refine Ev.step (fun k => by simp only [impl_divisorOf.l0]; rw [if_pos h, if_neg (by omega)]) ?_
      rw [← g1]; exact ih b (a.tmod b) hb g2 (by omega)
    · obtain rfl : b = 0 := by omega
      refine Ev.step (fun k => by simp only [impl_divisorOf.l0]; rw [if_neg (by omega)]) ?_
      rw [gg_zero ha]; exact Ev.now a
theorem absOf_eq {a : Int} (h1 : -4611686018427387904 ≤ a) (h2 : a ≤ 4611686018427387904) : impl_absOf.f a = some (if a < -a then -a else a) := by
  unfold impl_absOf.f mx
  have e : wrap64 (-a) = -a := by unfold wrap64; omega
  rw [e]
theorem tdiv_lo1 {n d : Int} (hd : 0 < d) (h1 : -4611686018427387904 ≤ n) (h2 : n ≤ 4611686018427387904) : wrap64 (Int.tdiv n (gg n d)) = (lo n d).1 := by
  rw [Int.tdiv_eq_ediv_of_dvd (gg_l n d)]
  have := lo_bd1 hd h1 h2
  show wrap64 (lo n d).1 = _
  unfold wrap64; omega
theorem tdiv_lo2 {n d : Int} (hd : 0 < d) (h2 : d ≤ 4611686018427387904) : wrap64 (Int.tdiv d (gg n d)) = (lo n d).2 := by
  rw [Int.tdiv_eq_ediv_of_dvd (gg_r n d)]
  have := lo_le2 n hd
  have := lo_pos n hd
  show wrap64 (lo n d).2 = _
  unfold wrap64; omega
theorem lowest_ev {n d : Int} (hd : 0 < d) (h1 : -4611686018427387904 ≤ n) (h2 : n ≤ 4611686018427387904) (h3 : d ≤ 4611686018427387904) : Ev (fun k => impl_lowest.f k n d) (lo n d) := by
  refine Ev.congr (fun k => by unfold impl_lowest.f impl_divisorOf.f; rw [if_neg (by omega), absOf_eq h1 h2, Option.bind_some]) ?_
  have hg := gg_pos (n := n) hd
  refine Ev.bind (divisorOf_ev _ d _ (Int.le_of_lt hd) (by split <;> omega) (Nat.le_refl _)) ?_
  have e : gg d (if n < -n then -n else n) = gg n d := by rw [gg_comm, gg_abs]
  rw [e]
  simp only [if_neg (show ¬ gg n d = 0 by omega), tdiv_lo1 hd h1 h2, tdiv_lo2 (n := n) hd h3]
  exact Ev.now _
theorem meLow_l0_ev (p q : Int) : ∀ (n : Nat) (a b : Int), 0 ≤ a → 0 ≤ b → b.toNat ≤ n → 0 < gg a b → Ev (fun k => spec_meLow.l0 k p q a b) (wrap64 (Int.tdiv p (gg a b)), wrap64 (Int.tdiv q (gg a b))) := by
  intro n
  induction n with
  | zero =>
    intro a b ha hb hn hg
    obtain rfl : b = 0 := by omega
    rw [gg_zero ha] at hg ⊢
    refine Ev.step (fun k => by simp only [spec_meLow.l0]; rw [if_neg (by omega), if_neg (by omega)]) ?_
    exact Ev.now _
  | succ n ih =>
    intro a b ha hb hn hg
    by_cases h : 0 < b
    · obtain ⟨g1, g2, g3⟩ := gg_step ha h
      refine Ev.step (fun k => by simp only [spec_meLow.l0]; rw [if_pos h, if_neg (by omega)]) ?_
      rw [← g1] at hg ⊢; exact ih b (a.tmod b) hb g2 (by omega) hg
    · obtain rfl : b = 0 := by omega
      rw [gg_zero ha] at hg ⊢
      refine Ev.step (fun k => by simp only [spec_meLow.l0]; rw [if_neg (by omega), if_neg (by omega)]) ?_
      exact Ev.now _
theorem meLow_ev {n d : Int} (hd : 0 < d) (h1 : -4611686018427387904 ≤ n) (h2 : n ≤ 4611686018427387904) (h3 : d ≤ 4611686018427387904) : Ev (fun k => spec_meLow.f k n d) (lo n d) := by
  refine Ev.congr (fun k => by unfold spec_meLow.f; rw [if_neg (by omega)]) ?_
  refine Ev.step (fun k => by simp only [spec_meLow.j0]; rw [l1Abs_eq h1 h2, Option.bind_some]) ?_
  have hg := gg_pos (n := n) hd
  have e := gg_abs n d
  have h := meLow_l0_ev n d _ (if n < -n then -n else n) d (by split <;> omega) (Int.le_of_lt hd) (Nat.le_refl _) (by rw [e]; exact hg)
  rw [e, tdiv_lo1 hd h1 h2, tdiv_lo2 (n := n) hd h3] at h
  exact h
def tstep (t : Int × Int) (x : S54) : Int × Int := lo (t.1 * x.f1 + x.f0 * t.2) (t.2 * x.f1)
def timeL (l : List S54) : Int × Int := l.foldl tstep (0, 1)
/-- A time for n legs. -/
structure Tm (n : Nat) (t : Int × Int) : Prop where
  nn : 0 ≤ t.1
  pos : 1 ≤ n → 0 < t.1
  rat : t.1 ≤ (1000 * (n : Int)) * t.2
  one : 1 ≤ t.2
  den : t.2 ≤ pw n
  low : gg t.1 t.2 = 1
theorem Tm.bd {n : Nat} {t : Int × Int} (h : Tm n t) (hn : n ≤ 5) : t.1 ≤ 50000000000000 ∧ t.2 ≤ 10000000000 := by
  have h1 := h.den
  have h2 := pw_le hn
  have h3 := h.rat
  have h4 := mul_bd (a := 1000 * (n : Int)) (b := t.2) (A := 5000) (B := 10000000000) (by omega) (by omega) (by have := h.one; omega) (by omega)
  omega
theorem tm_zero : Tm 0 (0, 1) := ⟨by simp, fun h => absurd h (by omega), by simp, by simp, by simp [pw], by unfold gg; simp⟩
/-- What one leg more comes to, with no overflow. -/
structure Step (n : Nat) (t : Int × Int) (x : S54) : Prop where
  next : Tm (n + 1) (tstep t x)
  a : wrap64 (t.1 * x.f1) = t.1 * x.f1
  b : wrap64 (x.f0 * t.2) = x.f0 * t.2
  c : wrap64 (t.1 * x.f1 + x.f0 * t.2) = t.1 * x.f1 + x.f0 * t.2
  d : wrap64 (t.2 * x.f1) = t.2 * x.f1
  dp : 0 < t.2 * x.f1
  n1 : 0 ≤ t.1 * x.f1 + x.f0 * t.2 ∧ t.1 * x.f1 + x.f0 * t.2 ≤ 4611686018427387904
  d1 : t.2 * x.f1 ≤ 4611686018427387904
theorem step_of {n : Nat} {t : Int × Int} {x : S54} (h : Tm n t) (hn : n ≤ 4) (hx : okLeg x = true) : Step n t x := by
  obtain ⟨⟨l1, l2⟩, f1, f2⟩ := okLeg_iff.1 hx
  obtain ⟨t1, t2⟩ := h.bd (by omega)
  have t3 := h.nn
  have t4 := h.one
  have a := mul_bd (a := t.1) (b := x.f1) (A := 50000000000000) (B := 100) t3 t1 (by omega) f2
  have b := mul_bd (a := x.f0) (b := t.2) (A := 1000) (B := 10000000000) (by omega) l2 (by omega) t2
  have d := mul_bd (a := t.2) (b := x.f1) (A := 10000000000) (B := 100) (by omega) t2 (by omega) f2
  have dp := mul_pos (a := t.2) (b := x.f1) (by omega) (by omega)
  have bp := mul_pos (a := x.f0) (b := t.2) (by omega) (by omega)
  refine ⟨⟨lo_nonneg dp (by omega), fun _ => lo_pos1 dp (by omega), lo_ratio dp ?_, lo_pos _ dp, ?_, lo_gcd _ dp⟩, w64 (by omega) (by omega), w64 (by omega) (by omega), w64 (by omega) (by omega), w64 (by omega) (by omega), dp, ⟨by omega, by omega⟩, by omega⟩
  · have r := mul_le_r (c := x.f1) (by omega) h.rat
    have s1 := mul_le_r (c := t.2) (by omega) l2
    have s2 := mul_le_l (c := 1000 * t.2) (by omega) f1
    have e : (1000 * ((n + 1 : Nat) : Int)) * (t.2 * x.f1) = 1000 * (n : Int) * t.2 * x.f1 + 1000 * t.2 * x.f1 := by
      rw [show ((n + 1 : Nat) : Int) = (n : Int) + 1 by omega]
      grind
    omega
  · refine Int.le_trans (lo_le2 _ dp) ?_
    have := h.den
    have p := pw_pos n
    have := mul_bd (a := t.2) (b := x.f1) (A := pw n) (B := 100) (by omega) h.den (by omega) f2
    simp only [pw]
    omega
theorem tm_foldl : ∀ (l : List S54) (n : Nat) (t : Int × Int), n + l.length ≤ 5 → Tm n t → (∀ x, x ∈ l → okLeg x = true) → Tm (n + l.length) (l.foldl tstep t) := by
  intro l
  induction l with
  | nil => intro n t _ h _; exact h
  | cons x l ih =>
    intro n t hn h ok
    simp only [List.length_cons] at hn
    have := ih (n + 1) (tstep t x) (by omega) (step_of h (by omega) (ok x List.mem_cons_self)).next (fun y hy => ok y (List.mem_cons_of_mem _ hy))
    simp only [List.foldl_cons, List.length_cons]
    rw [show n + (l.length + 1) = n + 1 + l.length by omega]
    exact this
theorem timeL_tm (l : List S54) (hl : l.length ≤ 5) (ok : ∀ x, x ∈ l → okLeg x = true) : Tm l.length (timeL l) := by
  have := tm_foldl l 0 (0, 1) (by omega) tm_zero ok
  rw [Nat.zero_add] at this
  exact this
theorem reTime_l0_ev (l : List S54) (hl : l.length ≤ 5) (ok : ∀ x, x ∈ l → okLeg x = true) : ∀ i : Int, 0 ≤ i → i ≤ l.length → ∀ t : Int × Int, Tm i.toNat t → Ev (fun k => spec_reTime.l0 k t.1 t.2 l l.length i) ((l.drop i.toNat).foldl tstep t) := by
  refine downI (fun t h => ?_) (fun i h0 h1 ih t h => ?_)
  · refine Ev.step (fun k => by simp only [spec_reTime.l0]; rw [if_neg (by omega)]) ?_
    rw [List.drop_of_length_le (by omega)]
    exact Ev.now _
  · have s := step_of h (by omega) (ok _ (get_mem l z54 i h0 h1))
    have n1 := s.n1
    rw [drop_get l z54 i h0 h1, List.foldl_cons]
    refine Ev.step (fun k => by simp only [spec_reTime.l0, rd_T54]; rw [if_pos h1, if_pos h0, if_pos h1, w64 (x := i + 1) (by omega) (by omega), s.a, s.b, s.c, s.d]) ?_
    refine Ev.bind (meLow_ev s.dp (by omega) s.n1.2 s.d1) ?_
    have := s.next
    rw [show i.toNat + 1 = (i + 1).toNat by omega] at this
    exact ih _ this
theorem timeOf_l0_ev (l : List S54) (hl : l.length ≤ 5) (ok : ∀ x, x ∈ l → okLeg x = true) : ∀ i : Int, 0 ≤ i → i ≤ l.length → ∀ t : Int × Int, Tm i.toNat t → Ev (fun k => impl_timeOf.l0 k t.1 t.2 l l.length i) ((l.drop i.toNat).foldl tstep t) := by
  refine downI (fun t h => ?_) (fun i h0 h1 ih t h => ?_)
  · refine Ev.step (fun k => by simp only [impl_timeOf.l0]; rw [if_neg (by omega)]) ?_
    rw [List.drop_of_length_le (by omega)]
    exact Ev.now _
  · have s := step_of h (by omega) (ok _ (get_mem l z54 i h0 h1))
    have n1 := s.n1
    rw [drop_get l z54 i h0 h1, List.foldl_cons]
    refine Ev.step (fun k => by simp only [impl_timeOf.l0, rd_T54]; rw [if_pos h1, if_pos h0, if_pos h1, w64 (x := i + 1) (by omega) (by omega), s.a, s.b, s.c, s.d]) ?_
    refine Ev.bind (lowest_ev s.dp (by omega) s.n1.2 s.d1) ?_
    have := s.next
    rw [show i.toNat + 1 = (i + 1).toNat by omega] at this
    exact ih _ this
theorem reTime_ev (l : List S54) (hl : l.length ≤ 5) (ok : ∀ x, x ∈ l → okLeg x = true) : Ev (fun k => spec_reTime.f k l) (timeL l) := by
  unfold spec_reTime.f timeL
  have h := reTime_l0_ev l hl ok 0 (by omega) (by omega) (0, 1) tm_zero
  simpa using h
theorem timeOf_ev (l : List S54) (hl : l.length ≤ 5) (ok : ∀ x, x ∈ l → okLeg x = true) : Ev (fun k => impl_timeOf.f k l) (timeL l) := by
  unfold impl_timeOf.f timeL
  have h := timeOf_l0_ev l hl ok 0 (by omega) (by omega) (0, 1) tm_zero
  simpa using h
theorem fraction_ev {n d : Int} (hd : 0 < d) (h1 : -4611686018427387904 ≤ n) (h2 : n ≤ 4611686018427387904) (h3 : d ≤ 4611686018427387904) : Ev (fun k => impl_fraction.f k n d) ((lo n d).1, (lo n d).2, true) := by
  unfold impl_fraction.f
  simp only [if_neg (show ¬ d = 0 by omega)]
  exact Ev.bind (lowest_ev hd h1 h2 h3) (Ev.now _)
/-- What is left of the time. -/
def needLeft (l : List S54) (L M : Int) : Int := (longI l + L) * (timeL l).2 - (timeL l).1 * M
structure Need (l : List S54) (L M : Int) : Prop where
  a : wrap64 (longI l + L) = longI l + L
  b : wrap64 ((longI l + L) * (timeL l).2) = (longI l + L) * (timeL l).2
  c : wrap64 ((timeL l).1 * M) = (timeL l).1 * M
  d : wrap64 ((longI l + L) * (timeL l).2 - (timeL l).1 * M) = (longI l + L) * (timeL l).2 - (timeL l).1 * M
  e : wrap64 (L * M) = L * M
  f : wrap64 (L * M * (timeL l).2) = L * M * (timeL l).2
  g : 0 < L * M * (timeL l).2 ∧ L * M * (timeL l).2 ≤ 4611686018427387904
  h : (longI l + L) * (timeL l).2 - (timeL l).1 * M ≤ 4611686018427387904
theorem need_of (l : List S54) (g : goodLegs l = true) {L M : Int} (hL : 1 ≤ L ∧ L ≤ 1000) (hM : 1 ≤ M ∧ M ≤ 100) : Need l L M := by
  have hl := good_len g
  have ok := good_ok g
  have t := timeL_tm l hl.2 ok
  have b := t.bd hl.2
  have o := t.one
  have z := t.nn
  have Lb := longI_bd l ok
  have m1 := mul_bd (a := longI l + L) (b := (timeL l).2) (A := 6000) (B := 10000000000) (by omega) (by omega) (by omega) b.2
  have m2 := mul_bd (a := (timeL l).1) (b := M) (A := 50000000000000) (B := 100) z b.1 (by omega) hM.2
  have m3 := mul_bd (a := L) (b := M) (A := 1000) (B := 100) (by omega) hL.2 (by omega) hM.2
  have m4 := mul_bd (a := L * M) (b := (timeL l).2) (A := 1000 * 100) (B := 10000000000) m3.1 m3.2 (by omega) b.2
  have p := mul_pos (mul_pos (show 0 < L by omega) (show 0 < M by omega)) (show 0 < (timeL l).2 by omega)
  exact ⟨w64 (by omega) (by omega), w64 (by omega) (by omega), w64 (by omega) (by omega), w64 (by omega) (by omega), w64 (by omega) (by omega), w64 (by omega) (by omega), ⟨p, by omega⟩, by omega⟩
def neededR (l : List S54) (L M : Int) : Int × Int × Bool :=
  if goodLegs l = true ∧ (1 ≤ L ∧ L ≤ 1000) ∧ (1 ≤ M ∧ M ≤ 100) ∧ 0 < needLeft l L M then ((lo (L * M * (timeL l).2) (needLeft l L M)).1, (lo (L * M * (timeL l).2) (needLeft l L M)).2, true) else (0, 0, false)
theorem specNeeded_ev (l : List S54) (L M : Int) : Ev (fun k => spec_NeededSpeed.f k l L M) (neededR l L M) := by
  have bad : ∀ {x : Bool}, ¬ (goodLegs l = true ∧ (1 ≤ L ∧ L ≤ 1000) ∧ (1 ≤ M ∧ M ≤ 100) ∧ 0 < needLeft l L M) → x = true → Ev (fun k => spec_NeededSpeed.j0 k l L M x) (neededR l L M) := by
    intro x h hx
    subst hx
    have e : neededR l L M = (0, 0, false) := if_neg h
    rw [e]
    exact Ev.step (fun k => by simp only [spec_NeededSpeed.j0]; rw [if_pos trivial]) (Ev.now _)
  refine Ev.bind (reGood_ev l) ?_
  cases g : goodLegs l with
  | false => simp only [Bool.false_eq_true, if_false]; exact bad (by simp [g]) rfl
  | true =>
    simp only [if_true, in_eq, Option.bind_some, decide_eq_true_eq]
    by_cases hL : 1 ≤ L ∧ L ≤ 1000
    · simp only [if_pos hL]
      by_cases hM : 1 ≤ M ∧ M ≤ 100
      · rw [decide_eq_true hM]
        have N := need_of l g hL hM
        have hl := good_len g
        have ok := good_ok g
        refine Ev.step (fun k => by simp only [spec_NeededSpeed.j0]; rw [if_neg (by simp)]) (Ev.bind (reTime_ev l hl.2 ok) (Ev.bind (reLong_ev l hl.2 ok) ?_))
        simp only [N.a, N.b, N.c, N.d, N.e, N.f]
        by_cases c : (longI l + L) * (timeL l).2 - (timeL l).1 * M ≤ 0
        · simp only [if_pos c]
          have e : neededR l L M = (0, 0, false) := if_neg (by rintro ⟨_, _, _, h⟩; unfold needLeft at h; omega)
          rw [e]
          exact Ev.now _
        · simp only [if_neg c]
          have e : neededR l L M = _ := if_pos ⟨g, hL, hM, by unfold needLeft; omega⟩
          rw [e]
          have ng := N.g
          exact Ev.bind (meLow_ev (by omega) (by omega) N.g.2 N.h) (Ev.now _)
      · exact bad (by rintro ⟨_, _, h, _⟩; exact hM h) (by rw [decide_eq_false hM]; rfl)
    · simp only [if_neg hL]; exact bad (by rintro ⟨_, h, _⟩; exact hL h) rfl
theorem implNeeded_ev (l : List S54) (L M : Int) : Ev (fun k => impl_NeededSpeed.f k l L M) (neededR l L M) := by
  have bad : ∀ {x : Bool}, ¬ (goodLegs l = true ∧ (1 ≤ L ∧ L ≤ 1000) ∧ (1 ≤ M ∧ M ≤ 100) ∧ 0 < needLeft l L M) → x = true → Ev (fun k => impl_NeededSpeed.j0 k l L M x) (neededR l L M) := by
    intro x h hx
    subst hx
    have e : neededR l L M = (0, 0, false) := if_neg h
    rw [e]
    exact Ev.step (fun k => by simp only [impl_NeededSpeed.j0]; rw [if_pos trivial]) (Ev.now _)
  refine Ev.bind (areLegs_ev l) ?_
  cases g : goodLegs l with
  | false => simp only [Bool.false_eq_true, if_false]; exact bad (by simp [g]) rfl
  | true =>
    simp only [if_true, impl_isLong.f, impl_isFast.f, within_eq, Option.bind_some, decide_eq_true_eq]
    by_cases hL : 1 ≤ L ∧ L ≤ 1000
    · simp only [if_pos hL]
      by_cases hM : 1 ≤ M ∧ M ≤ 100
      · rw [decide_eq_true hM]
        have N := need_of l g hL hM
        have hl := good_len g
        have ok := good_ok g
        refine Ev.step (fun k => by simp only [impl_NeededSpeed.j0]; rw [if_neg (by simp)]) (Ev.bind (timeOf_ev l hl.2 ok) (Ev.bind (longOf_ev l hl.2 ok) ?_))
        simp only [N.a, N.b, N.c, N.d, N.e, N.f]
        by_cases c : (longI l + L) * (timeL l).2 - (timeL l).1 * M ≤ 0
        · simp only [if_pos c]
          have e : neededR l L M = (0, 0, false) := if_neg (by rintro ⟨_, _, _, h⟩; unfold needLeft at h; omega)
          rw [e]
          exact Ev.now _
        · simp only [if_neg c]
          have e : neededR l L M = _ := if_pos ⟨g, hL, hM, by unfold needLeft; omega⟩
          rw [e]
          have ng := N.g
          exact Ev.bind (fraction_ev (by omega) (by omega) N.g.2 N.h) (Ev.now _)
      · exact bad (by rintro ⟨_, _, h, _⟩; exact hM h) (by rw [decide_eq_false hM]; rfl)
    · simp only [if_neg hL]; exact bad (by rintro ⟨_, h, _⟩; exact hL h) rfl
theorem needed_ev (l : List S54) (L M : Int) : ∃ r : Int × Int × Bool, Ev (fun k => spec_NeededSpeed.f k l L M) r ∧ Ev (fun k => impl_NeededSpeed.f k l L M) r := ⟨_, specNeeded_ev l L M, implNeeded_ev l L M⟩
/-- One leg more, joined to the last one if that has its speed. -/
def joinS (acc : List S54) (x : S54) : List S54 :=
  if acc.length > 0 ∧ (rd_T54 acc (acc.length - 1)).f1 = x.f1 then acc.set (acc.length - 1) ⟨(rd_T54 acc (acc.length - 1)).f0 + x.f0, (rd_T54 acc (acc.length - 1)).f1⟩ else acc ++ [x]
def joinL (l : List S54) : List S54 := l.foldl joinS []
/-- The joined legs so far: no longer than the legs, in all no longer than 1000 a leg. -/
def JoinOk (acc : List S54) (i : Int) : Prop := (acc.length : Int) ≤ i ∧ ∀ x, x ∈ acc → 0 ≤ x.f0 ∧ x.f0 ≤ 1000 * i
theorem rd_mem {l : List S54} {i : Int} (h0 : 0 ≤ i) (h1 : i < l.length) : rd_T54 l i ∈ l := get_mem l z54 i h0 h1
theorem joinS_ok {acc : List S54} {i : Int} (h : JoinOk acc i) (h0 : 0 ≤ i) {x : S54} (hx : okLeg x = true) : JoinOk (joinS acc x) (i + 1) := by
  obtain ⟨⟨l1, l2⟩, _⟩ := okLeg_iff.1 hx
  obtain ⟨a, b⟩ := h
  unfold joinS
  split
  · rename_i c
    refine ⟨by simp; omega, fun y hy => ?_⟩
    rcases List.mem_or_eq_of_mem_set hy with hy | rfl
    · have := b y hy; omega
    · have := b _ (rd_mem (l := acc) (i := acc.length - 1) (by omega) (by omega))
      simp only
      omega
  · refine ⟨by simp; omega, fun y hy => ?_⟩
    rcases List.mem_append.1 hy with hy | hy
    · have := b y hy; omega
    · rw [List.mem_singleton.1 hy]; omega
def joinEnd (l : List S54) : List S54 × Bool := if goodLegs l = true then (l, true) else ([], false)
theorem join_l0_ev (l : List S54) (hl : l.length ≤ 5) (ok : ∀ x, x ∈ l → okLeg x = true) : ∀ i : Int, 0 ≤ i → i ≤ l.length → ∀ acc : List S54, JoinOk acc i →
    Ev (fun k => spec_JoinLegs.l0 k acc l l.length i) (joinEnd ((l.drop i.toNat).foldl joinS acc)) ∧ Ev (fun k => impl_JoinLegs.l0 k acc l l.length i) (joinEnd ((l.drop i.toNat).foldl joinS acc)) := by
  refine downI (fun acc ha => ?_) (fun i h0 h1 ih acc ha => ?_)
  · rw [List.drop_of_length_le (by omega), List.foldl_nil]
    unfold joinEnd
    refine ⟨Ev.step (fun k => by simp only [spec_JoinLegs.l0]; rw [if_neg (by omega)]) (Ev.bind (reGood_ev acc) ?_), Ev.step (fun k => by simp only [impl_JoinLegs.l0]; rw [if_neg (by omega)]) (Ev.bind (areLegs_ev acc) ?_)⟩
    · cases goodLegs acc <;> exact Ev.now _
    · cases goodLegs acc <;> exact Ev.now _
  · have hx := ok _ (get_mem l z54 i h0 h1)
    have nx := ih _ (joinS_ok ha h0 hx)
    have hx' := okLeg_iff.1 hx
    rw [drop_get l z54 i h0 h1, List.foldl_cons]
    have w1 : wrap64 (i + 1) = i + 1 := w64 (by omega) (by omega)
    obtain ⟨a, b⟩ := ha
    have wl : wrap64 ((acc.length : Int) - 1) = (acc.length : Int) - 1 := w64 (by omega) (by omega)
    change _ ∧ _ at nx
    by_cases c1 : (acc.length : Int) > 0
    · have bm := b _ (rd_mem (l := acc) (i := acc.length - 1) (by omega) (by omega))
      by_cases c2 : (rd_T54 acc (acc.length - 1)).f1 = (rd_T54 l i).f1
      · have e : joinS acc (l.getD i.toNat z54) = acc.set ((acc.length : Int) - 1).toNat ⟨(rd_T54 acc (acc.length - 1)).f0 + (rd_T54 l i).f0, (rd_T54 acc (acc.length - 1)).f1⟩ := by
          unfold joinS
          rw [if_pos ⟨by omega, c2⟩, show ((acc.length : Int) - 1).toNat = acc.length - 1 by omega]
          rfl
        have wv : wrap64 ((rd_T54 acc (acc.length - 1)).f0 + (rd_T54 l i).f0) = (rd_T54 acc (acc.length - 1)).f0 + (rd_T54 l i).f0 := by
          change (1 ≤ (rd_T54 l i).f0 ∧ (rd_T54 l i).f0 ≤ 1000) ∧ _ at hx'
          exact w64 (by omega) (by omega)
        rw [e] at nx ⊢
        refine ⟨Ev.step (fun k => by simp only [spec_JoinLegs.l0]; rw [if_pos h1, if_pos h0, if_pos h1, if_pos c1, wl, if_pos (by omega), if_pos (by omega), if_pos c2, wv, w1]) nx.1, Ev.step (fun k => by simp only [impl_JoinLegs.l0]; rw [if_pos h1, if_pos h0, if_pos h1, if_pos c1, wl, if_pos (by omega), if_pos (by omega), if_pos c2, wv, w1]) nx.2⟩
      · have e : joinS acc (l.getD i.toNat z54) = acc ++ [⟨(rd_T54 l i).f0, (rd_T54 l i).f1⟩] := by
          unfold joinS
          rw [if_neg (fun q => c2 q.2)]
          rfl
        rw [e] at nx ⊢
        refine ⟨Ev.step (fun k => by simp only [spec_JoinLegs.l0]; rw [if_pos h1, if_pos h0, if_pos h1, if_pos c1, wl, if_pos (by omega), if_pos (by omega), if_neg c2, if_pos (by omega), w1]) nx.1, Ev.step (fun k => by simp only [impl_JoinLegs.l0]; rw [if_pos h1, if_pos h0, if_pos h1, if_pos c1, wl, if_pos (by omega), if_pos (by omega), if_neg c2, if_pos (by omega), w1]) nx.2⟩
    · have e : joinS acc (l.getD i.toNat z54) = acc ++ [⟨(rd_T54 l i).f0, (rd_T54 l i).f1⟩] := by
        unfold joinS
        rw [if_neg (fun q => c1 (by have := q.1; omega))]
        rfl
      rw [e] at nx ⊢
      refine ⟨Ev.step (fun k => by simp only [spec_JoinLegs.l0]; rw [if_pos h1, if_pos h0, if_pos h1, if_neg c1, if_pos (by omega), w1]) nx.1, Ev.step (fun k => by simp only [impl_JoinLegs.l0]; rw [if_pos h1, if_pos h0, if_pos h1, if_neg c1, if_pos (by omega), w1]) nx.2⟩
def JoinR (l : List S54) : List S54 × Bool := if goodLegs l = true then joinEnd (joinL l) else ([], false)
theorem joinLegs_ev (l : List S54) : Ev (fun k => spec_JoinLegs.f k l) (JoinR l) ∧ Ev (fun k => impl_JoinLegs.f k l) (JoinR l) ∧ (JoinR l).1.length ≤ 5 := by
  unfold JoinR
  cases g : goodLegs l with
  | true =>
    have hl := good_len g
    obtain ⟨a1, a2⟩ := join_l0_ev l hl.2 (good_ok g) 0 (by omega) (by omega) [] ⟨by simp, by simp⟩
    refine ⟨Ev.bind (reGood_ev l) (by rw [g]; exact a1), Ev.bind (areLegs_ev l) (by rw [g]; exact a2), ?_⟩
    simp only [if_true]
    unfold joinEnd
    split
    · rename_i h; exact (good_len h).2
    · simp
  | false => exact ⟨Ev.bind (reGood_ev l) (by rw [g]; exact Ev.now _), Ev.bind (areLegs_ev l) (by rw [g]; exact Ev.now _), by simp⟩
/-- What the numbers of a shared ride come to. -/
structure Ride (L a b w : Int) : Prop where
  p0 : wrap64 (L * b) = L * b
  p1 : wrap64 (w - a) = w - a
  p2 : wrap64 (w - b) = w - b
  p3 : wrap64 (L * b * (w - a)) = L * b * (w - a)
  q1 : wrap64 (a * (w - b)) = a * (w - b)
  q2 : wrap64 (b * (w - a)) = b * (w - a)
  q3 : wrap64 (a * (w - b) + b * (w - a)) = a * (w - b) + b * (w - a)
  r1 : wrap64 (w * b) = w * b
  r2 : wrap64 (w * a) = w * a
  r3 : wrap64 (w * b + w * a) = w * b + w * a
  r4 : wrap64 (2 * a) = 2 * a
  r5 : wrap64 (2 * a * b) = 2 * a * b
  r6 : w * b + w * a - 2 * a * b = a * (w - b) + b * (w - a)
  s1 : wrap64 (L * b * (w - a) * a) = L * b * (w - a) * a
  s2 : wrap64 (L * (a * (w - b) + b * (w - a))) = L * (a * (w - b) + b * (w - a))
  s3 : wrap64 (L * (a * (w - b) + b * (w - a)) - L * b * (w - a)) = L * (a * (w - b) + b * (w - a)) - L * b * (w - a)
  s4 : wrap64 ((L * (a * (w - b) + b * (w - a)) - L * b * (w - a)) * w) = (L * (a * (w - b) + b * (w - a)) - L * b * (w - a)) * w
  s5 : wrap64 (L * b * (w - a) * a + (L * (a * (w - b) + b * (w - a)) - L * b * (w - a)) * w) = L * b * (w - a) * a + (L * (a * (w - b) + b * (w - a)) - L * b * (w - a)) * w
  t1 : wrap64 ((a * (w - b) + b * (w - a)) * a) = (a * (w - b) + b * (w - a)) * a
  t2 : wrap64 ((a * (w - b) + b * (w - a)) * a * w) = (a * (w - b) + b * (w - a)) * a * w
  t3 : wrap64 ((a * (w - b) + b * (w - a)) * w) = (a * (w - b) + b * (w - a)) * w
  t4 : (a * (w - b) + b * (w - a)) * w * a = (a * (w - b) + b * (w - a)) * a * w
  u1 : 0 ≤ L * b * (w - a) ∧ L * b * (w - a) ≤ 100000 * 100
  u2 : 0 < a * (w - b) + b * (w - a) ∧ a * (w - b) + b * (w - a) ≤ 20000
  u3 : -4611686018427387904 ≤ L * b * (w - a) * a + (L * (a * (w - b) + b * (w - a)) - L * b * (w - a)) * w ∧ L * b * (w - a) * a + (L * (a * (w - b) + b * (w - a)) - L * b * (w - a)) * w ≤ 4611686018427387904
  u4 : 0 < (a * (w - b) + b * (w - a)) * a * w ∧ (a * (w - b) + b * (w - a)) * a * w ≤ 4611686018427387904
theorem ride {L a b w : Int} (hL : 1 ≤ L ∧ L ≤ 1000) (hw : w ≤ 100) (ha : 1 ≤ a ∧ a < w) (hb : 1 ≤ b ∧ b < w) : Ride L a b w := by
  have p0 := mul_bd (A := 1000) (B := 100) (by omega : 0 ≤ L) (by omega) (by omega : 0 ≤ b) (by omega)
  have p3 := mul_bd (A := 100000) (B := 100) p0.1 (by omega) (by omega : 0 ≤ w - a) (by omega)
  have q1 := mul_bd (A := 100) (B := 100) (by omega : 0 ≤ a) (by omega) (by omega : 0 ≤ w - b) (by omega)
  have q2 := mul_bd (A := 100) (B := 100) (by omega : 0 ≤ b) (by omega) (by omega : 0 ≤ w - a) (by omega)
  have q1p := mul_pos (by omega : 0 < a) (by omega : 0 < w - b)
  have r1 := mul_bd (A := 100) (B := 100) (by omega : 0 ≤ w) (by omega) (by omega : 0 ≤ b) (by omega)
  have r2 := mul_bd (A := 100) (B := 100) (by omega : 0 ≤ w) (by omega) (by omega : 0 ≤ a) (by omega)
  have r5 := mul_bd (A := 200) (B := 100) (by omega : 0 ≤ 2 * a) (by omega) (by omega : 0 ≤ b) (by omega)
  have r6 : w * b + w * a - 2 * a * b = a * (w - b) + b * (w - a) := by grind
  have t4 : (a * (w - b) + b * (w - a)) * w * a = (a * (w - b) + b * (w - a)) * a * w := by grind
  have s1 := mul_bd (A := 100000 * 100) (B := 100) p3.1 p3.2 (by omega : 0 ≤ a) (by omega)
  have e1 : L * (a * (w - b) + b * (w - a)) - L * b * (w - a) = L * (a * (w - b)) := by grind
  have q1L := mul_bd (A := 1000) (B := 100 * 100) (by omega : 0 ≤ L) (by omega) q1.1 q1.2
  have s4 := mul_bd (A := 1000 * (100 * 100)) (B := 100) q1L.1 q1L.2 (by omega : 0 ≤ w) (by omega)
  have s2 := mul_bd (A := 1000) (B := 20000) (by omega : 0 ≤ L) (by omega) (by omega : 0 ≤ a * (w - b) + b * (w - a)) (by omega)
  have t1 := mul_bd (A := 20000) (B := 100) (by omega : 0 ≤ a * (w - b) + b * (w - a)) (by omega) (by omega : 0 ≤ a) (by omega)
  have t2 := mul_bd (A := 20000 * 100) (B := 100) t1.1 t1.2 (by omega : 0 ≤ w) (by omega)
  have t3 := mul_bd (A := 20000) (B := 100) (by omega : 0 ≤ a * (w - b) + b * (w - a)) (by omega) (by omega : 0 ≤ w) (by omega)
  have t1p := mul_pos (by omega : 0 < a * (w - b) + b * (w - a)) (by omega : 0 < a)
  have t2p := mul_pos t1p (by omega : 0 < w)
  rw [← e1] at q1L s4
  refine ⟨?_, ?_, ?_, ?_, ?_, ?_, ?_, ?_, ?_, ?_, ?_, ?_, r6, ?_, ?_, ?_, ?_, ?_, ?_, ?_, ?_, t4, p3, ⟨?_, ?_⟩, ⟨?_, ?_⟩, ⟨t2p, ?_⟩⟩
  all_goals first | (refine w64 ?_ ?_ <;> omega) | omega
/-- What both come to. -/
def rideR (L a b w : Int) : Int × Int × Int × Int × Bool :=
  if (1 ≤ L ∧ L ≤ 1000) ∧ w ≤ 100 ∧ (1 ≤ a ∧ a < w) ∧ (1 ≤ b ∧ b < w) then
    ((lo (L * b * (w - a)) (a * (w - b) + b * (w - a))).1, (lo (L * b * (w - a)) (a * (w - b) + b * (w - a))).2,
     (lo (L * b * (w - a) * a + (L * (a * (w - b) + b * (w - a)) - L * b * (w - a)) * w) ((a * (w - b) + b * (w - a)) * a * w)).1,
     (lo (L * b * (w - a) * a + (L * (a * (w - b) + b * (w - a)) - L * b * (w - a)) * w) ((a * (w - b) + b * (w - a)) * a * w)).2, true)
  else (0, 0, 0, 0, false)
theorem spec_ride_ev (L a b w : Int) : Ev (fun k => spec_RideAndWalk.f k L a b w) (rideR L a b w) := by
  by_cases h : (1 ≤ L ∧ L ≤ 1000) ∧ w ≤ 100 ∧ (1 ≤ a ∧ a < w) ∧ (1 ≤ b ∧ b < w)
  · obtain ⟨hL, hw, ha, hb⟩ := h
    have R := ride hL hw ha hb
    have e : rideR L a b w = _ := if_pos ⟨hL, hw, ha, hb⟩
    rw [e]
    have w1 : wrap64 (w - 1) = w - 1 := w64 (by omega) (by omega)
    refine Ev.congr (fun k => by unfold spec_RideAndWalk.f; simp only [in_eq, w1, Option.bind_some]; rw [if_pos (by simp; omega), if_pos (by simp; omega), if_pos (by simp; omega)]) ?_
    refine Ev.step (fun k => by simp only [spec_RideAndWalk.j0]; rw [if_neg (by simp; omega)]) ?_
    simp only [R.p0, R.p1, R.p2, R.p3, R.q1, R.q2, R.q3, R.s1, R.s2, R.s3, R.s4, R.s5, R.t1, R.t2]
    have u1 := R.u1
    have u2 := R.u2
    refine Ev.bind (meLow_ev R.u2.1 (by omega) (by omega) (by omega)) ?_
    refine Ev.bind (meLow_ev R.u4.1 R.u3.1 R.u3.2 R.u4.2) ?_
    exact Ev.now _
  · have e : rideR L a b w = _ := if_neg h
    rw [e]
    refine Ev.congr (f := fun k => spec_RideAndWalk.j0 k L a b w true) (fun k => ?_) (Ev.step (fun k => by simp only [spec_RideAndWalk.j0]; rw [if_pos trivial]) (Ev.now _))
    unfold spec_RideAndWalk.f
    simp only [in_eq, Option.bind_some, decide_eq_true_eq]
    by_cases h1 : 1 ≤ L ∧ L ≤ 1000
    · rw [if_pos h1]
      by_cases h2 : 1 ≤ w ∧ w ≤ 100
      · have w1 : wrap64 (w - 1) = w - 1 := w64 (by omega) (by omega)
        rw [if_pos h2, w1]
        by_cases h3 : 1 ≤ a ∧ a ≤ w - 1
        · rw [if_pos h3]
          have : decide (1 ≤ b ∧ b ≤ w - 1) = false := decide_eq_false (by omega)
          rw [this]; rfl
        · rw [if_neg h3]
      · rw [if_neg h2]
    · rw [if_neg h1]
theorem impl_ride_ev (L a b w : Int) : Ev (fun k => impl_RideAndWalk.f k L a b w) (rideR L a b w) := by
  by_cases h : (1 ≤ L ∧ L ≤ 1000) ∧ w ≤ 100 ∧ (1 ≤ a ∧ a < w) ∧ (1 ≤ b ∧ b < w)
  · obtain ⟨hL, hw, ha, hb⟩ := h
    have R := ride hL hw ha hb
    have e : rideR L a b w = _ := if_pos ⟨hL, hw, ha, hb⟩
    rw [e]
    refine Ev.congr (fun k => by unfold impl_RideAndWalk.f impl_isLong.f impl_isFast.f; simp only [within_eq, Option.bind_some]; rw [if_pos (by simp; omega), if_pos (by simp; omega), if_pos (by simp; omega), if_pos (by simp; omega), if_neg (by omega)]) ?_
    refine Ev.step (fun k => by simp only [impl_RideAndWalk.j0]; rw [if_neg (by simp; omega)]) ?_
    simp only [R.p0, R.p1, R.p3, R.r1, R.r2, R.r3, R.r4, R.r5, R.r6, R.q3, R.s1, R.s2, R.s3, R.s4, R.s5, R.t3, R.t4, R.t2]
    have u1 := R.u1
    have u2 := R.u2
    refine Ev.bind (lowest_ev R.u2.1 (by omega) (by omega) (by omega)) ?_
    refine Ev.bind (lowest_ev R.u4.1 R.u3.1 R.u3.2 R.u4.2) ?_
    exact Ev.now _
  · have e : rideR L a b w = _ := if_neg h
    rw [e]
    refine Ev.congr (f := fun k => impl_RideAndWalk.j0 k L a b w true) (fun k => ?_) (Ev.step (fun k => by simp only [impl_RideAndWalk.j0]; rw [if_pos trivial]) (Ev.now _))
    unfold impl_RideAndWalk.f impl_isLong.f impl_isFast.f
    simp only [within_eq, Option.bind_some, decide_eq_true_eq]
    by_cases h1 : 1 ≤ L ∧ L ≤ 1000
    · rw [if_pos h1]
      by_cases h2 : 1 ≤ a ∧ a ≤ 100
      · rw [if_pos h2]
        by_cases h3 : 1 ≤ b ∧ b ≤ 100
        · rw [if_pos h3]
          by_cases h4 : 1 ≤ w ∧ w ≤ 100
          · rw [if_pos h4]
            by_cases h5 : a ≥ w
            · rw [if_pos h5]
            · rw [if_neg h5]
              have : decide (b ≥ w) = true := decide_eq_true (by omega)
              rw [this]
          · rw [if_neg h4]
        · rw [if_neg h3]
      · rw [if_neg h2]
    · rw [if_neg h1]
def inB (lo hi : Int) (x : Int) : Bool := decide (lo ≤ x ∧ x ≤ hi)
theorem l1All_l0_ev (l : List Int) (lo hi : Int) (hl : l.length ≤ 1048576) : ∀ i : Int, 0 ≤ i → i ≤ l.length → Ev (fun k => spec_l1All.l0 k lo hi l l.length i) ((l.drop i.toNat).all (inB lo hi)) := by
  refine downI ?_ (fun i h0 h1 ih => ?_)
  · refine Ev.step (fun k => by simp only [spec_l1All.l0]; rw [if_neg (by omega)]) ?_
    rw [List.drop_of_length_le (by omega)]
    exact Ev.now _
  · rw [drop_get l 0 i h0 h1, List.all_cons]
    refine Ev.step (f := fun k => if inB lo hi (rd l i) = true then spec_l1All.l0 k lo hi l l.length (i + 1) else some false) (fun k => by simp only [spec_l1All.l0, in_eq, Option.bind_some]; rw [if_pos h1, if_pos h0, if_pos h1, w64 (x := i + 1) (by omega) (by omega)]; rfl) ?_
    show Ev _ (inB lo hi (rd l i) && _)
    cases inB lo hi (rd l i)
    · simp only [Bool.false_and, Bool.false_eq_true, if_false]; exact Ev.now _
    · simp only [Bool.true_and, if_true]; exact ih
theorem l1All_ev (l : List Int) (lo hi : Int) (hl : l.length ≤ 1048576) : Ev (fun k => spec_l1All.f k l lo hi) (l.all (inB lo hi)) := by
  unfold spec_l1All.f
  exact l1All_l0_ev l lo hi hl 0 (by omega) (by omega)
theorem allWithin_l0_ev (l : List Int) (lo hi : Int) (hl : l.length ≤ 1048576) : ∀ i : Int, 0 ≤ i → i ≤ l.length → Ev (fun k => impl_allWithin.l0 k lo hi l l.length i) ((l.drop i.toNat).all (inB lo hi)) := by
  refine downI ?_ (fun i h0 h1 ih => ?_)
  · refine Ev.step (fun k => by simp only [impl_allWithin.l0]; rw [if_neg (by omega)]) ?_
    rw [List.drop_of_length_le (by omega)]
    exact Ev.now _
  · rw [drop_get l 0 i h0 h1, List.all_cons]
    refine Ev.step (f := fun k => if inB lo hi (rd l i) = true then impl_allWithin.l0 k lo hi l l.length (i + 1) else some false) (fun k => by simp only [impl_allWithin.l0, within_eq, Option.bind_some]; rw [if_pos h1, if_pos h0, if_pos h1, w64 (x := i + 1) (by omega) (by omega)]; rfl) ?_
    show Ev _ (inB lo hi (rd l i) && _)
    cases inB lo hi (rd l i)
    · simp only [Bool.false_and, Bool.false_eq_true, if_false]; exact Ev.now _
    · simp only [Bool.true_and, if_true]; exact ih
theorem allWithin_ev (l : List Int) (lo hi : Int) (hl : l.length ≤ 1048576) : Ev (fun k => impl_allWithin.f k l lo hi) (l.all (inB lo hi)) := by
  unfold impl_allWithin.f
  exact allWithin_l0_ev l lo hi hl 0 (by omega) (by omega)
theorem l1Has_l0_ev (l : List Int) (x : Int) (hl : l.length ≤ 1048576) : ∀ i : Int, 0 ≤ i → i ≤ l.length → Ev (fun k => spec_l1Has.l0 k x l l.length i) (decide (x ∈ l.drop i.toNat)) := by
  refine downI ?_ (fun i h0 h1 ih => ?_)
  · refine Ev.step (fun k => by simp only [spec_l1Has.l0]; rw [if_neg (by omega)]) ?_
    rw [List.drop_of_length_le (by omega)]
    exact Ev.now _
  · rw [drop_get l 0 i h0 h1]
    by_cases e : rd l i = x
    · rw [decide_eq_true (show x ∈ l.getD i.toNat 0 :: l.drop (i + 1).toNat from by rw [List.mem_cons]; exact .inl e.symm)]
      exact Ev.step (fun k => by simp only [spec_l1Has.l0]; rw [if_pos h1, if_pos h0, if_pos h1, if_pos e]) (Ev.now _)
    · have e2 : decide (x ∈ l.getD i.toNat 0 :: l.drop (i + 1).toNat) = decide (x ∈ l.drop (i + 1).toNat) := by
        rw [decide_eq_decide, List.mem_cons]
        exact ⟨fun h => h.resolve_left (fun h => e h.symm), .inr⟩
      rw [e2]
      exact Ev.step (fun k => by simp only [spec_l1Has.l0]; rw [if_pos h1, if_pos h0, if_pos h1, if_neg e, w64 (x := i + 1) (by omega) (by omega)]) ih
theorem l1Has_ev (l : List Int) (x : Int) (hl : l.length ≤ 1048576) : Ev (fun k => spec_l1Has.f k l x) (decide (x ∈ l)) := by
  have h := l1Has_l0_ev l x hl 0 (by omega) (by omega)
  simp only [Int.toNat_zero, List.drop_zero] at h
  exact h
/-- The time of an order of runners, in parts of one unit. -/
def vtN (ls ss : List Int) (pr : Int) (o : List Int) : Nat → Int
  | 0 => 0
  | n + 1 => vtN ls ss pr o n + rd ls (n : Int) * (pr / rd ss (rd o (n : Int)))
def vt (ls ss : List Int) (pr : Int) (o : List Int) : Int := vtN ls ss pr o o.length
def upd (val : List Int → Int) (s b : List Int) : List Int := if s = [] ∨ val b < val s then b else s
def comb (val : List Int → Int) (s : List Int × Int) (b : List Int) : List Int × Int := if s.1 = [] ∨ val b < s.2 then (b, val b) else s
def laterB (val : List Int → Int) (s : List Int × Int) (b : List Int) : List Int × Int := if b = [] then s else comb val s b
theorem comb_upd (val : List Int → Int) (s : List Int × Int) (a b : List Int) (hb : b ≠ []) : comb val (laterB val s a) b = laterB val s (upd val a b) := by
  unfold laterB upd
  by_cases h : a = []
  · subst h
    simp [hb]
  · simp only [h, if_false, false_or]
    by_cases h2 : val b < val a
    · simp only [h2, if_true, hb, if_false]
      unfold comb
      by_cases h3 : s.1 = [] ∨ val a < s.2
      · rw [if_pos h3]
        simp only [h2, or_true, if_true]
        rw [if_pos (by rcases h3 with h3 | h3; exact .inl h3; right; omega)]
      · rw [if_neg h3]
    · simp only [h2, if_false, h]
      unfold comb
      by_cases h3 : s.1 = [] ∨ val a < s.2
      · rw [if_pos h3]
        simp only [h, h2, or_self, if_false]
      · rw [if_neg h3]
        rw [if_neg]
        intro h4
        apply h3
        rcases h4 with h4 | h4
        · exact .inl h4
        · right; omega
theorem room (l : List Int) : ∀ n : Nat, (∀ i : Int, 0 ≤ i → i < n → i ∈ l) → n ≤ l.length := by
  intro n
  induction n generalizing l with
  | zero => intro _; omega
  | succ n ih =>
    intro h
    have hm : (n : Int) ∈ l := h n (by omega) (by omega)
    have := ih (l.erase (n : Int)) (fun i h0 h1 => (List.mem_erase_of_ne (by omega)).2 (h i h0 (by omega)))
    rw [List.length_erase_of_mem hm] at this
    have : 0 < l.length := List.length_pos_of_mem hm
    omega
/-- The first best one of all orders that begin with o: the indices from n - j on are still to be tried. -/
def bestL (n : Nat) (val : List Int → Int) (g : List Int → List Int) (o : List Int) : Nat → List Int → List Int
  | 0, s => s
  | j + 1, s => bestL n val g o j (if ((n : Int) - ((j : Int) + 1)) ∈ o then s else upd val s (g (o ++ [(n : Int) - ((j : Int) + 1)])))
def bestO (n : Nat) (val : List Int → Int) : Nat → List Int → List Int
  | 0, o => o
  | d + 1, o => bestL n val (bestO n val d) o n []
/-- An order of n runners. -/
def ordOk (n : Nat) (o : List Int) : Prop := ∀ x, x ∈ o → 0 ≤ x ∧ x < (n : Int)
theorem ordOk_snoc {n : Nat} {o : List Int} {i : Int} (h : ordOk n o) (h0 : 0 ≤ i) (h1 : i < n) : ordOk n (o ++ [i]) := by
  intro x hx
  rcases List.mem_append.1 hx with hx | hx
  · exact h x hx
  · rw [List.mem_singleton.1 hx]; exact ⟨h0, h1⟩
theorem upd_cases (val : List Int → Int) (s b : List Int) : upd val s b = s ∨ upd val s b = b := by
  unfold upd
  split
  · exact .inr rfl
  · exact .inl rfl
theorem bestL_good {n : Nat} (val : List Int → Int) (g : List Int → List Int) (o : List Int) (G : List Int → Prop) (hg : ∀ i : Int, 0 ≤ i → i < n → G (g (o ++ [i])) ∧ g (o ++ [i]) ≠ []) : ∀ j : Nat, j ≤ n → ∀ s : List Int, (s = [] ∨ G s) → (bestL n val g o j s = [] ∨ G (bestL n val g o j s)) ∧ (s ≠ [] → bestL n val g o j s ≠ []) ∧ ((∃ i : Int, (n : Int) - j ≤ i ∧ i < n ∧ i ∉ o) → bestL n val g o j s ≠ []) := by
  intro j
  induction j with
  | zero =>
    intro _ s hs
    exact ⟨hs, fun h => h, fun ⟨i, a, b, _⟩ => by omega⟩
  | succ j ih =>
    intro hj s hs
    simp only [bestL]
    by_cases c : ((n : Int) - ((j : Int) + 1)) ∈ o
    · rw [if_pos c]
      obtain ⟨a1, a2, a3⟩ := ih (by omega) s hs
      refine ⟨a1, a2, fun ⟨i, b1, b2, b3⟩ => a3 ⟨i, ?_, b2, b3⟩⟩
      by_cases e : i = (n : Int) - ((j : Int) + 1)
      · rw [e] at b3; exact absurd c b3
      · omega
    · rw [if_neg c]
      obtain ⟨g1, g2⟩ := hg ((n : Int) - ((j : Int) + 1)) (by omega) (by omega)
      have hne : upd val s (g (o ++ [(n : Int) - ((j : Int) + 1)])) ≠ [] := by
        by_cases hs0 : s = []
        · unfold upd; rw [if_pos (.inl hs0)]; exact g2
        · rcases upd_cases val s (g (o ++ [(n : Int) - ((j : Int) + 1)])) with e | e <;> rw [e]
          · exact hs0
          · exact g2
      obtain ⟨a1, a2, a3⟩ := ih (by omega) (upd val s (g (o ++ [(n : Int) - ((j : Int) + 1)]))) (by
        by_cases hs0 : s = []
        · right; unfold upd; rw [if_pos (.inl hs0)]; exact g1
        · rcases upd_cases val s (g (o ++ [(n : Int) - ((j : Int) + 1)])) with e | e <;> rw [e]
          · exact hs
          · exact .inr g1)
      exact ⟨a1, fun _ => a2 hne, fun _ => a2 hne⟩
theorem bestO_good {n : Nat} (hn : 1 ≤ n) (val : List Int → Int) : ∀ (d : Nat) (o : List Int), o.length + d = n → ordOk n o → (bestO n val d o).length = n ∧ ordOk n (bestO n val d o) := by
  intro d
  induction d with
  | zero => intro o h ho; exact ⟨by simpa [bestO] using h, ho⟩
  | succ d ih =>
    intro o h ho
    have hg : ∀ i : Int, 0 ≤ i → i < n → ((bestO n val d (o ++ [i])).length = n ∧ ordOk n (bestO n val d (o ++ [i]))) ∧ bestO n val d (o ++ [i]) ≠ [] := by
      intro i h0 h1
      have a := ih (o ++ [i]) (by simp; omega) (ordOk_snoc ho h0 h1)
      exact ⟨a, fun e => by rw [e] at a; simp at a; omega⟩
    obtain ⟨a1, _, a3⟩ := bestL_good val (bestO n val d) o (fun s => s.length = n ∧ ordOk n s) hg n (Nat.le_refl _) [] (.inl rfl)
    have hex : ∃ i : Int, (n : Int) - n ≤ i ∧ i < n ∧ i ∉ o := by
      apply Classical.byContradiction
      intro hc
      have := room o n (fun i h0 h1 => Classical.byContradiction fun hi => hc ⟨i, by omega, h1, hi⟩)
      omega
    simp only [bestO]
    exact a1.resolve_left (a3 hex)
theorem bestO_ne {n : Nat} (hn : 1 ≤ n) (val : List Int → Int) (d : Nat) (o : List Int) (h : o.length + d = n) (ho : ordOk n o) : bestO n val d o ≠ [] := by
  intro e
  have := (bestO_good hn val d o h ho).1
  rw [e] at this
  simp at this
  omega
/-! ### The values -/
theorem rd_append (o : List Int) (i : Int) (j : Nat) (h : j < o.length) : rd (o ++ [i]) (j : Int) = rd o (j : Int) := by
  unfold rd
  simp only [List.getD_eq_getElem?_getD, Int.toNat_natCast]
  rw [List.getElem?_append_left h]
theorem rd_last (o : List Int) (i : Int) : rd (o ++ [i]) (o.length : Int) = i := by
  unfold rd
  simp [List.getD_eq_getElem?_getD]
theorem vtN_append (ls ss : List Int) (pr : Int) (o : List Int) (i : Int) : ∀ n : Nat, n ≤ o.length → vtN ls ss pr (o ++ [i]) n = vtN ls ss pr o n := by
  intro n
  induction n with
  | zero => intro _; rfl
  | succ n ih =>
    intro h
    simp only [vtN]
    rw [ih (by omega), rd_append o i n (by omega)]
theorem vt_snoc (ls ss : List Int) (pr : Int) (o : List Int) (i : Int) : vt ls ss pr (o ++ [i]) = vt ls ss pr o + rd ls (o.length : Int) * (pr / rd ss i) := by
  unfold vt
  rw [List.length_append, List.length_singleton]
  simp only [vtN]
  rw [vtN_append _ _ _ _ _ _ (Nat.le_refl _), rd_last]
/-- What is known of a team. -/
structure Team (ls ss : List Int) (pr : Int) : Prop where
  n1 : 1 ≤ ls.length
  n6 : ls.length ≤ 6
  eq : ss.length = ls.length
  l : ∀ i : Int, 0 ≤ i → i < ls.length → 1 ≤ rd ls i ∧ rd ls i ≤ 1000
  s : ∀ i : Int, 0 ≤ i → i < ls.length → 1 ≤ rd ss i ∧ rd ss i ≤ 100
  p0 : 0 ≤ pr
  p1 : pr ≤ 1000000000000
theorem Team.part {ls ss : List Int} {pr : Int} (T : Team ls ss pr) (i x : Int) (h0 : 0 ≤ i) (h1 : i < ls.length) (x0 : 0 ≤ x) (x1 : x < ls.length) : 0 ≤ pr / rd ss x ∧ pr / rd ss x ≤ 1000000000000 ∧ 0 ≤ rd ls i * (pr / rd ss x) ∧ rd ls i * (pr / rd ss x) ≤ 1000000000000000 := by
  obtain ⟨a, b⟩ := T.l i h0 h1
  obtain ⟨c, d⟩ := T.s x x0 x1
  have q0 : 0 ≤ pr / rd ss x := Int.ediv_nonneg T.p0 (by omega)
  have q1 : pr / rd ss x ≤ 1000000000000 := Int.le_trans (Int.ediv_le_self _ T.p0) T.p1
  exact ⟨q0, q1, Int.mul_nonneg (by omega) q0, Int.le_trans (Int.mul_le_mul b q1 q0 (by omega)) (by omega)⟩
theorem vtN_bd {ls ss : List Int} {pr : Int} (T : Team ls ss pr) (o : List Int) (ho : ordOk ls.length o) (hl : o.length ≤ ls.length) : ∀ n : Nat, n ≤ o.length → 0 ≤ vtN ls ss pr o n ∧ vtN ls ss pr o n ≤ n * 1000000000000000 := by
  intro n
  induction n with
  | zero => intro _; simp [vtN]
  | succ n ih =>
    intro h
    obtain ⟨a, b⟩ := ih (by omega)
    obtain ⟨x0, x1⟩ := ho (rd o (n : Int)) (get_mem o 0 (n : Int) (by omega) (by omega))
    obtain ⟨_, _, c, d⟩ := T.part (n : Int) (rd o (n : Int)) (by omega) (by omega) x0 x1
    simp only [vtN]
    omega
theorem vt_bd {ls ss : List Int} {pr : Int} (T : Team ls ss pr) (o : List Int) (ho : ordOk ls.length o) (hl : o.length ≤ ls.length) : 0 ≤ vt ls ss pr o ∧ vt ls ss pr o ≤ 6000000000000000 := by
  obtain ⟨a, b⟩ := vtN_bd T o ho hl o.length (Nat.le_refl _)
  have := T.n6
  unfold vt
  omega
/-! ### The reference -/
theorem tdiv_ediv {a b : Int} (h : 0 ≤ a) : a.tdiv b = a / b := Int.tdiv_eq_ediv_of_nonneg h
theorem reBetter_l1_ev {ls ss : List Int} {pr : Int} (T : Team ls ss pr) (a b : List Int) (ha : a.length = ls.length) (hb : b.length = ls.length) (oa : ordOk ls.length a) (ob : ordOk ls.length b) (least : Bool) : ∀ i : Nat, i ≤ ls.length → Ev (fun k => spec_reBetter.l1 k ss a b least pr (vtN ls ss pr a i) (vtN ls ss pr b i) ls ls.length i) (if least = true then decide (vt ls ss pr a < vt ls ss pr b) else decide (vt ls ss pr a > vt ls ss pr b)) := by
  have key : ∀ d i : Nat, i + d = ls.length → Ev (fun k => spec_reBetter.l1 k ss a b least pr (vtN ls ss pr a i) (vtN ls ss pr b i) ls ls.length i) (if least = true then decide (vt ls ss pr a < vt ls ss pr b) else decide (vt ls ss pr a > vt ls ss pr b)) := by
    intro d
    induction d with
    | zero =>
      intro i hi
      have e1 : i = a.length := by omega
      have e2 : i = b.length := by omega
      refine Ev.step (fun k => by simp only [spec_reBetter.l1]; rw [if_neg (by omega)]) ?_
      have v1 : vtN ls ss pr a i = vt ls ss pr a := by rw [e1]; rfl
      have v2 : vtN ls ss pr b i = vt ls ss pr b := by rw [e2]; rfl
      rw [v1, v2]
      cases least
      · exact Ev.now _
      · exact Ev.now _
    | succ d ih =>
      intro i hi
      have n6 := T.n6
      have hsl := T.eq
      obtain ⟨x0, x1⟩ := oa (rd a (i : Int)) (get_mem a 0 (i : Int) (by omega) (by omega))
      obtain ⟨y0, y1⟩ := ob (rd b (i : Int)) (get_mem b 0 (i : Int) (by omega) (by omega))
      obtain ⟨c1, c2, c3, c4⟩ := T.part (i : Int) (rd a (i : Int)) (by omega) (by omega) x0 x1
      obtain ⟨d1, d2, d3, d4⟩ := T.part (i : Int) (rd b (i : Int)) (by omega) (by omega) y0 y1
      have sx := T.s _ x0 x1
      have sy := T.s _ y0 y1
      obtain ⟨e1, e2⟩ := vtN_bd T a oa (by omega) i (by omega)
      obtain ⟨f1, f2⟩ := vtN_bd T b ob (by omega) i (by omega)
      have h := ih (i + 1) (by omega)
      refine Ev.step (fun k => ?_) h
      simp only [spec_reBetter.l1, vtN]
      rw [if_pos (by omega), if_pos (by omega), if_pos (by omega), if_pos (by omega), if_pos x0, if_pos (by omega), if_neg (by omega), if_pos (by omega), if_pos y0, if_pos (by omega), if_neg (by omega)]
      rw [tdiv_ediv T.p0, tdiv_ediv T.p0, w64 (x := pr / rd ss (rd a (i : Int))) (by omega) (by omega), w64 (x := pr / rd ss (rd b (i : Int))) (by omega) (by omega), w64 (x := rd ls (i : Int) * (pr / rd ss (rd a (i : Int)))) (by omega) (by omega), w64 (x := rd ls (i : Int) * (pr / rd ss (rd b (i : Int)))) (by omega) (by omega), w64 (x := vtN ls ss pr a i + rd ls (i : Int) * (pr / rd ss (rd a (i : Int)))) (by omega) (by omega), w64 (x := vtN ls ss pr b i + rd ls (i : Int) * (pr / rd ss (rd b (i : Int)))) (by omega) (by omega), w64 (x := (i : Int) + 1) (by omega) (by omega)]
      rfl
  intro i hi
  exact key (ls.length - i) i (by omega)
/-- The product of all speeds. -/
theorem reBetter_ev {ls ss : List Int} (T : Team ls ss (impl_chosenRunners.prod ss)) (a b : List Int) (ha : a.length = ls.length) (hb : b.length = ls.length) (oa : ordOk ls.length a) (ob : ordOk ls.length b) (least : Bool) : Ev (fun k => spec_reBetter.f k ls ss a b least) (if least = true then decide (vt ls ss (impl_chosenRunners.prod ss) a < vt ls ss (impl_chosenRunners.prod ss) b) else decide (vt ls ss (impl_chosenRunners.prod ss) a > vt ls ss (impl_chosenRunners.prod ss) b)) := by
  have hsl := T.eq
  have n6 := T.n6
  have key : ∀ d i : Nat, i + d = ss.length → Ev (fun k => spec_reBetter.l0 k ls ss a b least (impl_chosenRunners.prod (ss.take i)) ss ss.length i) (if least = true then decide (vt ls ss (impl_chosenRunners.prod ss) a < vt ls ss (impl_chosenRunners.prod ss) b) else decide (vt ls ss (impl_chosenRunners.prod ss) a > vt ls ss (impl_chosenRunners.prod ss) b)) := by
    intro d
    induction d with
    | zero =>
      intro i hi
      refine Ev.step (fun k => by simp only [spec_reBetter.l0]; rw [if_neg (by omega)]) ?_
      rw [List.take_of_length_le (by omega)]
      exact reBetter_l1_ev T a b ha hb oa ob least 0 (by omega)
    | succ d ih =>
      intro i hi
      have h := ih (i + 1) (by omega)
      have hp := impl_chosenRunners.prod_take ss (fun i h0 h1 => T.s i h0 (by omega)) (by omega) i (by omega)
      have hp2 := impl_chosenRunners.pow6 i (by omega)
      obtain ⟨s1, s2⟩ := T.s (i : Int) (by omega) (by omega)
      have e : ss.take (i + 1) = ss.take i ++ [rd ss (i : Int)] := take_get ss 0 (i : Int) (by omega) (by omega)
      have hm0 : 0 ≤ impl_chosenRunners.prod (ss.take i) * rd ss (i : Int) := Int.mul_nonneg (by omega) (by omega)
      have hm1 : impl_chosenRunners.prod (ss.take i) * rd ss (i : Int) ≤ 1000000000000 * 100 := Int.mul_le_mul (by omega) s2 (by omega) (by omega)
      rw [e, impl_chosenRunners.prod_snoc] at h
      refine Ev.step (fun k => by simp only [spec_reBetter.l0]; rw [if_pos (by omega), if_pos (by omega), if_pos (by omega), w64 (x := impl_chosenRunners.prod (ss.take i) * rd ss (i : Int)) (by omega) (by omega), w64 (x := (i : Int) + 1) (by omega) (by omega)]; rfl) h
  unfold spec_reBetter.f
  exact key ss.length 0 (by omega)
/-- The sign: 1 for the least, -1 for the most. -/
def sgOf (least : Bool) : Int := if least = true then 1 else -1
def valR (ls ss : List Int) (least : Bool) (o : List Int) : Int := sgOf least * vt ls ss (impl_chosenRunners.prod ss) o
theorem own_eq (l : List Int) (h : l.length < 1000) : spec_l1Own.f l = some l := by
  unfold spec_l1Own.f
  simp only [Option.bind_some, List.length_nil, List.nil_append]
  rw [if_pos (by omega)]
theorem reRunners_ev {ls ss : List Int} (T : Team ls ss (impl_chosenRunners.prod ss)) (least : Bool) : ∀ (d : Nat) (o : List Int), o.length + d = ls.length → ordOk ls.length o → Ev (fun k => spec_reRunners.f k ls ss o least) (bestO ls.length (valR ls ss least) d o) := by
  have hsl := T.eq
  have n6 := T.n6
  have n1 := T.n1
  intro d
  induction d with
  | zero =>
    intro o h ho
    refine Ev.step (fun k => by simp only [spec_reRunners.f]; rw [if_pos (by omega), own_eq o (by omega)]) ?_
    exact Ev.now _
  | succ d ih =>
    intro o h ho
    refine Ev.step (fun k => by simp only [spec_reRunners.f]; rw [if_neg (by omega)]) ?_
    have hg : ∀ i : Int, 0 ≤ i → i < ls.length → ((bestO ls.length (valR ls ss least) d (o ++ [i])).length = ls.length ∧ ordOk ls.length (bestO ls.length (valR ls ss least) d (o ++ [i]))) ∧ bestO ls.length (valR ls ss least) d (o ++ [i]) ≠ [] := fun i h0 h1 =>
      ⟨bestO_good n1 _ d (o ++ [i]) (by simp; omega) (ordOk_snoc ho h0 h1), bestO_ne n1 _ d (o ++ [i]) (by simp; omega) (ordOk_snoc ho h0 h1)⟩
    have key : ∀ j : Nat, j ≤ ls.length → ∀ s : List Int, (s = [] ∨ s.length = ls.length ∧ ordOk ls.length s) → Ev (fun k => spec_reRunners.l0 k ls ss o least s ss.length ((ls.length : Int) - j)) (bestL ls.length (valR ls ss least) (bestO ls.length (valR ls ss least) d) o j s) := by
      intro j
      induction j with
      | zero =>
        intro _ s hs
        refine Ev.step (fun k => by simp only [spec_reRunners.l0]; rw [if_neg (by omega)]) ?_
        exact Ev.now _
      | succ j ihj =>
        intro hj s hs
        have ej : (ls.length : Int) - ((j + 1 : Nat) : Int) = (ls.length : Int) - ((j : Int) + 1) := by omega
        rw [ej]
        obtain ⟨i, hi⟩ : ∃ i : Int, (ls.length : Int) - ((j : Int) + 1) = i := ⟨_, rfl⟩
        simp only [bestL]
        rw [hi]
        have hw : ∀ k s', spec_reRunners.l0 k ls ss o least s' ss.length (wrap64 (i + 1)) = spec_reRunners.l0 k ls ss o least s' ss.length ((ls.length : Int) - j) := by
          intro k s'
          rw [w64 (x := i + 1) (by omega) (by omega)]
          congr 1
          omega
        refine Ev.step (fun k => by simp only [spec_reRunners.l0]; rw [if_pos (by omega)]) ?_
        refine Ev.bind (l1Has_ev o i (by omega)) ?_
        by_cases c : i ∈ o
        · simp only [c, decide_true, if_true]
          exact Ev.congr (fun k => hw k s) (ihj (by omega) s hs)
        · simp only [c, decide_false, Bool.false_eq_true, if_false]
          obtain ⟨⟨g1, g2⟩, g3⟩ := hg i (by omega) (by omega)
          refine Ev.congr (fun k => by rw [own_eq o (by omega), Option.bind_some, if_pos (by omega)]) ?_
          refine Ev.bind (ih (o ++ [i]) (by simp; omega) (ordOk_snoc ho (by omega) (by omega))) ?_
          by_cases hs0 : s = []
          · refine Ev.congr (fun k => by rw [if_pos (by rw [hs0]; rfl), hw]) ?_
            have e : upd (valR ls ss least) s (bestO ls.length (valR ls ss least) d (o ++ [i])) = bestO ls.length (valR ls ss least) d (o ++ [i]) := by unfold upd; rw [if_pos (.inl hs0)]
            rw [e]
            exact ihj (by omega) _ (.inr ⟨g1, g2⟩)
          · obtain ⟨s1, s2⟩ := hs.resolve_left hs0
            refine Ev.congr (fun k => by rw [if_neg (by omega)]) ?_
            refine Ev.bind (reBetter_ev T _ _ g1 s1 g2 s2 least) ?_
            have e : (if least = true then decide (vt ls ss (impl_chosenRunners.prod ss) (bestO ls.length (valR ls ss least) d (o ++ [i])) < vt ls ss (impl_chosenRunners.prod ss) s) else decide (vt ls ss (impl_chosenRunners.prod ss) (bestO ls.length (valR ls ss least) d (o ++ [i])) > vt ls ss (impl_chosenRunners.prod ss) s)) = decide (valR ls ss least (bestO ls.length (valR ls ss least) d (o ++ [i])) < valR ls ss least s) := by
              unfold valR sgOf
              cases least
              · simp
              · simp
            rw [e]
            by_cases cb : valR ls ss least (bestO ls.length (valR ls ss least) d (o ++ [i])) < valR ls ss least s
            · have e2 : upd (valR ls ss least) s (bestO ls.length (valR ls ss least) d (o ++ [i])) = bestO ls.length (valR ls ss least) d (o ++ [i]) := by unfold upd; rw [if_pos (.inr cb)]
              rw [e2]
              refine Ev.congr (fun k => by rw [if_pos (decide_eq_true cb), hw]) ?_
              exact ihj (by omega) _ (.inr ⟨g1, g2⟩)
            · have e2 : upd (valR ls ss least) s (bestO ls.length (valR ls ss least) d (o ++ [i])) = s := by unfold upd; rw [if_neg (by rintro (h' | h'); exact hs0 h'; exact cb h')]
              rw [e2]
              refine Ev.congr (fun k => by rw [if_neg (by simpa using cb), hw]) ?_
              exact ihj (by omega) _ hs
    have h0 := key ls.length (Nat.le_refl _) [] (.inl rfl)
    rw [show (ls.length : Int) - (ls.length : Int) = 0 by omega] at h0
    exact h0
/-! ### The program -/
theorem index_l0_ev (l : List Int) (x : Int) (hl : l.length ≤ 1000) : ∀ i : Int, 0 ≤ i → i ≤ l.length → ∃ r : Int, Ev (fun k => slices_Index_int_int.l0 k l x l.length i) r ∧ (decide (r ≥ 0) = decide (x ∈ l.drop i.toNat)) := by
  refine downI ?_ (fun i h0 h1 ih => ?_)
  · refine ⟨-1, Ev.step (fun k => by simp only [slices_Index_int_int.l0]; rw [if_neg (by omega)]) (Ev.now _), ?_⟩
    rw [List.drop_of_length_le (by omega)]
    simp
  · rw [drop_get l 0 i h0 h1]
    by_cases e : x = rd l i
    · refine ⟨i, Ev.step (fun k => by simp only [slices_Index_int_int.l0]; rw [if_pos h1, if_pos h0, if_pos h1, if_pos e]) (Ev.now _), ?_⟩
      rw [decide_eq_true (show x ∈ l.getD i.toNat 0 :: l.drop (i + 1).toNat from by rw [List.mem_cons]; exact .inl e)]
      exact decide_eq_true h0
    · obtain ⟨r, a, b⟩ := ih
      refine ⟨r, Ev.step (fun k => by simp only [slices_Index_int_int.l0]; rw [if_pos h1, if_pos h0, if_pos h1, if_neg e, w64 (x := i + 1) (by omega) (by omega)]) a, ?_⟩
      rw [b, decide_eq_decide, List.mem_cons]
      exact ⟨.inr, fun h => h.resolve_left e⟩
theorem contains_ev (l : List Int) (x : Int) (hl : l.length ≤ 1000) : Ev (fun k => slices_Contains_int_int.f k l x) (decide (x ∈ l)) := by
  obtain ⟨r, a, b⟩ := index_l0_ev l x hl 0 (by omega) (by omega)
  unfold slices_Contains_int_int.f slices_Index_int_int.f
  refine Ev.bind a ?_
  simp only [Int.toNat_zero, List.drop_zero] at b
  rw [b]
  exact Ev.now _
theorem ext_ev {ls ss : List Int} (T : Team ls ss (impl_chosenRunners.prod ss)) (least : Bool) : ∀ (d : Nat) (o : List Int) (b : List Int) (m : Int), o.length + d = ls.length → ordOk ls.length o → Ev (fun k => impl_chosenRunners.ext ls ss (sgOf least) (impl_chosenRunners.prod ss) k o (vt ls ss (impl_chosenRunners.prod ss) o) b m) (comb (valR ls ss least) (b, m) (bestO ls.length (valR ls ss least) d o)) := by
  have hsl := T.eq
  have n6 := T.n6
  have n1 := T.n1
  intro d
  induction d with
  | zero =>
    intro o b m h ho
    obtain ⟨v0, v1⟩ := vt_bd T o ho (by omega)
    refine Ev.step (f := fun _ => some (comb (valR ls ss least) (b, m) (bestO ls.length (valR ls ss least) 0 o))) (fun k => ?_) (Ev.now _)
    simp only [impl_chosenRunners.ext]
    rw [if_pos (by omega), if_pos (by omega)]
    rfl
  | succ d ih =>
    intro o b m h ho
    obtain ⟨v0, v1⟩ := vt_bd T o ho (by omega)
    refine Ev.step (fun k => by simp only [impl_chosenRunners.ext]; rw [if_pos (by omega), if_neg (by omega)]) ?_
    have hg : ∀ i : Int, 0 ≤ i → i < ls.length → bestO ls.length (valR ls ss least) d (o ++ [i]) ≠ [] := fun i h0 h1 => bestO_ne n1 _ d (o ++ [i]) (by simp; omega) (ordOk_snoc ho h0 h1)
    have key : ∀ j : Nat, j ≤ ls.length → ∀ s : List Int, Ev (fun k => impl_chosenRunners.lp ls ss (sgOf least) (impl_chosenRunners.prod ss) k o (vt ls ss (impl_chosenRunners.prod ss) o) ((ls.length : Int) - j) (laterB (valR ls ss least) (b, m) s).1 (laterB (valR ls ss least) (b, m) s).2) (laterB (valR ls ss least) (b, m) (bestL ls.length (valR ls ss least) (bestO ls.length (valR ls ss least) d) o j s)) := by
      intro j
      induction j with
      | zero =>
        intro _ s
        refine Ev.step (fun k => by simp only [impl_chosenRunners.lp]; rw [if_neg (by omega)]) ?_
        exact Ev.now _
      | succ j ihj =>
        intro hj s
        have ej : (ls.length : Int) - ((j + 1 : Nat) : Int) = (ls.length : Int) - ((j : Int) + 1) := by omega
        rw [ej]
        obtain ⟨i, hi⟩ : ∃ i : Int, (ls.length : Int) - ((j : Int) + 1) = i := ⟨_, rfl⟩
        simp only [bestL]
        rw [hi]
        have hw : i + 1 = (ls.length : Int) - j := by omega
        refine Ev.step (fun k => by simp only [impl_chosenRunners.lp]; rw [if_pos (by omega), if_pos (by omega), hw]) ?_
        refine Ev.bind (contains_ev o i (by omega)) ?_
        by_cases c : i ∈ o
        · simp only [c, decide_true, if_true]
          exact ihj (by omega) s
        · simp only [c, decide_false, Bool.false_eq_true, if_false]
          have h1 := ih (o ++ [i]) (laterB (valR ls ss least) (b, m) s).1 (laterB (valR ls ss least) (b, m) s).2 (by simp; omega) (ordOk_snoc ho (by omega) (by omega))
          rw [vt_snoc, show ((laterB (valR ls ss least) (b, m) s).1, (laterB (valR ls ss least) (b, m) s).2) = laterB (valR ls ss least) (b, m) s from rfl, comb_upd _ _ _ _ (hg i (by omega) (by omega))] at h1
          exact Ev.bind h1 (ihj (by omega) _)
    have h0 := key ls.length (Nat.le_refl _) []
    rw [show (ls.length : Int) - (ls.length : Int) = 0 by omega] at h0
    have e : laterB (valR ls ss least) (b, m) (bestO ls.length (valR ls ss least) (d + 1) o) = comb (valR ls ss least) (b, m) (bestO ls.length (valR ls ss least) (d + 1) o) := by
      unfold laterB
      rw [if_neg (bestO_ne n1 _ (d + 1) o h ho)]
    rw [← e]
    exact h0
/-- Both tell the same order, or both fail. -/
def goodTeam (ls ss : List Int) : Bool := decide (1 ≤ (ls.length : Int) ∧ (ls.length : Int) ≤ 6) && (decide ((ss.length : Int) = (ls.length : Int)) && (ls.all (inB 1 1000) && ss.all (inB 1 100)))
theorem reTeam_ev (ls ss : List Int) : Ev (fun k => spec_reTeam.f k ls ss) (goodTeam ls ss) := by
  unfold spec_reTeam.f goodTeam
  simp only [in_eq, Option.bind_some]
  by_cases h : 1 ≤ (ls.length : Int) ∧ (ls.length : Int) ≤ 6
  · simp only [h, and_self, decide_true, if_true, Bool.true_and]
    by_cases h2 : (ss.length : Int) = (ls.length : Int)
    · simp only [h2, decide_true, if_true, Bool.true_and]
      refine Ev.bind (l1All_ev ls 1 1000 (by omega)) ?_
      cases ls.all (inB 1 1000)
      · simp only [Bool.false_and, Bool.false_eq_true, if_false]; exact Ev.now _
      · simp only [Bool.true_and, if_true]
        exact Ev.bind (l1All_ev ss 1 100 (by omega)) (Ev.now _)
    · simp only [h2, decide_false, if_false, Bool.false_and]
      exact Ev.now _
  · simp only [h, decide_false, Bool.false_and, Bool.false_eq_true, if_false]
    exact Ev.now _
theorem team_of {ls ss : List Int} (h : goodTeam ls ss = true) : Team ls ss (impl_chosenRunners.prod ss) := by
  unfold goodTeam at h
  simp only [Bool.and_eq_true, decide_eq_true_iff] at h
  obtain ⟨⟨a, b⟩, c, d, e⟩ := h
  have hs : ∀ i : Int, 0 ≤ i → i < ls.length → 1 ≤ rd ss i ∧ rd ss i ≤ 100 := fun i h0 h1 => of_decide_eq_true (List.all_eq_true.1 e _ (get_mem ss 0 i h0 (by omega)))
  have hp := impl_chosenRunners.prod_take ss (fun i h0 h1 => hs i h0 (by omega)) (by omega) ss.length (Nat.le_refl _)
  rw [List.take_of_length_le (Nat.le_refl _)] at hp
  have hp2 := impl_chosenRunners.pow6 ss.length (by omega)
  exact ⟨by omega, by omega, by omega, fun i h0 h1 => of_decide_eq_true (List.all_eq_true.1 d _ (get_mem ls 0 i h0 h1)), hs, by omega, by omega⟩
theorem goodB_of {ls ss : List Int} (h : goodTeam ls ss = true) (least : Bool) : impl_chosenRunners.goodB ls ss (sgOf least) = true := by
  have T := team_of h
  have n1 := T.n1
  have n6 := T.n6
  have eq := T.eq
  unfold goodTeam at h
  simp only [Bool.and_eq_true, decide_eq_true_iff] at h
  obtain ⟨_, _, d, e⟩ := h
  unfold impl_chosenRunners.goodB
  have hs : sgOf least = 1 ∨ sgOf least = -1 := by
    unfold sgOf
    cases least
    · exact .inr rfl
    · exact .inl rfl
  rw [Bool.and_eq_true, Bool.and_eq_true]
  exact ⟨⟨d, e⟩, decide_eq_true ⟨n1, n6, eq, hs⟩⟩
def runnersOf (ls ss : List Int) (least : Bool) : List Int × Bool := if goodTeam ls ss = true then (bestO ls.length (valR ls ss least) ls.length [], true) else ([], false)
theorem chosen_ev (ls ss : List Int) (least : Bool) : Ev (fun k => impl_chosenRunners.f k ls ss (sgOf least)) (runnersOf ls ss least) := by
  unfold impl_chosenRunners.f runnersOf
  simp only [within_eq, Option.bind_some]
  by_cases h : 1 ≤ (ls.length : Int) ∧ (ls.length : Int) ≤ 6
  · by_cases h2 : (ss.length : Int) = (ls.length : Int)
    · simp only [h, and_self, decide_true, if_true]
      refine Ev.bind (allWithin_ev ls 1 1000 (by omega)) ?_
      cases e1 : ls.all (inB 1 1000)
      · have : goodTeam ls ss = false := by simp [goodTeam, e1]
        simp only [this, Bool.false_eq_true, if_false]
        exact Ev.now _
      · simp only [if_true, h2]
        refine Ev.bind (allWithin_ev ss 1 100 (by omega)) ?_
        cases e2 : ss.all (inB 1 100)
        · have : goodTeam ls ss = false := by simp [goodTeam, e1, e2]
          simp only [this, Bool.false_eq_true, if_false]
          exact Ev.now _
        · have hg : goodTeam ls ss = true := by simp [goodTeam, e1, e2, h, h2]
          have T := team_of hg
          simp only [hg, if_true, goodB_of hg least]
          have hx := ext_ev T least ls.length [] [] 0 (by simp) (fun x hx => by cases hx)
          have hv : vt ls ss (impl_chosenRunners.prod ss) [] = 0 := rfl
          rw [hv] at hx
          refine Ev.bind hx ?_
          have hc : comb (valR ls ss least) ([], 0) (bestO ls.length (valR ls ss least) ls.length []) = (bestO ls.length (valR ls ss least) ls.length [], valR ls ss least (bestO ls.length (valR ls ss least) ls.length [])) := by simp [comb]
          rw [hc]
          exact Ev.now _
    · have hg : goodTeam ls ss = false := by simp [goodTeam, h2]
      simp only [h, and_self, decide_true, if_true, h2, if_false, hg, Bool.false_eq_true]
      refine Ev.bind (allWithin_ev ls 1 1000 (by omega)) ?_
      cases ls.all (inB 1 1000)
      · simp only [Bool.false_eq_true, if_false]; exact Ev.now _
      · simp only [if_true]; exact Ev.now _
  · have hg : goodTeam ls ss = false := by simp [goodTeam, h]
    simp only [h, decide_false, Bool.false_eq_true, if_false, hg]
    exact Ev.now _
theorem runners_len (ls ss : List Int) (least : Bool) : (runnersOf ls ss least).1.length ≤ 6 := by
  unfold runnersOf
  by_cases h : goodTeam ls ss = true
  · rw [if_pos h]
    have T := team_of h
    have := (bestO_good T.n1 (valR ls ss least) ls.length [] (by simp) (fun x hx => by cases hx)).1
    have := T.n6
    show (bestO ls.length (valR ls ss least) ls.length []).length ≤ 6
    omega
  · rw [if_neg h]
    simp
theorem specRunners_ev (ls ss : List Int) (least : Bool) : Ev (fun k => (spec_reTeam.f k ls ss).bind fun t => (if t = true then ((spec_reRunners.f k ls ss ([] : List Int) least).bind fun t2 => (some (t2, true))) else (some (([] : List Int), false)))) (runnersOf ls ss least) := by
  refine Ev.bind (reTeam_ev ls ss) ?_
  unfold runnersOf
  by_cases h : goodTeam ls ss = true
  · simp only [h, if_true]
    exact Ev.bind (reRunners_ev (team_of h) least ls.length [] (by simp) (fun x hx => by cases hx)) (Ev.now _)
  · simp only [Bool.eq_false_iff.2 h, Bool.false_eq_true, if_false]
    exact Ev.now _
/-! ### Needed speeds -/
theorem implTime_ev (l : List S54) (h : goodLegs l = true) : Ev (fun k => impl_TimeOfLegs.f k l) ((timeL l).1, (timeL l).2, true) := by
  have hl := good_len h
  unfold impl_TimeOfLegs.f
  refine Ev.bind (areLegs_ev l) ?_
  simp only [h, if_true]
  exact Ev.bind (timeOf_ev l hl.2 (good_ok h)) (Ev.now _)
theorem implLong_ev (l : List S54) (h : goodLegs l = true) : Ev (fun k => impl_LongOfLegs.f k l) (longI l, true) := by
  have hl := good_len h
  unfold impl_LongOfLegs.f
  refine Ev.bind (areLegs_ev l) ?_
  simp only [h, if_true]
  exact Ev.bind (longOf_ev l hl.2 (good_ok h)) (Ev.now _)
theorem needed_law (l : List S54) (L M : Int) (h : (neededR l L M).2.2 = true) : goodLegs l = true ∧ 1 ≤ (neededR l L M).1 ∧ Ev (fun k => laws_yLow.f k (neededR l L M).1 (neededR l L M).2.1) true ∧
    wrap64 ((wrap64 ((wrap64 (longI l + L)) * (timeL l).2)) * (neededR l L M).1) = wrap64 (M * (wrap64 ((wrap64 ((timeL l).1 * (neededR l L M).1)) + (wrap64 ((wrap64 (L * (neededR l L M).2.1)) * (timeL l).2))))) := by
  unfold neededR at h ⊢
  by_cases c : goodLegs l = true ∧ (1 ≤ L ∧ L ≤ 1000) ∧ (1 ≤ M ∧ M ≤ 100) ∧ 0 < needLeft l L M
  · simp only [if_pos c] at h ⊢
    obtain ⟨g, hL, hM, hn⟩ := c
    have N := need_of l g hL hM
    refine ⟨g, lo_pos1 hn N.g.1, yLow_lo hn (Int.le_of_lt N.g.1), ?_⟩
    have hc := lo_cross (L * M * (timeL l).2) (needLeft l L M)
    have hd : needLeft l L M = (longI l + L) * (timeL l).2 - (timeL l).1 * M := rfl
    rw [hd] at hc ⊢
    generalize (lo (L * M * (timeL l).2) ((longI l + L) * (timeL l).2 - (timeL l).1 * M)).1 = num at *
    generalize (lo (L * M * (timeL l).2) ((longI l + L) * (timeL l).2 - (timeL l).1 * M)).2 = den at *
    simp only [wrap_add_l, wrap_add_r, wrap_mul_l, wrap_mul_r]
    congr 1
    grind
  · simp only [if_neg c] at h
    cases h
/-! ### Orders of runners: each one once, and none is better -/
structure Perm (n : Nat) (o : List Int) : Prop where
  len : o.length = n
  ok : ordOk n o
  nd : o.Nodup
theorem nodup_le : ∀ (n : Nat) (l : List Int), l.Nodup → (∀ x, x ∈ l → 0 ≤ x ∧ x < (n : Int)) → l.length ≤ n := by
  intro n
  induction n with
  | zero =>
    intro l _ h
    cases l with
    | nil => simp
    | cons x l => have := h x List.mem_cons_self; omega
  | succ n ih =>
    intro l hn h
    have h1 := ih (l.erase (n : Int)) (hn.erase _) (fun x hx => by
      have hx2 := (hn.mem_erase_iff).1 hx
      have := h x hx2.2
      have := hx2.1
      omega)
    by_cases hm : (n : Int) ∈ l
    · rw [List.length_erase_of_mem hm] at h1
      omega
    · rw [List.erase_of_not_mem hm] at h1
      omega
theorem Perm.all {n : Nat} {o : List Int} (h : Perm n o) (i : Int) (h0 : 0 ≤ i) (h1 : i < n) : i ∈ o := by
  apply Classical.byContradiction
  intro hi
  have := nodup_le n (i :: o) (List.nodup_cons.2 ⟨hi, h.nd⟩) (fun x hx => by
    rcases List.mem_cons.1 hx with rfl | hx
    · exact ⟨h0, h1⟩
    · exact h.ok x hx)
  have := h.len
  simp at *
  omega
theorem Perm.rd_ok {n : Nat} {o : List Int} (h : Perm n o) (i : Int) (h0 : 0 ≤ i) (h1 : i < n) : 0 ≤ rd o i ∧ rd o i < n := h.ok _ (get_mem o 0 i h0 (by have := h.len; omega))
theorem Perm.inj {n : Nat} {o : List Int} (h : Perm n o) (i j : Nat) (hi : i < n) (hj : j < n) (hne : i ≠ j) : rd o (i : Int) ≠ rd o (j : Int) := by
  have hl := h.len
  have hp := List.pairwise_iff_getElem.1 h.nd
  have e : ∀ q (hq : q < o.length), rd o (q : Int) = o[q] := by
    intro q hq
    unfold rd
    rw [Int.toNat_natCast, List.getD_eq_getElem?_getD, List.getElem?_eq_getElem hq]
    rfl
  rw [e i (by omega), e j (by omega)]
  rcases Nat.lt_or_ge i j with c | c
  · exact hp i j (by omega) (by omega) c
  · exact fun q => hp j i (by omega) (by omega) (by omega) q.symm
/-- An order told by a function. -/
def ordF (n : Nat) (f : Nat → Int) : List Int := (List.range n).map f
theorem ordF_rd (n : Nat) (f : Nat → Int) (j : Nat) (h : j < n) : rd (ordF n f) (j : Int) = f j := by
  unfold rd ordF
  rw [Int.toNat_natCast, List.getD_eq_getElem?_getD, List.getElem?_map, List.getElem?_range h]
  rfl
theorem ordF_perm (n : Nat) (f : Nat → Int) (h : ∀ j, j < n → 0 ≤ f j ∧ f j < n) (hi : ∀ i j, i < n → j < n → i ≠ j → f i ≠ f j) : Perm n (ordF n f) := by
  refine ⟨by simp [ordF], fun x hx => ?_, ?_⟩
  · obtain ⟨j, hj, rfl⟩ := List.mem_map.1 hx
    exact h j (List.mem_range.1 hj)
  · unfold ordF
    refine List.pairwise_iff_getElem.2 (fun i j h1 h2 hij => ?_)
    simp only [List.length_map, List.length_range] at h1 h2
    simp only [List.getElem_map, List.getElem_range]
    exact hi i j h1 h2 (by omega)
theorem bestL_opt {n : Nat} (val : List Int → Int) (g : List Int → List Int) (o : List Int) (G : List Int → Prop) (hg : ∀ i : Int, 0 ≤ i → i < n → i ∉ o → G (g (o ++ [i])) ∧ g (o ++ [i]) ≠ []) : ∀ j : Nat, j ≤ n → ∀ s : List Int, (s = [] ∨ G s) → (bestL n val g o j s = [] ∨ G (bestL n val g o j s)) ∧ (s ≠ [] → val (bestL n val g o j s) ≤ val s) ∧ (∀ i : Int, (n : Int) - j ≤ i → i < n → i ∉ o → val (bestL n val g o j s) ≤ val (g (o ++ [i]))) := by
  intro j
  induction j with
  | zero => exact fun _ s hs => ⟨hs, fun _ => Int.le_refl _, fun i a b _ => by omega⟩
  | succ j ih =>
    intro hj s hs
    simp only [bestL]
    by_cases c : ((n : Int) - ((j : Int) + 1)) ∈ o
    · rw [if_pos c]
      obtain ⟨a1, a2, a3⟩ := ih (by omega) s hs
      refine ⟨a1, a2, fun i b1 b2 b3 => a3 i ?_ b2 b3⟩
      by_cases e : i = (n : Int) - ((j : Int) + 1)
      · rw [e] at b3; exact absurd c b3
      · omega
    · rw [if_neg c]
      obtain ⟨g1, g2⟩ := hg ((n : Int) - ((j : Int) + 1)) (by omega) (by omega) c
      obtain ⟨b, hb⟩ : ∃ b, g (o ++ [(n : Int) - ((j : Int) + 1)]) = b := ⟨_, rfl⟩
      rw [hb] at g1 g2 ⊢
      have hu : upd val s b ≠ [] ∧ G (upd val s b) ∧ val (upd val s b) ≤ val b ∧ (s ≠ [] → val (upd val s b) ≤ val s) := by
        unfold upd
        by_cases cu : s = [] ∨ val b < val s
        · rw [if_pos cu]
          exact ⟨g2, g1, Int.le_refl _, fun hs0 => by rcases cu with cu | cu; exact absurd cu hs0; omega⟩
        · rw [if_neg cu]
          have hs0 : s ≠ [] := fun e => cu (.inl e)
          exact ⟨hs0, hs.resolve_left hs0, by have : ¬ val b < val s := fun e => cu (.inr e); omega, fun _ => Int.le_refl _⟩
      obtain ⟨u1, u2, u3, u4⟩ := hu
      obtain ⟨a1, a2, a3⟩ := ih (by omega) (upd val s b) (.inr u2)
      have a2 := a2 u1
      refine ⟨a1, fun hs0 => Int.le_trans a2 (u4 hs0), fun i b1 b2 b3 => ?_⟩
      by_cases e : i = (n : Int) - ((j : Int) + 1)
      · rw [e, hb]; omega
      · exact a3 i (by omega) b2 b3
theorem bestO_perm {n : Nat} (hn : 1 ≤ n) (val : List Int → Int) : ∀ (d : Nat) (o : List Int), o.length + d = n → ordOk n o → o.Nodup → Perm n (bestO n val d o) ∧ ∀ q, Perm n (o ++ q) → val (bestO n val d o) ≤ val (o ++ q) := by
  intro d
  induction d with
  | zero =>
    intro o h ho hd
    refine ⟨⟨by simpa [bestO] using h, ho, hd⟩, fun q hq => ?_⟩
    have := hq.len
    have : q = [] := List.eq_nil_of_length_eq_zero (by simp at this; omega)
    rw [this, List.append_nil]
    exact Int.le_refl _
  | succ d ih =>
    intro o h ho hd
    have hsn : ∀ i : Int, i ∉ o → (o ++ [i]).Nodup := fun i hi => List.nodup_append.2 ⟨hd, by simp, fun a ha b hb e => hi (by rw [← List.mem_singleton.1 hb, ← e]; exact ha)⟩
    have hg : ∀ i : Int, 0 ≤ i → i < n → i ∉ o → Perm n (bestO n val d (o ++ [i])) ∧ bestO n val d (o ++ [i]) ≠ [] := fun i h0 h1 h2 => by
      have a := (ih (o ++ [i]) (by simp; omega) (ordOk_snoc ho h0 h1) (hsn i h2)).1
      exact ⟨a, fun e => by have := a.len; rw [e] at this; simp at this; omega⟩
    obtain ⟨a1, _, a3⟩ := bestL_opt val (bestO n val d) o (Perm n) hg n (Nat.le_refl _) [] (.inl rfl)
    have hne := bestO_ne hn val (d + 1) o h ho
    refine ⟨a1.resolve_left hne, fun q hq => ?_⟩
    cases q with
    | nil => have := hq.len; simp at this; omega
    | cons x q =>
      have hx := hq.ok x (by simp)
      have hxo : x ∉ o := fun hm => (List.nodup_append.1 hq.nd).2.2 x hm x (by simp) rfl
      have e : o ++ x :: q = (o ++ [x]) ++ q := by simp
      have h1 := a3 x (by omega) hx.2 hxo
      rw [e] at hq ⊢
      exact Int.le_trans h1 ((ih (o ++ [x]) (by simp; omega) (ordOk_snoc ho hx.1 hx.2) (hsn x hxo)).2 q hq)
/-- Sums of two rows of numbers that differ at two places. -/
theorem vtN_two (ls ss : List Int) (pr : Int) (p q : List Int) (a b : Nat) (hab : a ≠ b) (h : ∀ j : Nat, j ≠ a → j ≠ b → rd q (j : Int) = rd p (j : Int)) : ∀ N : Nat, vtN ls ss pr q N = vtN ls ss pr p N + (if a < N then rd ls (a : Int) * (pr / rd ss (rd q (a : Int))) - rd ls (a : Int) * (pr / rd ss (rd p (a : Int))) else 0) + (if b < N then rd ls (b : Int) * (pr / rd ss (rd q (b : Int))) - rd ls (b : Int) * (pr / rd ss (rd p (b : Int))) else 0) := by
  intro N
  induction N with
  | zero => simp [vtN]
  | succ N ih =>
    simp only [vtN]
    rw [ih]
    by_cases ca : N = a
    · subst ca
      rw [if_neg (Nat.lt_irrefl N), if_pos (Nat.lt_succ_self N)]
      by_cases cb : b < N
      · rw [if_pos cb, if_pos (by omega)]; omega
      · rw [if_neg cb, if_neg (by omega)]; omega
    · by_cases cb : N = b
      · subst cb
        rw [if_neg (Nat.lt_irrefl N), if_pos (Nat.lt_succ_self N)]
        by_cases c : a < N
        · rw [if_pos c, if_pos (by omega)]; omega
        · rw [if_neg c, if_neg (by omega)]; omega
      · rw [h N ca cb]
        by_cases c : a < N <;> by_cases c2 : b < N
        · rw [if_pos c, if_pos c2, if_pos (by omega), if_pos (by omega)]; omega
        · rw [if_pos c, if_neg c2, if_pos (by omega), if_neg (by omega)]; omega
        · rw [if_neg c, if_pos c2, if_neg (by omega), if_pos (by omega)]; omega
        · rw [if_neg c, if_neg c2, if_neg (by omega), if_neg (by omega)]; omega
theorem prod_dvd (l : List Int) : ∀ x, x ∈ l → x ∣ impl_chosenRunners.prod l := by
  have key : ∀ (l : List Int) (a : Int), (a ∣ l.foldl (fun x y => x * y) a) ∧ ∀ x, x ∈ l → x ∣ l.foldl (fun x y => x * y) a := by
    intro l
    induction l with
    | nil => exact fun a => ⟨Int.dvd_refl _, fun x hx => by cases hx⟩
    | cons y l ih =>
      intro a
      obtain ⟨h1, h2⟩ := ih (a * y)
      rw [List.foldl_cons]
      refine ⟨Int.dvd_trans (Int.dvd_mul_right a y) h1, fun x hx => ?_⟩
      rcases List.mem_cons.1 hx with rfl | hx
      · exact Int.dvd_trans (Int.dvd_mul_left a x) h1
      · exact h2 x hx
  exact (key l 1).2
/-- Longer legs are run by runners who are not slower (or, the most time, not faster). -/
theorem swap_law {ls ss : List Int} (T : Team ls ss (impl_chosenRunners.prod ss)) (hp : 0 < impl_chosenRunners.prod ss) (least : Bool) (o : List Int) (ho : Perm ls.length o) (hopt : ∀ q, Perm ls.length q → valR ls ss least o ≤ valR ls ss least q) (a b : Nat) (ha : a < ls.length) (hb : b < ls.length) (hl : rd ls (a : Int) > rd ls (b : Int)) :
    sgOf least * rd ss (rd o (b : Int)) ≤ sgOf least * rd ss (rd o (a : Int)) := by
  have hab : a ≠ b := fun e => by rw [e] at hl; omega
  obtain ⟨x0, x1⟩ := ho.rd_ok (a : Int) (by omega) (by omega)
  obtain ⟨y0, y1⟩ := ho.rd_ok (b : Int) (by omega) (by omega)
  obtain ⟨xa, xb⟩ := T.s _ x0 x1
  obtain ⟨ya, yb⟩ := T.s _ y0 y1
  obtain ⟨q, hq⟩ : ∃ q, q = ordF ls.length (fun j => if j = a then rd o (b : Int) else if j = b then rd o (a : Int) else rd o (j : Int)) := ⟨_, rfl⟩
  have hqp : Perm ls.length q := by
    rw [hq]
    refine ordF_perm _ _ (fun j hj => ?_) (fun i j hi hj hij => ?_)
    · split
      · exact ⟨y0, y1⟩
      · split
        · exact ⟨x0, x1⟩
        · exact ho.rd_ok _ (by omega) (by omega)
    · have inj := ho.inj
      have i1 := inj a b ha hb hab
      have i2 := inj i j hi hj hij
      have i3 := inj i a hi ha
      have i4 := inj i b hi hb
      have i5 := inj a j ha hj
      have i6 := inj b j hb hj
      by_cases c1 : i = a <;> by_cases c2 : i = b <;> by_cases c3 : j = a <;> by_cases c4 : j = b <;> simp only [c1, c2, c3, c4, if_true, if_false] <;> first | omega | (intro e; omega) | grind
  have hqr : ∀ j : Nat, j < ls.length → rd q (j : Int) = if j = a then rd o (b : Int) else if j = b then rd o (a : Int) else rd o (j : Int) := fun j hj => by rw [hq, ordF_rd _ _ _ hj]
  have hzero : ∀ (p : List Int) (j : Nat), p.length = ls.length → ¬ j < ls.length → rd p (j : Int) = 0 := by
    intro p j h1 h2
    unfold rd
    rw [Int.toNat_natCast, List.getD_eq_getElem?_getD, List.getElem?_eq_none (by omega)]
    rfl
  have hv := vtN_two ls ss (impl_chosenRunners.prod ss) o q a b hab (fun j h1 h2 => by
    by_cases hj : j < ls.length
    · rw [hqr j hj, if_neg h1, if_neg h2]
    · rw [hzero q j hqp.len hj, hzero o j ho.len hj]) ls.length
  rw [if_pos ha, if_pos hb, hqr a ha, hqr b hb, if_pos rfl, if_neg (Ne.symm hab), if_pos rfl] at hv
  have e1 : vt ls ss (impl_chosenRunners.prod ss) q = vtN ls ss (impl_chosenRunners.prod ss) q ls.length := by unfold vt; rw [hqp.len]
  have e2 : vt ls ss (impl_chosenRunners.prod ss) o = vtN ls ss (impl_chosenRunners.prod ss) o ls.length := by unfold vt; rw [ho.len]
  have h1 := hopt q hqp
  unfold valR at h1
  rw [e1, e2, hv] at h1
  have d1 := prod_dvd ss (rd ss (rd o (a : Int))) (get_mem ss 0 _ x0 (by have := T.eq; omega))
  have d2 := prod_dvd ss (rd ss (rd o (b : Int))) (get_mem ss 0 _ y0 (by have := T.eq; omega))
  have f1 := Int.ediv_mul_cancel d1
  have f2 := Int.ediv_mul_cancel d2
  obtain ⟨u, hu⟩ : ∃ u, impl_chosenRunners.prod ss / rd ss (rd o (a : Int)) = u := ⟨_, rfl⟩
  obtain ⟨v, hv2⟩ : ∃ v, impl_chosenRunners.prod ss / rd ss (rd o (b : Int)) = v := ⟨_, rfl⟩
  rw [hu, hv2] at h1
  rw [hu] at f1
  rw [hv2] at f2
  generalize vtN ls ss (impl_chosenRunners.prod ss) o ls.length = V at *
  generalize rd ls (a : Int) = A at *
  generalize rd ls (b : Int) = B at *
  generalize rd ss (rd o (a : Int)) = sa at *
  generalize rd ss (rd o (b : Int)) = sb at *
  generalize impl_chosenRunners.prod ss = P at *
  have key : (A - B) * (v - u) = (A * v - A * u) + (B * u - B * v) := by grind
  have cmp : ∀ {x y s t : Int}, 0 < s → 0 < t → 0 < P → x * s = P → y * t = P → x ≤ y → t ≤ s := by
    intro x y s t hs ht hP e1 e2 hxy
    apply Classical.byContradiction
    intro hc
    have x0 : 0 < x := pos_of_mul_pos hs (by omega)
    have := Int.mul_lt_mul_of_pos_left (show s < t by omega) x0
    have := Int.mul_le_mul_of_nonneg_right hxy (Int.le_of_lt ht)
    omega
  unfold sgOf at h1 ⊢
  cases least
  · simp only [Bool.false_eq_true, if_false] at h1 ⊢
    have hle : (A - B) * (v - u) ≤ 0 := by omega
    have huv : v ≤ u := by
      apply Classical.byContradiction
      intro hc
      have := mul_pos (show 0 < A - B by omega) (show 0 < v - u by omega)
      omega
    have := cmp (by omega) (by omega) hp f2 f1 huv
    omega
  · simp only [if_true] at h1 ⊢
    have hle : 0 ≤ (A - B) * (v - u) := by omega
    have huv : u ≤ v := by
      apply Classical.byContradiction
      intro hc
      have := mul_pos (show 0 < A - B by omega) (show 0 < u - v by omega)
      have e : (A - B) * (u - v) = -((A - B) * (v - u)) := by grind
      omega
    have := cmp (by omega) (by omega) hp f1 f2 huv
    omega
/-! ### Joined legs -/
theorem foldl_pos : ∀ (l : List S54) (t : Int × Int), 0 < t.2 → (∀ x, x ∈ l → 1 ≤ x.f1) → 0 < (l.foldl tstep t).2 := by
  intro l
  induction l with
  | nil => intro t h _; exact h
  | cons x l ih =>
    intro t h hx
    rw [List.foldl_cons]
    refine ih _ ?_ (fun y hy => hx y (List.mem_cons_of_mem _ hy))
    have := hx x List.mem_cons_self
    exact lo_pos _ (mul_pos h (by omega))
theorem timeL_snoc (l : List S54) (x : S54) : timeL (l ++ [x]) = tstep (timeL l) x := by
  unfold timeL
  rw [List.foldl_append]
  rfl
/-- Two legs with one speed take as long as one. -/
theorem tstep_join (t : Int × Int) (ht : 0 < t.2) (y x : S54) (hv : y.f1 = x.f1) (hx : 1 ≤ x.f1) : tstep (tstep t y) x = tstep t ⟨y.f0 + x.f0, y.f1⟩ := by
  have d1 : 0 < t.2 * y.f1 := mul_pos ht (by omega)
  have b0 : 0 < (tstep t y).2 := lo_pos _ d1
  have hc : (tstep t y).1 * (t.2 * y.f1) = (t.1 * y.f1 + y.f0 * t.2) * (tstep t y).2 := lo_cross _ _
  generalize tstep t y = s at *
  have h1 : tstep s x = lo (s.1 * x.f1 + x.f0 * s.2) (s.2 * x.f1) := rfl
  have h2 : tstep t ⟨y.f0 + x.f0, y.f1⟩ = lo (t.1 * y.f1 + (y.f0 + x.f0) * t.2) (t.2 * y.f1) := rfl
  rw [h1, h2]
  refine lo_eq (mul_pos b0 (by omega)) d1 ?_
  rw [hv] at hc ⊢
  grind
/-- The joined legs so far: none beside one of its own speed, and they take as long. -/
structure Joined (acc : List S54) (t : Int × Int) : Prop where
  time : timeL acc = t
  fast : ∀ x, x ∈ acc → 1 ≤ x.f1
  apart : ∀ i : Int, 1 ≤ i → i < acc.length → (rd_T54 acc (i - 1)).f1 ≠ (rd_T54 acc i).f1
theorem rdT_set (l : List S54) (i : Nat) (x : S54) (j : Int) (h0 : 0 ≤ j) (h1 : j < l.length) : rd_T54 (l.set i x) j = if j.toNat = i then x else rd_T54 l j := by
  unfold rd_T54
  rw [List.getD_eq_getElem?_getD, List.getD_eq_getElem?_getD, List.getElem?_set]
  by_cases c : i = j.toNat
  · rw [if_pos c, if_pos (by omega), if_pos c.symm]
    rfl
  · rw [if_neg c, if_neg (fun e => c e.symm)]
theorem rdT_app (l : List S54) (x : S54) (j : Int) (h0 : 0 ≤ j) (h1 : j ≤ l.length) : rd_T54 (l ++ [x]) j = if j = l.length then x else rd_T54 l j := by
  unfold rd_T54
  rw [List.getD_eq_getElem?_getD, List.getD_eq_getElem?_getD]
  by_cases c : j = l.length
  · rw [if_pos c, c]
    simp
  · rw [if_neg c, List.getElem?_append_left (by omega)]
theorem joinS_joined {acc : List S54} {t : Int × Int} (h : Joined acc t) {x : S54} (hx : 1 ≤ x.f1) : Joined (joinS acc x) (tstep t x) := by
  unfold joinS
  by_cases c : acc.length > 0 ∧ (rd_T54 acc (acc.length - 1)).f1 = x.f1
  · rw [if_pos c]
    obtain ⟨c1, c2⟩ := c
    have hlast : acc = acc.take (acc.length - 1) ++ [rd_T54 acc (acc.length - 1)] := by
      have e := take_get acc z54 ((acc.length : Int) - 1) (by omega) (by omega)
      rw [show ((acc.length : Int) - 1 + 1).toNat = acc.length by omega, List.take_of_length_le (Nat.le_refl _)] at e
      conv => lhs; rw [e]
      rw [show ((acc.length : Int) - 1).toNat = acc.length - 1 by omega]
      unfold rd_T54
      rw [show ((acc.length : Int) - 1).toNat = acc.length - 1 by omega]
    obtain ⟨y, hy⟩ : ∃ y, rd_T54 acc (acc.length - 1) = y := ⟨_, rfl⟩
    obtain ⟨b, hb⟩ : ∃ b, acc.take (acc.length - 1) = b := ⟨_, rfl⟩
    have hbl : b.length = acc.length - 1 := by rw [← hb, List.length_take]; omega
    rw [hy] at hlast c2 ⊢
    rw [hb] at hlast
    have hset : acc.set (acc.length - 1) ⟨y.f0 + x.f0, y.f1⟩ = b ++ [⟨y.f0 + x.f0, y.f1⟩] := by
      rw [← hbl]
      conv => lhs; rw [hlast]
      rw [List.set_append_right _ _ (Nat.le_refl _)]
      simp
    have hbf : ∀ z, z ∈ b → 1 ≤ z.f1 := fun z hz => h.fast z (by rw [hlast]; exact List.mem_append.2 (.inl hz))
    refine ⟨?_, fun z hz => ?_, fun i h0 h1 => ?_⟩
    · have ht := h.time
      rw [hlast, timeL_snoc] at ht
      rw [hset, timeL_snoc, ← ht]
      exact (tstep_join _ (foldl_pos b (0, 1) (by decide) hbf) y x c2 hx).symm
    · rcases List.mem_or_eq_of_mem_set hz with hz | rfl
      · exact h.fast z hz
      · simp only; omega
    · rw [List.length_set] at h1
      have ha := h.apart i h0 h1
      rw [rdT_set _ _ _ _ (by omega) (by omega), rdT_set _ _ _ _ (by omega) (by omega), if_neg (by omega)]
      by_cases ci : i.toNat = acc.length - 1
      · rw [if_pos ci]
        rw [show i = (acc.length : Int) - 1 by omega] at ha ⊢
        rw [hy] at ha
        exact ha
      · rw [if_neg ci]
        exact ha
  · rw [if_neg c]
    refine ⟨by rw [timeL_snoc, h.time], fun z hz => ?_, fun i h0 h1 => ?_⟩
    · rcases List.mem_append.1 hz with hz | hz
      · exact h.fast z hz
      · rw [List.mem_singleton.1 hz]; exact hx
    · simp only [List.length_append, List.length_singleton] at h1
      rw [rdT_app _ _ _ (by omega) (by omega), rdT_app _ _ _ (by omega) (by omega), if_neg (by omega)]
      by_cases ci : i = acc.length
      · rw [if_pos ci, ci]
        exact fun e => c ⟨by omega, e⟩
      · rw [if_neg ci]
        exact h.apart i h0 (by omega)
theorem joinL_joined : ∀ (l : List S54) (acc : List S54) (t : Int × Int), Joined acc t → (∀ x, x ∈ l → 1 ≤ x.f1) → Joined (l.foldl joinS acc) (l.foldl tstep t) := by
  intro l
  induction l with
  | nil => intro acc t h _; exact h
  | cons x l ih =>
    intro acc t h hx
    rw [List.foldl_cons, List.foldl_cons]
    exact ih _ _ (joinS_joined h (hx x List.mem_cons_self)) (fun y hy => hx y (List.mem_cons_of_mem _ hy))
theorem joinS_len (acc : List S54) (x : S54) : (joinS acc x).length ≤ acc.length + 1 := by
  unfold joinS
  split
  · simp
  · simp
theorem joinL_len : ∀ (l acc : List S54), (l.foldl joinS acc).length ≤ acc.length + l.length := by
  intro l
  induction l with
  | nil => intro acc; simp
  | cons x l ih =>
    intro acc
    rw [List.foldl_cons]
    have := ih (joinS acc x)
    have := joinS_len acc x
    simp only [List.length_cons]
    omega
/-! ### A bicycle that two share -/
theorem ride_id1 {p a L pd w q d n : Int} (hp : p * d = n * pd) : (p * a + (L * pd - p) * w) * q * d = pd * ((n * a + (L * d - n) * w) * q) := by grind
theorem ride_id2 {p a b L pd w q d n : Int} (hp : p * d = n * pd) : (p * w + (L * pd - p) * b) * q * (d * a) = pd * q * ((n * w + (L * d - n) * b) * a) := by grind
theorem ride_id3 {a b L w n d : Int} (hn : L * b * (w - a) = n) (hd : a * (w - b) + b * (w - a) = d) : (n * w + (L * d - n) * b) * a = (n * a + (L * d - n) * w) * b := by grind
theorem ride_id4 {t pd w a d : Int} : pd * (t * (d * a * w)) = t * pd * w * a * d := by grind
theorem ride_id5 {t pd w a b d : Int} : pd * b * (t * (d * a * w)) = t * pd * w * b * (d * a) := by grind
theorem ride_id6 {pd q tn b : Int} : pd * q * (tn * b) = pd * b * (tn * q) := by grind
theorem ride_id7 {p d n pd L a w : Int} (hp : p * d = n * pd) (hn : L * a * (w - a) = n) (hd : a * (w - a) + a * (w - a) = d) : 2 * p * d = L * pd * d := by grind
theorem ride_id8 {p a w q L pd : Int} (h : 2 * p = L * pd) : (p * a + p * w) * q = (p * a + (L * pd - p) * w) * q := by rw [← h]; grind
theorem ride_id9 {L d a w b n : Int} (hn : L * b * (w - a) = n) (hd : a * (w - b) + b * (w - a) = d) : L * d - n = L * (a * (w - b)) := by rw [← hn, ← hd]; grind
theorem ride_law {L a b w : Int} (h : (rideR L a b w).2.2.2.2 = true) : Ev (fun k => laws_yLow.f k (rideR L a b w).1 (rideR L a b w).2.1) true ∧ Ev (fun k => laws_yLow.f k (rideR L a b w).2.2.1 (rideR L a b w).2.2.2.1) true ∧ 1 ≤ (rideR L a b w).1 ∧ (rideR L a b w).1 < wrap64 (L * (rideR L a b w).2.1) ∧
    wrap64 ((wrap64 ((wrap64 ((rideR L a b w).1 * a)) + (wrap64 ((wrap64 ((wrap64 (L * (rideR L a b w).2.1)) - (rideR L a b w).1)) * w)))) * (rideR L a b w).2.2.2.1) = wrap64 ((wrap64 ((wrap64 ((rideR L a b w).2.2.1 * (rideR L a b w).2.1)) * w)) * a) ∧
    wrap64 ((wrap64 ((wrap64 ((rideR L a b w).1 * w)) + (wrap64 ((wrap64 ((wrap64 (L * (rideR L a b w).2.1)) - (rideR L a b w).1)) * b)))) * (rideR L a b w).2.2.2.1) = wrap64 ((wrap64 ((wrap64 ((rideR L a b w).2.2.1 * (rideR L a b w).2.1)) * w)) * b) ∧
    (a = b → wrap64 (2 * (rideR L a b w).1) = wrap64 (L * (rideR L a b w).2.1) ∧ wrap64 ((wrap64 ((wrap64 ((rideR L a b w).1 * a)) + (wrap64 ((rideR L a b w).1 * w)))) * (rideR L a b w).2.2.2.1) = wrap64 ((wrap64 ((wrap64 ((rideR L a b w).2.2.1 * (rideR L a b w).2.1)) * w)) * a)) := by
  unfold rideR at h ⊢
  by_cases c : (1 ≤ L ∧ L ≤ 1000) ∧ w ≤ 100 ∧ (1 ≤ a ∧ a < w) ∧ (1 ≤ b ∧ b < w)
  · simp only [if_pos c] at h ⊢
    clear h
    obtain ⟨hL, hw, ha, hb⟩ := c
    have R := ride hL hw ha hb
    have n0 : 0 < L * b * (w - a) := mul_pos (mul_pos (by omega) (by omega)) (by omega)
    obtain ⟨n, hn⟩ : ∃ n, L * b * (w - a) = n := ⟨_, rfl⟩
    obtain ⟨d, hd⟩ : ∃ d, a * (w - b) + b * (w - a) = d := ⟨_, rfl⟩
    have d0 := R.u2
    have u1 := R.u1
    have u3 := R.u3
    have u4 := R.u4
    have e1 : L * d - n = L * (a * (w - b)) := ride_id9 hn hd
    have p1 := mul_pos (show 0 < L by omega) (mul_pos (show 0 < a by omega) (show 0 < w - b by omega))
    rw [hn] at n0 u1
    rw [hd] at d0
    simp only [hn, hd] at u3 u4 ⊢
    obtain ⟨tn, htn⟩ : ∃ tn, n * a + (L * d - n) * w = tn := ⟨_, rfl⟩
    obtain ⟨td, htd⟩ : ∃ td, d * a * w = td := ⟨_, rfl⟩
    rw [htn] at u3
    rw [htd] at u4
    simp only [htn, htd]
    have hp := lo_cross n d
    have ht := lo_cross tn td
    have tn0 : 0 < tn := by
      rw [← htn]
      have := mul_pos n0 (show 0 < a by omega)
      have := Int.mul_nonneg (show 0 ≤ L * d - n by omega) (show 0 ≤ w by omega)
      omega
    have g1 := lo_pos1 d0.1 n0
    have g2 := lo_pos n d0.1
    have g3 := lo_le2 n d0.1
    have y1 := yLow_lo d0.1 (Int.le_of_lt n0)
    have y2 := yLow_lo u4.1 (Int.le_of_lt tn0)
    generalize lo n d = P at *
    generalize lo tn td = Q at *
    obtain ⟨p, pd⟩ := P
    obtain ⟨t, q⟩ := Q
    simp only at *
    have hlt : p < L * pd := by
      apply Classical.byContradiction
      intro hc
      have h1 := Int.mul_le_mul_of_nonneg_right (show L * pd ≤ p by omega) (Int.le_of_lt d0.1)
      have h2 : L * pd * d = L * d * pd := by grind
      have h3 := Int.mul_lt_mul_of_pos_right (show n < L * d by omega) g2
      omega
    have hLp := mul_bd (a := L) (b := pd) (A := 1000) (B := 20000) (by omega) hL.2 (by omega) (by omega)
    have q1 : (p * a + (L * pd - p) * w) * q = t * pd * w * a := by
      refine mul_cancel_r d0.1 ?_
      rw [ride_id1 hp, htn, ← ht, ← htd]
      exact ride_id4
    have hid : (n * w + (L * d - n) * b) * a = tn * b := by rw [← htn]; exact ride_id3 hn hd
    have q2 : (p * w + (L * pd - p) * b) * q = t * pd * w * b := by
      refine mul_cancel_r (mul_pos d0.1 (show 0 < a by omega)) ?_
      rw [ride_id2 hp, hid, ride_id6, ← ht, ← htd]
      exact ride_id5
    refine ⟨y1, y2, by omega, ?_, ?_, ?_, fun hab => ?_⟩
    · rw [w64 (x := L * pd) (by omega) (by omega)]
      exact hlt
    · simp only [wrap_add_l, wrap_add_r, wrap_mul_l, wrap_mul_r, wrap_sub_l, wrap_sub_r]
      rw [q1]
    · simp only [wrap_add_l, wrap_add_r, wrap_mul_l, wrap_mul_r, wrap_sub_l, wrap_sub_r]
      rw [q2]
    · subst hab
      have e2 : 2 * p = L * pd := by
        refine mul_cancel_r d0.1 ?_
        exact ride_id7 hp hn hd
      refine ⟨by rw [e2], ?_⟩
      simp only [wrap_add_l, wrap_add_r, wrap_mul_l, wrap_mul_r]
      rw [← q1, ride_id8 e2]
  · simp only [if_neg c] at h
    cases h
theorem ySame_l0_ev (l : List Int) (hl : l.length ≤ 1000) : ∀ i : Int, 0 ≤ i → i ≤ l.length → Ev (fun k => laws_ySame.l0 k l l l.length i) true := by
  refine downI ?_ (fun i h0 h1 ih => ?_)
  · exact Ev.step (fun k => by simp only [laws_ySame.l0]; rw [if_neg (by omega)]) (Ev.now _)
  · exact Ev.step (fun k => by simp only [laws_ySame.l0, if_true]; rw [if_pos h1, if_pos h0, if_pos h1, if_pos h1, w64 (x := i + 1) (by omega) (by omega)]) ih
theorem ySame_ev (l : List Int) (hl : l.length ≤ 1000) : Ev (fun k => laws_ySame.f k l l) true := by
  refine Ev.congr (fun k => by unfold laws_ySame.f; rw [if_pos rfl]) ?_
  exact ySame_l0_ev l hl 0 (by omega) (by omega)
theorem yLegs_l0_ev (l : List S54) (hl : l.length ≤ 1000) : ∀ i : Int, 0 ≤ i → i ≤ l.length → Ev (fun k => laws_yLegs.l0 k l l l.length i) true := by
  refine downI ?_ (fun i h0 h1 ih => ?_)
  · exact Ev.step (fun k => by simp only [laws_yLegs.l0]; rw [if_neg (by omega)]) (Ev.now _)
  · exact Ev.step (fun k => by simp only [laws_yLegs.l0, beq_self_eq_true, Bool.not_true, Bool.or_self, Bool.false_eq_true, if_false]; rw [if_pos h1, if_pos h0, if_pos h1, if_pos h1, w64 (x := i + 1) (by omega) (by omega)]) ih
theorem yLegs_ev (l : List S54) (hl : l.length ≤ 1000) : Ev (fun k => laws_yLegs.f k l l) true := by
  refine Ev.congr (fun k => by unfold laws_yLegs.f; rw [if_pos rfl]) ?_
  exact yLegs_l0_ev l hl 0 (by omega) (by omega)
theorem yHas_l0_ev (l : List Int) (x : Int) (hl : l.length ≤ 1000) (hx : x ∈ l) : ∀ i : Int, 0 ≤ i → i ≤ l.length → x ∈ l.drop i.toNat → Ev (fun k => laws_yHas.l0 k x l l.length i) true := by
  refine downI (fun h => ?_) (fun i h0 h1 ih h => ?_)
  · rw [List.drop_of_length_le (by omega)] at h
    cases h
  · rw [drop_get l 0 i h0 h1] at h
    by_cases e : rd l i = x
    · exact Ev.step (fun k => by simp only [laws_yHas.l0]; rw [if_pos h1, if_pos h0, if_pos h1, if_pos e]) (Ev.now _)
    · refine Ev.step (fun k => by simp only [laws_yHas.l0]; rw [if_pos h1, if_pos h0, if_pos h1, if_neg e, w64 (x := i + 1) (by omega) (by omega)]) (ih ?_)
      rcases List.mem_cons.1 h with h | h
      · exact absurd h.symm e
      · exact h
theorem yOnce_ev {n : Nat} {o : List Int} (h : Perm n o) (hn : n ≤ 1000) : Ev (fun k => laws_yOnce.f k o (n : Int)) true := by
  have hl := h.len
  have key : ∀ i : Int, 0 ≤ i → i ≤ n → Ev (fun k => laws_yOnce.l0 k o n i) true := by
    refine downI ?_ (fun i h0 h1 ih => ?_)
    · exact Ev.step (fun k => by simp only [laws_yOnce.l0]; rw [if_neg (by omega)]) (Ev.now _)
    · refine Ev.step (fun k => by simp only [laws_yOnce.l0]; rw [if_pos h1, w64 (x := i + 1) (by omega) (by omega)]) ?_
      have hm := h.all i h0 h1
      refine Ev.bind (a := true) (yHas_l0_ev o i (by omega) hm 0 (by omega) (by omega) (by simpa using hm)) ?_
      simp only [if_true]
      exact ih
  refine Ev.congr (fun k => by unfold laws_yOnce.f; rw [if_pos (by omega)]) ?_
  exact key 0 (by omega) (by omega)
/-! ### The law's end: the bicycle -/
section
variable (w x y wheel way foot wide : Int)
theorem tail_ok : (if (rideR way foot foot wide).2.2.2.2 = true then (if (wrap64 (2 * (rideR way foot foot wide).1)) = (wrap64 (way * (rideR way foot foot wide).2.1)) then (if (wrap64 ((wrap64 ((wrap64 ((rideR way foot foot wide).1 * foot)) + (wrap64 ((rideR way foot foot wide).1 * wide)))) * (rideR way foot foot wide).2.2.2.1)) = (wrap64 ((wrap64 ((wrap64 ((rideR way foot foot wide).2.2.1 * (rideR way foot foot wide).2.1)) * wide)) * foot)) then (some true) else (some false)) else (some false)) else (some true)) = some true := by
  by_cases h : (rideR way foot foot wide).2.2.2.2 = true
  · obtain ⟨_, _, _, _, _, _, h7⟩ := ride_law h
    obtain ⟨a, b⟩ := h7 rfl
    rw [if_pos h, if_pos a, if_pos b]
  · rw [if_neg h]
theorem j12_ev : Ev (fun k => laws_FnLegsShared.j12 k w x y wheel (rideR w x y wheel).1 (rideR w x y wheel).2.1 (rideR w x y wheel).2.2.1 (rideR w x y wheel).2.2.2.1 (rideR w x y wheel).2.2.2.2 way foot wide (rideR way foot foot wide).1 (rideR way foot foot wide).2.1 (rideR way foot foot wide).2.2.1 (rideR way foot foot wide).2.2.2.1 (rideR way foot foot wide).2.2.2.2) true := by
  by_cases h : (rideR w x y wheel).2.2.2.2 = true
  · obtain ⟨a1, a2, a3, a4, a5, a6, _⟩ := ride_law h
    refine Ev.step (fun k => by simp only [laws_FnLegsShared.j12]; rw [if_pos h]) ?_
    refine Ev.bind a1 ?_
    simp only [if_true]
    refine Ev.bind a2 ?_
    simp only [if_true]
    refine Ev.congr (fun k => by rw [if_neg (by omega), if_neg (by omega), if_pos a5, a6, bne_self_eq_false]) ?_
    exact Ev.step (fun k => by simp only [laws_FnLegsShared.j13, Bool.false_eq_true, if_false]; exact tail_ok way foot wide) (Ev.now _)
  · exact Ev.step (fun k => by simp only [laws_FnLegsShared.j12]; rw [if_neg h]; exact tail_ok way foot wide) (Ev.now _)
theorem j9_ev (c : List S54) : Ev (fun k => laws_FnLegsShared.j9 k c (JoinR c).1 (JoinR c).2 w x y wheel (rideR w x y wheel).1 (rideR w x y wheel).2.1 (rideR w x y wheel).2.2.1 (rideR w x y wheel).2.2.2.1 (rideR w x y wheel).2.2.2.2 way foot wide (rideR way foot foot wide).1 (rideR way foot foot wide).2.1 (rideR way foot foot wide).2.2.1 (rideR way foot foot wide).2.2.2.1 (rideR way foot foot wide).2.2.2.2) true := by
  have e12 := j12_ev w x y wheel way foot wide
  by_cases g : goodLegs c = true ∧ goodLegs (joinL c) = true
  · have hj : JoinR c = (joinL c, true) := by unfold JoinR joinEnd; rw [if_pos g.1, if_pos g.2]
    rw [hj]
    have ok := good_ok g.1
    have J := joinL_joined c [] (0, 1) ⟨rfl, fun x hx => (by cases hx), fun i h0 h1 => (by simp at h1; omega)⟩ (fun x hx => (okLeg_iff.1 (ok x hx)).2.1)
    have ht : timeL (joinL c) = timeL c := J.time
    have hlen : (joinL c).length ≤ c.length := by have := joinL_len c []; simpa [joinL] using this
    have hap : ∀ i : Int, 1 ≤ i → i < (joinL c).length → (rd_T54 (joinL c) (i - 1)).f1 ≠ (rd_T54 (joinL c) i).f1 := J.apart
    have hl := good_len g.2
    refine Ev.step (fun k => by simp only [laws_FnLegsShared.j9, if_true]; rfl) ?_
    refine Ev.bind (implTime_ev _ g.2) (Ev.bind (implTime_ev _ g.1) ?_)
    simp only [ht, if_true]
    refine Ev.congr (fun k => by rw [decide_eq_false (show ¬ (((joinL c).length : Int) > (c.length : Int)) by omega)]) ?_
    refine Ev.step (fun k => by simp only [laws_FnLegsShared.j10, Bool.false_eq_true, if_false]; rfl) ?_
    have key : ∀ i : Int, 1 ≤ i → i ≤ (joinL c).length → Ev (fun k => laws_FnLegsShared.l4 k (joinL c) w x y wheel (rideR w x y wheel).1 (rideR w x y wheel).2.1 (rideR w x y wheel).2.2.1 (rideR w x y wheel).2.2.2.1 (rideR w x y wheel).2.2.2.2 way foot wide (rideR way foot foot wide).1 (rideR way foot foot wide).2.1 (rideR way foot foot wide).2.2.1 (rideR way foot foot wide).2.2.2.1 (rideR way foot foot wide).2.2.2.2 i) true := by
      refine downA ?_ (fun i h0 h1 ih => ?_)
      · exact Ev.step (fun k => by simp only [laws_FnLegsShared.l4]; rw [if_neg (by omega)]) e12
      · refine Ev.step (fun k => by simp only [laws_FnLegsShared.l4]; rw [if_pos h1, w64 (x := i - 1) (by omega) (by omega), if_pos (by omega), if_pos (by omega), if_pos (by omega), if_neg (hap i h0 h1), w64 (x := i + 1) (by omega) (by omega)]) ih
    exact key 1 (by omega) (by omega)
  · have hj : JoinR c = ([], false) := by
      unfold JoinR joinEnd
      by_cases g1 : goodLegs c = true
      · rw [if_pos g1, if_neg (fun g2 => g ⟨g1, g2⟩)]
      · rw [if_neg g1]
    rw [hj]
    exact Ev.step (fun k => by simp only [laws_FnLegsShared.j9, Bool.false_eq_true, if_false]) e12
/-! ### The runners -/
theorem iota_perm (n : Nat) : Perm n (ordF n (fun j => (j : Int))) := ordF_perm n _ (fun j hj => by omega) (fun i j _ _ h => by omega)
theorem j2_ev (ls ss : List Int) (c : List S54) : Ev (fun k => laws_FnLegsShared.j2 k ls ss (runnersOf ls ss true).1 (runnersOf ls ss true).2 (runnersOf ls ss false).1 c (JoinR c).1 (JoinR c).2 w x y wheel (rideR w x y wheel).1 (rideR w x y wheel).2.1 (rideR w x y wheel).2.2.1 (rideR w x y wheel).2.2.2.1 (rideR w x y wheel).2.2.2.2 way foot wide (rideR way foot foot wide).1 (rideR way foot foot wide).2.1 (rideR way foot foot wide).2.2.1 (rideR way foot foot wide).2.2.2.1 (rideR way foot foot wide).2.2.2.2 false) true := by
  have e9 := j9_ev w x y wheel way foot wide c
  by_cases g : goodTeam ls ss = true
  · have T := team_of g
    have n1 := T.n1
    have n6 := T.n6
    have hsl := T.eq
    obtain ⟨bp, bo⟩ := bestO_perm n1 (valR ls ss true) ls.length [] (by simp) (fun x hx => by cases hx) (by simp)
    obtain ⟨wp, wo⟩ := bestO_perm n1 (valR ls ss false) ls.length [] (by simp) (fun x hx => by cases hx) (by simp)
    simp only [List.nil_append] at bo wo
    have hp : 0 < impl_chosenRunners.prod ss := by
      have := impl_chosenRunners.prod_take ss (fun i h0 h1 => T.s i h0 (by omega)) (by omega) ss.length (Nat.le_refl _)
      rw [List.take_of_length_le (Nat.le_refl _)] at this
      omega
    have hb : runnersOf ls ss true = (bestO ls.length (valR ls ss true) ls.length [], true) := by unfold runnersOf; rw [if_pos g]
    have hw : runnersOf ls ss false = (bestO ls.length (valR ls ss false) ls.length [], true) := by unfold runnersOf; rw [if_pos g]
    rw [hb, hw]
    have sb := fun a b ha hb' hl => swap_law T hp true _ bp bo a b ha hb' hl
    have sw := fun a b ha hb' hl => swap_law T hp false _ wp wo a b ha hb' hl
    have ip := iota_perm ls.length
    have b1 := bo _ ip
    have w1 := wo _ ip
    generalize bestO ls.length (valR ls ss true) ls.length [] = best at *
    generalize bestO ls.length (valR ls ss false) ls.length [] = worst at *
    unfold valR at b1 w1
    simp only [sgOf, if_true, Bool.false_eq_true, if_false] at b1 w1 sb sw
    refine Ev.step (fun k => by simp only [laws_FnLegsShared.j2, Bool.false_eq_true, if_false, if_true]; rfl) ?_
    refine Ev.bind (yOnce_ev bp (by omega)) ?_
    simp only [if_true]
    refine Ev.bind (yOnce_ev wp (by omega)) ?_
    simp only [Bool.not_true]
    refine Ev.step (fun k => by simp only [laws_FnLegsShared.j3, Bool.false_eq_true, if_false]; rfl) ?_
    -- longer legs, faster runners
    have k3 : ∀ m : Int, 0 ≤ m → m < ls.length → ∀ v : Bool, Ev (fun k => laws_FnLegsShared.l2 k ls ss best worst c (JoinR c).1 (JoinR c).2 w x y wheel (rideR w x y wheel).1 (rideR w x y wheel).2.1 (rideR w x y wheel).2.2.1 (rideR w x y wheel).2.2.2.1 (rideR w x y wheel).2.2.2.2 way foot wide (rideR way foot foot wide).1 (rideR way foot foot wide).2.1 (rideR way foot foot wide).2.2.1 (rideR way foot foot wide).2.2.2.1 (rideR way foot foot wide).2.2.2.2 ls.length (m + 1)) v → ∀ o : Int, 0 ≤ o → o ≤ ls.length →
        Ev (fun k => laws_FnLegsShared.l3 k ls ss best worst c (JoinR c).1 (JoinR c).2 w x y wheel (rideR w x y wheel).1 (rideR w x y wheel).2.1 (rideR w x y wheel).2.2.1 (rideR w x y wheel).2.2.2.1 (rideR w x y wheel).2.2.2.2 way foot wide (rideR way foot foot wide).1 (rideR way foot foot wide).2.1 (rideR way foot foot wide).2.2.1 (rideR way foot foot wide).2.2.2.1 (rideR way foot foot wide).2.2.2.2 m ls.length m ls.length o) v := by
      intro m m0 m1 v hv
      refine downI ?_ (fun o h0 h1 ih => ?_)
      · exact Ev.step (fun k => by simp only [laws_FnLegsShared.l3]; rw [if_neg (by omega), w64 (x := m + 1) (by omega) (by omega)]) hv
      · obtain ⟨x0, x1⟩ := bp.rd_ok m m0 m1
        obtain ⟨y0, y1⟩ := bp.rd_ok o h0 h1
        obtain ⟨z0, z1⟩ := wp.rd_ok m m0 m1
        obtain ⟨u0, u1⟩ := wp.rd_ok o h0 h1
        have bl := bp.len
        have wl := wp.len
        by_cases cl : rd ls m > rd ls o
        · have q1 := sb m.toNat o.toNat (by omega) (by omega) (by rw [show ((m.toNat : Nat) : Int) = m by omega, show ((o.toNat : Nat) : Int) = o by omega]; exact cl)
          have q2 := sw m.toNat o.toNat (by omega) (by omega) (by rw [show ((m.toNat : Nat) : Int) = m by omega, show ((o.toNat : Nat) : Int) = o by omega]; exact cl)
          rw [show ((m.toNat : Nat) : Int) = m by omega, show ((o.toNat : Nat) : Int) = o by omega] at q1 q2
          exact Ev.step (fun k => by simp only [laws_FnLegsShared.l3]; rw [if_pos h1, if_pos m0, if_pos m1, if_pos h0, if_pos h1, if_pos cl, if_pos (by omega), if_pos x0, if_pos (by omega), if_pos (by omega), if_pos y0, if_pos (by omega), if_neg (by omega), if_pos (by omega), if_pos z0, if_pos (by omega), if_pos (by omega), if_pos u0, if_pos (by omega), if_neg (by omega), w64 (x := o + 1) (by omega) (by omega)]) ih
        · exact Ev.step (fun k => by simp only [laws_FnLegsShared.l3]; rw [if_pos h1, if_pos m0, if_pos m1, if_pos h0, if_pos h1, if_neg cl, w64 (x := o + 1) (by omega) (by omega)]) ih
    have k2 : ∀ m : Int, 0 ≤ m → m ≤ ls.length → Ev (fun k => laws_FnLegsShared.l2 k ls ss best worst c (JoinR c).1 (JoinR c).2 w x y wheel (rideR w x y wheel).1 (rideR w x y wheel).2.1 (rideR w x y wheel).2.2.1 (rideR w x y wheel).2.2.2.1 (rideR w x y wheel).2.2.2.2 way foot wide (rideR way foot foot wide).1 (rideR way foot foot wide).2.1 (rideR way foot foot wide).2.2.1 (rideR way foot foot wide).2.2.2.1 (rideR way foot foot wide).2.2.2.2 ls.length m) true := by
      refine downI ?_ (fun m h0 h1 ih => ?_)
      · exact Ev.step (fun k => by simp only [laws_FnLegsShared.l2]; rw [if_neg (by omega)]) e9
      · exact Ev.step (fun k => by simp only [laws_FnLegsShared.l2]; rw [if_pos h1]) (k3 m h0 h1 true ih 0 (by omega) (by omega))
    -- the sums
    have hid : ∀ j : Nat, j < ls.length → rd (ordF ls.length (fun j => (j : Int))) (j : Int) = j := fun j hj => ordF_rd _ _ _ hj
    have hlow : vtN ls ss (impl_chosenRunners.prod ss) best ls.length ≤ vtN ls ss (impl_chosenRunners.prod ss) (ordF ls.length (fun j => (j : Int))) ls.length := by
      have e1 := bp.len
      have e2 := ip.len
      unfold vt at b1
      rw [e1, e2] at b1
      omega
    have hhigh : vtN ls ss (impl_chosenRunners.prod ss) (ordF ls.length (fun j => (j : Int))) ls.length ≤ vtN ls ss (impl_chosenRunners.prod ss) worst ls.length := by
      have e1 := wp.len
      have e2 := ip.len
      unfold vt at w1
      rw [e1, e2] at w1
      omega
    have k1 : ∀ d i : Nat, i + d = ls.length → Ev (fun k => laws_FnLegsShared.l1 k ls ss best worst c (JoinR c).1 (JoinR c).2 w x y wheel (rideR w x y wheel).1 (rideR w x y wheel).2.1 (rideR w x y wheel).2.2.1 (rideR w x y wheel).2.2.2.1 (rideR w x y wheel).2.2.2.2 way foot wide (rideR way foot foot wide).1 (rideR way foot foot wide).2.1 (rideR way foot foot wide).2.2.1 (rideR way foot foot wide).2.2.2.1 (rideR way foot foot wide).2.2.2.2 (impl_chosenRunners.prod ss) (vtN ls ss (impl_chosenRunners.prod ss) best i) (vtN ls ss (impl_chosenRunners.prod ss) worst i) (vtN ls ss (impl_chosenRunners.prod ss) (ordF ls.length (fun j => (j : Int))) i) ls ls.length i) true := by
      intro d
      induction d with
      | zero =>
        intro i hi
        have e : i = ls.length := by omega
        subst e
        refine Ev.step (fun k => by simp only [laws_FnLegsShared.l1]; rw [if_neg (by omega), if_neg (by omega), decide_eq_false (by omega)]) ?_
        exact Ev.step (fun k => by simp only [laws_FnLegsShared.j6, Bool.false_eq_true, if_false]) (k2 0 (by omega) (by omega))
      | succ d ih =>
        intro i hi
        obtain ⟨x0, x1⟩ := bp.rd_ok (i : Int) (by omega) (by omega)
        obtain ⟨z0, z1⟩ := wp.rd_ok (i : Int) (by omega) (by omega)
        obtain ⟨c1, c2, c3, c4⟩ := T.part (i : Int) (rd best (i : Int)) (by omega) (by omega) x0 x1
        obtain ⟨d1, d2, d3, d4⟩ := T.part (i : Int) (rd worst (i : Int)) (by omega) (by omega) z0 z1
        obtain ⟨f1, f2, f3, f4⟩ := T.part (i : Int) (i : Int) (by omega) (by omega) (by omega) (by omega)
        have sx := T.s _ x0 x1
        have sz := T.s _ z0 z1
        have si := T.s (i : Int) (by omega) (by omega)
        obtain ⟨e1, e2⟩ := vtN_bd T best bp.ok (by have := bp.len; omega) i (by have := bp.len; omega)
        obtain ⟨g1, g2⟩ := vtN_bd T worst wp.ok (by have := wp.len; omega) i (by have := wp.len; omega)
        obtain ⟨h1, h2⟩ := vtN_bd T _ ip.ok (by have := ip.len; omega) i (by have := ip.len; omega)
        have bl := bp.len
        have wl := wp.len
        have h := ih (i + 1) (by omega)
        simp only [vtN, hid i (by omega)] at h
        refine Ev.step (fun k => ?_) h
        simp only [laws_FnLegsShared.l1]
        rw [if_pos (by omega), if_pos (by omega), if_pos (by omega), if_pos (by omega), if_pos x0, if_pos (by omega), if_neg (by omega), if_pos (by omega), if_pos z0, if_pos (by omega), if_neg (by omega), if_pos (by omega), if_neg (by omega)]
        rw [tdiv_ediv T.p0, tdiv_ediv T.p0, tdiv_ediv T.p0, w64 (x := impl_chosenRunners.prod ss / rd ss (rd best (i : Int))) (by omega) (by omega), w64 (x := impl_chosenRunners.prod ss / rd ss (rd worst (i : Int))) (by omega) (by omega), w64 (x := impl_chosenRunners.prod ss / rd ss (i : Int)) (by omega) (by omega),
          w64 (x := rd ls (i : Int) * (impl_chosenRunners.prod ss / rd ss (rd best (i : Int)))) (by omega) (by omega), w64 (x := rd ls (i : Int) * (impl_chosenRunners.prod ss / rd ss (rd worst (i : Int)))) (by omega) (by omega), w64 (x := rd ls (i : Int) * (impl_chosenRunners.prod ss / rd ss (i : Int))) (by omega) (by omega),
          w64 (x := vtN ls ss (impl_chosenRunners.prod ss) best i + rd ls (i : Int) * (impl_chosenRunners.prod ss / rd ss (rd best (i : Int)))) (by omega) (by omega), w64 (x := vtN ls ss (impl_chosenRunners.prod ss) worst i + rd ls (i : Int) * (impl_chosenRunners.prod ss / rd ss (rd worst (i : Int)))) (by omega) (by omega), w64 (x := vtN ls ss (impl_chosenRunners.prod ss) (ordF ls.length (fun j => (j : Int))) i + rd ls (i : Int) * (impl_chosenRunners.prod ss / rd ss (i : Int))) (by omega) (by omega), w64 (x := (i : Int) + 1) (by omega) (by omega)]
        rfl
    have k0 : ∀ d i : Nat, i + d = ss.length → Ev (fun k => laws_FnLegsShared.l0 k ls ss best worst c (JoinR c).1 (JoinR c).2 w x y wheel (rideR w x y wheel).1 (rideR w x y wheel).2.1 (rideR w x y wheel).2.2.1 (rideR w x y wheel).2.2.2.1 (rideR w x y wheel).2.2.2.2 way foot wide (rideR way foot foot wide).1 (rideR way foot foot wide).2.1 (rideR way foot foot wide).2.2.1 (rideR way foot foot wide).2.2.2.1 (rideR way foot foot wide).2.2.2.2 (impl_chosenRunners.prod (ss.take i)) ss ss.length i) true := by
      intro d
      induction d with
      | zero =>
        intro i hi
        refine Ev.step (fun k => by simp only [laws_FnLegsShared.l0]; rw [if_neg (by omega)]) ?_
        rw [List.take_of_length_le (by omega)]
        exact k1 ls.length 0 (by omega)
      | succ d ih =>
        intro i hi
        have h := ih (i + 1) (by omega)
        have hq := impl_chosenRunners.prod_take ss (fun i h0 h1 => T.s i h0 (by omega)) (by omega) i (by omega)
        have hp2 := impl_chosenRunners.pow6 i (by omega)
        obtain ⟨s1, s2⟩ := T.s (i : Int) (by omega) (by omega)
        have e : ss.take (i + 1) = ss.take i ++ [rd ss (i : Int)] := take_get ss 0 (i : Int) (by omega) (by omega)
        have hm0 : 0 ≤ impl_chosenRunners.prod (ss.take i) * rd ss (i : Int) := Int.mul_nonneg (by omega) (by omega)
        have hm1 : impl_chosenRunners.prod (ss.take i) * rd ss (i : Int) ≤ 1000000000000 * 100 := Int.mul_le_mul (by omega) s2 (by omega) (by omega)
        rw [e, impl_chosenRunners.prod_snoc] at h
        refine Ev.step (fun k => by simp only [laws_FnLegsShared.l0]; rw [if_pos (by omega), if_pos (by omega), if_pos (by omega), w64 (x := impl_chosenRunners.prod (ss.take i) * rd ss (i : Int)) (by omega) (by omega), w64 (x := (i : Int) + 1) (by omega) (by omega)]; rfl) h
    exact k0 ss.length 0 (by omega)
  · have hb : runnersOf ls ss true = ([], false) := by unfold runnersOf; rw [if_neg g]
    rw [hb]
    exact Ev.step (fun k => by simp only [laws_FnLegsShared.j2, Bool.false_eq_true, if_false]) e9
end
theorem j1_ev {code : List Int} (hc : Bytes code) : Ev (fun k => laws_FnLegsShared.j1 k code) true := by
  obtain ⟨ls, ss, e1, hl, hs⟩ := drawRunners_ev hc
  obtain ⟨c, e2, hcl⟩ := drawJoin_ev hc
  obtain ⟨w, x, y, wheel, e3⟩ := drawRide_ev hc
  obtain ⟨way, foot, wide, e4⟩ := drawShared_ev hc
  have ib : Ev (fun k => impl_BestRunners.f k ls ss) (runnersOf ls ss true) := by unfold impl_BestRunners.f; exact Ev.bind (chosen_ev ls ss true) (Ev.now _)
  have sb : Ev (fun k => spec_BestRunners.f k ls ss) (runnersOf ls ss true) := by unfold spec_BestRunners.f; exact specRunners_ev ls ss true
  have iw : Ev (fun k => impl_WorstRunners.f k ls ss) (runnersOf ls ss false) := by unfold impl_WorstRunners.f; exact Ev.bind (chosen_ev ls ss false) (Ev.now _)
  have sw : Ev (fun k => spec_WorstRunners.f k ls ss) (runnersOf ls ss false) := by unfold spec_WorstRunners.f; exact specRunners_ev ls ss false
  have is : Ev (fun k => impl_SharedBicycle.f k way foot wide) (rideR way foot foot wide) := by unfold impl_SharedBicycle.f; exact Ev.bind (impl_ride_ev way foot foot wide) (Ev.now _)
  have sp : Ev (fun k => spec_SharedBicycle.f k way foot wide) (rideR way foot foot wide) := by unfold spec_SharedBicycle.f; exact Ev.bind (spec_ride_ev way foot foot wide) (Ev.now _)
  obtain ⟨js, ji, jl⟩ := joinLegs_ev c
  have l1 := runners_len ls ss true
  have l2 := runners_len ls ss false
  have hsame : (runnersOf ls ss false).2 = (runnersOf ls ss true).2 := by unfold runnersOf; split <;> rfl
  have e := j2_ev w x y wheel way foot wide ls ss c
  refine Ev.step (fun k => by simp only [laws_FnLegsShared.j1]; rfl) ?_
  refine Ev.bind e1 (Ev.bind ib (Ev.bind sb (Ev.bind iw (Ev.bind sw (Ev.bind e2 (Ev.bind ji (Ev.bind js ?_)))))))
  refine Ev.congr (fun k => by rw [e3, Option.bind_some]) ?_
  refine Ev.bind (impl_ride_ev w x y wheel) (Ev.bind (spec_ride_ev w x y wheel) ?_)
  refine Ev.congr (fun k => by rw [e4, Option.bind_some]) ?_
  refine Ev.bind is (Ev.bind sp ?_)
  simp only [bne_self_eq_false, Bool.false_eq_true, if_false, hsame]
  refine Ev.bind (ySame_ev _ (by omega)) ?_
  simp only [if_true]
  refine Ev.bind (ySame_ev _ (by omega)) ?_
  simp only [if_true]
  refine Ev.bind (yLegs_ev _ (by omega)) ?_
  simp only [if_true]
  exact e
theorem FnLegsShared : laws_FnLegsShared.Pure := by
  intro l0 l1 _ h0 _ h1
  refine Ev.rounds ?_
  unfold laws_FnLegsShared.f laws_big.f
  by_cases c0 : (l0.length : Int) > 1048576
  · exact Ev.congr (fun k => by rw [if_pos c0]; rfl) (Ev.now _)
  refine Ev.congr (fun k => by rw [if_neg c0, Option.bind_some, w64 (x := 1048576 - (l0.length : Int)) (by omega) (by omega)]) ?_
  by_cases c1 : (l1.length : Int) > 1048576 - (l0.length : Int)
  · exact Ev.congr (fun k => by rw [if_pos (decide_eq_true c1)]) (Ev.now _)
  refine Ev.congr (fun k => by rw [if_neg (by simpa using c1)]) ?_
  have b0 := bytes_of (show l0.length ≤ 1048576 by omega) h0
  have b1 := bytes_of (show l1.length ≤ 1048576 by omega) h1
  obtain ⟨l, L, M, e1, hl⟩ := drawNeeded_ev b0
  refine Ev.bind e1 (Ev.bind (implNeeded_ev l L M) (Ev.bind (specNeeded_ev l L M) ?_))
  simp only [bne_self_eq_false, Bool.false_eq_true, if_false, if_true]
  have j1 := j1_ev b1
  by_cases h : (neededR l L M).2.2 = true
  · obtain ⟨g, n1, y1, q⟩ := needed_law l L M h
    refine Ev.step (fun k => by simp only [laws_FnLegsShared.j0, Bool.false_eq_true, if_false]; rw [if_pos h]) ?_
    refine Ev.bind (implTime_ev l g) (Ev.bind (implLong_ev l g) (Ev.bind y1 ?_))
    simp only [if_true]
    exact Ev.congr (fun k => by rw [if_neg (by omega), if_pos q]) j1
  · exact Ev.step (fun k => by simp only [laws_FnLegsShared.j0, Bool.false_eq_true, if_false]; rw [if_neg h]) j1
end Go.Proofs.Ytgjhomhfcifipaa.Pure
