-- WRITTEN BY a program of this session (wip/xprint.py, over the kit's print): Lean checks it.
import Derived.Test.YtgjhomhfcifipaaQSx0
import Derived.Test.YtgjhomhfcifipaaQSx2
import Derived.Test.YtgjhomhfcifipaaQSx3
namespace Go.Proofs.Ytgjhomhfcifipaa.QS
open Go.Proofs.Ytgjhomhfcifipaa.X Go.RowKit Go.Proofs.YtgjhomhfcifipaaW.PrintWords Go.Proofs.YtgjhomhfcifipaaW.PrintLast Go.Proofs.YtgjhomhfcifipaaW.PrintMore
attribute [local go_sem] max2_int min2_int max_two min_two max_three min_three max_four min_four   -- for this text's walks alone
set_option linter.unusedVariables false
set_option linter.unusedSimpArgs false

/-! ### impl_chosenRunners: function 36 -/
mutual
def impl_chosenRunners.ext (ls ss : List Int) (sg pr : Int) : Nat → List Int → Int → List Int → Int → Option (List Int × Int)
  | 0, _, _, _, _ => none
  | k + 1, o, t, b, m => if 0 ≤ t ∧ t ≤ 1000000000000000000 then (if o.length = ls.length then some (if b = [] ∨ sg * t < m then (o, sg * t) else (b, m)) else impl_chosenRunners.lp ls ss sg pr k o t 0 b m) else none
def impl_chosenRunners.lp (ls ss : List Int) (sg pr : Int) : Nat → List Int → Int → Int → List Int → Int → Option (List Int × Int)
  | 0, _, _, _, _, _ => none
  | k + 1, o, t, i, b, m => if i < (ss.length : Int) then (if o.length < ls.length ∧ 0 ≤ i then ((slices_Contains_int_int.f k o i).bind fun c => if c = true then impl_chosenRunners.lp ls ss sg pr k o t (i + 1) b m else (impl_chosenRunners.ext ls ss sg pr k (o ++ [i]) (t + rd ls o.length * (pr / rd ss i)) b m).bind fun r => impl_chosenRunners.lp ls ss sg pr k o t (i + 1) r.1 r.2) else none) else some (b, m)
end
/-- What the closure has captured, and does not write. -/
structure impl_chosenRunners.Stat (W : World) (AL : Option Addr) (ls : List Int) (cL : Nat) (AS : Option Addr) (ss : List Int) (cS : Nat) (sg pr : Int) (gL gB gS gM gP gE gR : Nat) : Prop where
  l : W.heap[gL]? = some (.cells #[.slice AL ls.length cL] 22 (0, 0))
  s : W.heap[gS]? = some (.cells #[.int .i64 sg] 3 (0, 0))
  p : W.heap[gP]? = some (.cells #[.slice AS ss.length cS] 22 (0, 0))
  e : W.heap[gE]? = some (.cells #[.func (.func 61) #[] #[.pointer (some ⟨gL, 0, none⟩), .pointer (some ⟨gB, 0, none⟩), .pointer (some ⟨gS, 0, none⟩), .pointer (some ⟨gM, 0, none⟩), .pointer (some ⟨gP, 0, none⟩), .pointer (some ⟨gE, 0, none⟩), .pointer (some ⟨gR, 0, none⟩)]] 75 (0, 0))
  r : W.heap[gR]? = some (.cells #[.int .i64 pr] 3 (0, 0))
/-- The best order so far, and its value. -/
structure impl_chosenRunners.Best (w0 W : World) (T gB gM : Nat) (vb : Value) (b : List Int) (m : Int) : Prop where
  c : W.heap[gB]? = some (.cells #[vb] 22 (0, 0))
  r : Kd.R (Kd.int .i64) 3 W w0.heap.size (fun k => T ≤ k) vb b
  n : b = [] → vb = .slice none 0 0
  m : W.heap[gM]? = some (.cells #[.int .i64 m] 3 (0, 0))
/-- What stays so. -/
structure impl_chosenRunners.Env (w0 : World) (AL : Option Addr) (ls : List Int) (cL : Nat) (AS : Option Addr) (ss : List Int) (cS : Nat) (sg pr : Int) (gL gB gS gM gP gE gR T : Nat) : Prop where
  cl : Kd.C (Kd.int .i64) w0 AL ls.length ls
  cll : ls.length ≤ cL
  cs : Kd.C (Kd.int .i64) w0 AS ss.length ss
  csl : ss.length ≤ cS
  bl : ∀ i : Int, 0 ≤ i → i < ls.length → 1 ≤ rd ls i ∧ rd ls i ≤ 1000
  bs : ∀ i : Int, 0 ≤ i → i < ss.length → 1 ≤ rd ss i ∧ rd ss i ≤ 100
  len : ss.length = ls.length
  six : ls.length ≤ 6
  one : 1 ≤ ls.length
  sg : sg = 1 ∨ sg = -1
  p0 : 0 ≤ pr
  p1 : pr ≤ 1000000000000
  lo : w0.heap.size ≤ gB ∧ w0.heap.size ≤ gM
  hi : gB < T ∧ gM < T
  bm : gB ≠ gM
  nb : gL ≠ gB ∧ gS ≠ gB ∧ gP ≠ gB ∧ gE ≠ gB ∧ gR ≠ gB
  nm : gL ≠ gM ∧ gS ≠ gM ∧ gP ≠ gM ∧ gE ≠ gM ∧ gR ≠ gM
def impl_chosenRunners.two (gB gM : Nat) (k : Nat) : Prop := k = gB ∨ k = gM
theorem impl_chosenRunners.Stat.kept {W W' : World} {AL : Option Addr} {ls : List Int} {cL : Nat} {AS : Option Addr} {ss : List Int} {cS : Nat} {sg pr : Int} {gL gB gS gM gP gE gR T : Nat} {w0 : World} (h : impl_chosenRunners.Stat W AL ls cL AS ss cS sg pr gL gB gS gM gP gE gR) (E : impl_chosenRunners.Env w0 AL ls cL AS ss cS sg pr gL gB gS gM gP gE gR T) (hk : Kept W W' (impl_chosenRunners.two gB gM)) : impl_chosenRunners.Stat W' AL ls cL AS ss cS sg pr gL gB gS gM gP gE gR := by
  obtain ⟨a1, a2, a3, a4, a5⟩ := E.nb
  obtain ⟨b1, b2, b3, b4, b5⟩ := E.nm
  exact ⟨blk_kept h.l hk (fun e => e.elim a1 b1), blk_kept h.s hk (fun e => e.elim a2 b2), blk_kept h.p hk (fun e => e.elim a3 b3), blk_kept h.e hk (fun e => e.elim a4 b4), blk_kept h.r hk (fun e => e.elim a5 b5)⟩
theorem impl_chosenRunners.Best.below {w0 W W' : World} {T gB gM : Nat} {vb : Value} {b : List Int} {m : Int} (h : impl_chosenRunners.Best w0 W T gB gM vb b m) (hb : Below W.heap.size W W') : impl_chosenRunners.Best w0 W' T gB gM vb b m :=
  ⟨blk_below h.c hb, Kd.R_below h.r hb, h.n, blk_below h.m hb⟩
/-- The leaf's stores: the value's new row into the box of the best, the value into the box of the least. -/
theorem impl_chosenRunners.Best.put {w0 W W' : World} {T gB gM : Nat} {vb v : Value} {b o : List Int} {m t : Int} (h : impl_chosenRunners.Best w0 W T gB gM vb b m) (hb : Below W.heap.size W W') (hr : Kd.R (Kd.int .i64) 3 W' W.heap.size (fun _ => True) v o) (hT : T ≤ W.heap.size) (h0 : w0.heap.size ≤ W.heap.size) (hn : gB ≠ gM) (hi : gB < T ∧ gM < T) (ho : o ≠ []) :
    impl_chosenRunners.Best w0 ((W'.setCell ⟨gB, 0, none⟩ v).setCell ⟨gM, 0, none⟩ (.int .i64 t)) T gB gM v o t := by
  have hc := blk_below h.c hb
  have hm := blk_below h.m hb
  have hr2 : Kd.R (Kd.int .i64) 3 W' w0.heap.size (fun k => T ≤ k) v o := Kd.R_mono (Kd.R_lower (Kd.R_bound hr) h0) (fun k hk => Nat.le_trans hT hk.2.1)
  refine ⟨?_, ?_, fun e => absurd e ho, ?_⟩
  · exact blk_far (one_setCell hc) (by simpa using hn) _
  · exact Kd.R_far (Kd.R_far hr2 (fun k hk e => by have : k = gB := e; omega) v) (fun k hk e => by have : k = gM := e; omega) _
  · exact one_setCell (blk_far hm (by simpa using Ne.symm hn) v)
set_option maxHeartbeats 8000000 in
set_option maxRecDepth 100000 in
theorem impl_chosenRunners.leaf (w0 : World) (AL : Option Addr) (ls : List Int) (cL : Nat) (AS : Option Addr) (ss : List Int) (cS : Nat) (sg pr : Int) (gL gB gS gM gP gE gR T : Nat) (E : impl_chosenRunners.Env w0 AL ls cL AS ss cS sg pr gL gB gS gM gP gE gR T)
    (o : List Int) (t : Int) (b : List Int) (m : Int) (Ao : Option Addr) (co : Nat) (vb : Value) (W : World) (hB : Below w0.heap.size w0 W) (hT : T ≤ W.heap.size) (hS : impl_chosenRunners.Stat W AL ls cL AS ss cS sg pr gL gB gS gM gP gE gR) (hb : impl_chosenRunners.Best w0 W T gB gM vb b m) (ho : Kd.C (Kd.int .i64) W Ao o.length o) (hco : o.length ≤ co) (hl : o.length = ls.length) (ht : 0 ≤ t ∧ t ≤ 1000000000000000000) (hu : b = [] ∨ sg * t < m) :
    Calls Try.prog 61 #[.slice Ao o.length co, .int .i64 t, .pointer (some ⟨gL, 0, none⟩), .pointer (some ⟨gB, 0, none⟩), .pointer (some ⟨gS, 0, none⟩), .pointer (some ⟨gM, 0, none⟩), .pointer (some ⟨gP, 0, none⟩), .pointer (some ⟨gE, 0, none⟩), .pointer (some ⟨gR, 0, none⟩)] W fun e w' => e = .returned (.tuple #[]) ∧ Below w0.heap.size w0 w' ∧ Kept W w' (impl_chosenRunners.two gB gM) ∧ ∃ vb', impl_chosenRunners.Best w0 w' T gB gM vb' o (sg * t) := by
  have q_ : ∀ (w : World) (a : Option Addr) (n c n' c' : Nat), (binOp .eql 22 (.slice a n c) (.slice none n' c')).run Try.prog w = .ok (.bool a.isNone) w := fun w a n c n' c' => Lib.run_eql_slice_nil w _ _ a n c n' c' Try.underlying22
  obtain ⟨Ab, cb, rfl⟩ := Kd.R_slice hb.r
  have hlen : ((o.length : Int) == (ls.length : Int)) = true := by simp [hl]
  have hmul : IntKind.i64.wrap (sg * t) = sg * t := by rcases E.sg with h | h <;> rw [h] <;> exact IntWalk.i64_in _ (by omega)
  have x1 := cell_of_one hS.l
  have x2 := cell_of_one hb.c
  have x3 := cell_of_one hS.s
  have x4 := cell_of_one hb.m
  obtain ⟨m2, hm2⟩ : ∃ m2, sg * t = m2 := ⟨_, rfl⟩
  rw [hm2] at hu
  replace hmul := hmul.trans hm2
  rw [hm2]
  have HE := Aside0.mk E
  have HB := Aside0.mk hB
  have HT := Aside0.mk hT
  have HS := Aside0.mk hS
  have HBB := Aside0.mk hb
  have HO := Aside0.mk ho
  have HCO := Aside0.mk hco
  have HU := Aside0.mk hu
  have HL := Aside0.mk hl
  clear E hB hT hS hb ho hco hu hl ht hm2
  by_cases hn : Ab.isNone = true
  · have hn2 := hn
    go_enter Try.func61, Try.ntmps61
    go_upto_region 2 with (fail)
    have hclf : slices_Clone_int_int.f o = some o := by simp [slices_Clone_int_int.f]; have := HE.out.six; have := HL.out; omega
    have HCF := Aside0.mk hclf
    clear hclf hn
    have f2 := free_of_one HBB.out.c
    have f4 := free_of_one HBB.out.m
    have hne := HE.out.bm
    have hne2 := Ne.symm hne
    have hgb := HE.out.nb.2.1
    have hgm := HE.out.nm.2.1
    go_region_held3 (fun w' => w'.cell? ⟨gS, 0, none⟩ = some (.int .i64 sg)) (first | exact cell_of_one ((hb8.block _ (blk_lt HS.out.s)).trans HS.out.s) | ((repeat (first | rw [World.cell?_setCell_far _ ⟨gB, 0, none⟩ ⟨gS, 0, none⟩ _ (Ne.symm hgb)] | rw [World.cell?_setCell_far _ ⟨gM, 0, none⟩ ⟨gS, 0, none⟩ _ (Ne.symm hgm)])); exact cell_of_one ((hb8.block _ (blk_lt HS.out.s)).trans HS.out.s)) | go_keep) (first | (go_at_call 62; (with_reducible refine (slices_Clone_int_int.calls Ao co o o _ ?side1 ?side2 HCF.out).mono ?_); (case side1 => exact HO.out); (case side2 => exact HCO.out); rintro e w8 ⟨v8, rfl, ho8, hb8⟩; obtain ⟨A8, c8, rfl⟩ := Kd.R_slice ho8; have hc8 := (hb8.block _ (blk_lt HBB.out.c)).trans HBB.out.c; have hm8 := (hb8.block _ (blk_lt HBB.out.m)).trans HBB.out.m; have y2 := cell_of_one hc8; have y4 := cell_of_one hm8; have z2 := free_of_one hc8; have z4 := free_of_one hm8))
    go_wp2
    first | go_end0 | ((try simp only [Exit.inBlock, Exit.then]); refine bodyPost_ret (results_none rfl _ _ _) rfl ?_)
    have hb9 : Below W.heap.size W w8 := ⟨hb8.os, hb8.tape, hb8.output, hb8.size, hb8.block⟩
    exact ⟨rfl, below_set (below_set (below_step HB.out hb9) HE.out.lo.1) HE.out.lo.2, ((Kept.of_below hb9 _).setCell (.inl (.inl rfl)) _).setCell (.inl (.inr rfl)) _, _, HBB.out.put hb9 ho8 HT.out HB.out.size HE.out.bm HE.out.hi (fun e => by have h1 := HL.out; have h2 := HE.out.one; rw [e] at h1; simp at h1; omega)⟩
  · have hn2 : Ab.isNone = false := Bool.eq_false_iff.2 hn
    have hlt : decide (m2 < m) = true := by
      rcases HU.out with h | h
      · have := HBB.out.n h
        injection this with h1
        rw [h1] at hn2
        cases hn2
      · exact decide_eq_true h
    go_enter Try.func61, Try.ntmps61
    go_upto_region 2 with (fail)
    have hclf : slices_Clone_int_int.f o = some o := by simp [slices_Clone_int_int.f]; have := HE.out.six; have := HL.out; omega
    have HCF := Aside0.mk hclf
    clear hclf hn
    have f2 := free_of_one HBB.out.c
    have f4 := free_of_one HBB.out.m
    have hne := HE.out.bm
    have hne2 := Ne.symm hne
    have hgb := HE.out.nb.2.1
    have hgm := HE.out.nm.2.1
    go_region_held3 (fun w' => w'.cell? ⟨gS, 0, none⟩ = some (.int .i64 sg)) (first | exact cell_of_one ((hb8.block _ (blk_lt HS.out.s)).trans HS.out.s) | ((repeat (first | rw [World.cell?_setCell_far _ ⟨gB, 0, none⟩ ⟨gS, 0, none⟩ _ (Ne.symm hgb)] | rw [World.cell?_setCell_far _ ⟨gM, 0, none⟩ ⟨gS, 0, none⟩ _ (Ne.symm hgm)])); exact cell_of_one ((hb8.block _ (blk_lt HS.out.s)).trans HS.out.s)) | go_keep) (first | (go_at_call 62; (with_reducible refine (slices_Clone_int_int.calls Ao co o o _ ?side1 ?side2 HCF.out).mono ?_); (case side1 => exact HO.out); (case side2 => exact HCO.out); rintro e w8 ⟨v8, rfl, ho8, hb8⟩; obtain ⟨A8, c8, rfl⟩ := Kd.R_slice ho8; have hc8 := (hb8.block _ (blk_lt HBB.out.c)).trans HBB.out.c; have hm8 := (hb8.block _ (blk_lt HBB.out.m)).trans HBB.out.m; have y2 := cell_of_one hc8; have y4 := cell_of_one hm8; have z2 := free_of_one hc8; have z4 := free_of_one hm8))
    go_wp2
    first | go_end0 | ((try simp only [Exit.inBlock, Exit.then]); refine bodyPost_ret (results_none rfl _ _ _) rfl ?_)
    have hb9 : Below W.heap.size W w8 := ⟨hb8.os, hb8.tape, hb8.output, hb8.size, hb8.block⟩
    exact ⟨rfl, below_set (below_set (below_step HB.out hb9) HE.out.lo.1) HE.out.lo.2, ((Kept.of_below hb9 _).setCell (.inl (.inl rfl)) _).setCell (.inl (.inr rfl)) _, _, HBB.out.put hb9 ho8 HT.out HB.out.size HE.out.bm HE.out.hi (fun e => by have h1 := HL.out; have h2 := HE.out.one; rw [e] at h1; simp at h1; omega)⟩
set_option maxHeartbeats 8000000 in
set_option maxRecDepth 100000 in
theorem impl_chosenRunners.leaf2 (w0 : World) (AL : Option Addr) (ls : List Int) (cL : Nat) (AS : Option Addr) (ss : List Int) (cS : Nat) (sg pr : Int) (gL gB gS gM gP gE gR T : Nat) (E : impl_chosenRunners.Env w0 AL ls cL AS ss cS sg pr gL gB gS gM gP gE gR T)
    (o : List Int) (t : Int) (b : List Int) (m : Int) (Ao : Option Addr) (co : Nat) (vb : Value) (W : World) (hB : Below w0.heap.size w0 W) (hT : T ≤ W.heap.size) (hS : impl_chosenRunners.Stat W AL ls cL AS ss cS sg pr gL gB gS gM gP gE gR) (hb : impl_chosenRunners.Best w0 W T gB gM vb b m) (ho : Kd.C (Kd.int .i64) W Ao o.length o) (hco : o.length ≤ co) (hl : o.length = ls.length) (ht : 0 ≤ t ∧ t ≤ 1000000000000000000) (hu : ¬ (b = [] ∨ sg * t < m)) :
    Calls Try.prog 61 #[.slice Ao o.length co, .int .i64 t, .pointer (some ⟨gL, 0, none⟩), .pointer (some ⟨gB, 0, none⟩), .pointer (some ⟨gS, 0, none⟩), .pointer (some ⟨gM, 0, none⟩), .pointer (some ⟨gP, 0, none⟩), .pointer (some ⟨gE, 0, none⟩), .pointer (some ⟨gR, 0, none⟩)] W fun e w' => e = .returned (.tuple #[]) ∧ w' = W := by
  have q_ : ∀ (w : World) (a : Option Addr) (n c n' c' : Nat), (binOp .eql 22 (.slice a n c) (.slice none n' c')).run Try.prog w = .ok (.bool a.isNone) w := fun w a n c n' c' => Lib.run_eql_slice_nil w _ _ a n c n' c' Try.underlying22
  obtain ⟨Ab, cb, rfl⟩ := Kd.R_slice hb.r
  have hlen : ((o.length : Int) == (ls.length : Int)) = true := by simp [hl]
  have hmul : IntKind.i64.wrap (sg * t) = sg * t := by rcases E.sg with h | h <;> rw [h] <;> exact IntWalk.i64_in _ (by omega)
  have x1 := cell_of_one hS.l
  have x2 := cell_of_one hb.c
  have x3 := cell_of_one hS.s
  have x4 := cell_of_one hb.m
  obtain ⟨m2, hm2⟩ : ∃ m2, sg * t = m2 := ⟨_, rfl⟩
  rw [hm2] at hu
  replace hmul := hmul.trans hm2
  have HE := Aside0.mk E
  have HB := Aside0.mk hB
  have HT := Aside0.mk hT
  have HS := Aside0.mk hS
  have HBB := Aside0.mk hb
  have HO := Aside0.mk ho
  have HCO := Aside0.mk hco
  have HU := Aside0.mk hu
  have HL := Aside0.mk hl
  clear E hB hT hS hb ho hco hu hl ht hm2
  have hn2 : Ab.isNone = false := by
    cases Ab with
    | some a => rfl
    | none =>
      refine absurd (Or.inl ?_) HU.out
      have h1 := (Kd.R_reads' HBB.out.r).2.2
      obtain ⟨_, _, h3⟩ := h1
      cases b with
      | nil => rfl
      | cons x l => obtain ⟨_, h4, _⟩ := h3 (by simp); cases h4
  have hlt : decide (m2 < m) = false := decide_eq_false (fun h => HU.out (.inr h))
  go_enter Try.func61, Try.ntmps61
  go_wp2
  first | go_end0 | ((try simp only [Exit.inBlock, Exit.then]); refine bodyPost_ret (results_none rfl _ _ _) rfl ?_)
  exact ⟨rfl, rfl⟩
theorem impl_chosenRunners.one_C {W : World} {g : Nat} {i : Int} (h : W.heap[g]? = some (.cells #[.int .i64 i] 3 (0, 0))) : Kd.C (Kd.int .i64) W (some ⟨g, 0, none⟩) [i].length [i] := by
  refine Kd.C_of_reads (d := (0 : Int)) ⟨rfl, by simp, fun _ => ⟨_, rfl, fun j hj => ?_⟩⟩
  have hj0 : j = 0 := by simp at hj; omega
  subst hj0
  exact cell_of_one h
theorem impl_chosenRunners.cell_again {W : World} {ad : Addr} {n : Nat} {ls : List Int} (h : Kd.C (Kd.int .i64) W (some ad) n ls) {j : Nat} (hj : j < n) : W.cell? (ad.add j) = some (.int .i64 (rd ls (j : Int))) := by
  obtain ⟨ad', e', hx⟩ := Kd.at_int h (j : Int) (by omega) (by omega)
  injection e' with e'
  subst e'
  simpa using hx
set_option maxHeartbeats 16000000 in
set_option maxRecDepth 100000 in
theorem impl_chosenRunners.clo_calls (w0 : World) (AL : Option Addr) (ls : List Int) (cL : Nat) (AS : Option Addr) (ss : List Int) (cS : Nat) (sg pr : Int) (gL gB gS gM gP gE gR T : Nat) (E : impl_chosenRunners.Env w0 AL ls cL AS ss cS sg pr gL gB gS gM gP gE gR T) :
    ∀ (k : Nat) (o : List Int) (t : Int) (b : List Int) (m : Int) (b' : List Int) (m' : Int) (Ao : Option Addr) (co : Nat) (vb : Value) (W : World), Below w0.heap.size w0 W → T ≤ W.heap.size → impl_chosenRunners.Stat W AL ls cL AS ss cS sg pr gL gB gS gM gP gE gR → impl_chosenRunners.Best w0 W T gB gM vb b m → (∀ W', Kept W W' (impl_chosenRunners.two gB gM) → Kd.C (Kd.int .i64) W' Ao o.length o) → o.length ≤ co → impl_chosenRunners.ext ls ss sg pr k o t b m = some (b', m') →
    Calls Try.prog 61 #[.slice Ao o.length co, .int .i64 t, .pointer (some ⟨gL, 0, none⟩), .pointer (some ⟨gB, 0, none⟩), .pointer (some ⟨gS, 0, none⟩), .pointer (some ⟨gM, 0, none⟩), .pointer (some ⟨gP, 0, none⟩), .pointer (some ⟨gE, 0, none⟩), .pointer (some ⟨gR, 0, none⟩)] W fun e w' => e = .returned (.tuple #[]) ∧ Below w0.heap.size w0 w' ∧ Kept W w' (impl_chosenRunners.two gB gM) ∧ ∃ vb', impl_chosenRunners.Best w0 w' T gB gM vb' b' m' := by
  intro k
  induction k using Nat.strongRecOn with
  | ind k ih =>
    intro o t b m b' m' Ao co vb W hB hT hS hb ho hco h
    cases k with
    | zero => simp [impl_chosenRunners.ext] at h
    | succ k1 =>
      simp only [impl_chosenRunners.ext] at h
      by_cases ht : 0 ≤ t ∧ t ≤ 1000000000000000000
      · rw [if_pos ht] at h
        by_cases hl : o.length = ls.length
        · rw [if_pos hl] at h
          by_cases hu : b = [] ∨ sg * t < m
          · rw [if_pos hu] at h
            have h1 := Option.some.inj h
            obtain ⟨rfl, rfl⟩ := Prod.mk.inj h1
            exact impl_chosenRunners.leaf w0 AL ls cL AS ss cS sg pr gL gB gS gM gP gE gR T E o t b m Ao co vb W hB hT hS hb (ho W (Kept.refl _ _)) hco hl ht hu
          · rw [if_neg hu] at h
            have h1 := Option.some.inj h
            obtain ⟨rfl, rfl⟩ := Prod.mk.inj h1
            refine (impl_chosenRunners.leaf2 w0 AL ls cL AS ss cS sg pr gL gB gS gM gP gE gR T E o t b m Ao co vb W hB hT hS hb (ho W (Kept.refl _ _)) hco hl ht hu).mono ?_
            rintro e w' ⟨rfl, rfl⟩
            exact ⟨rfl, hB, Kept.refl _ _, vb, hb⟩
        · rw [if_neg hl] at h
          have H' := Aside0.mk h
          have hlen : ((o.length : Int) == (ls.length : Int)) = false := by
            rw [beq_eq_false_iff_ne]
            omega
          have x1 := cell_of_one hS.l
          have x2 := cell_of_one hS.p
          have HE := Aside0.mk E
          have HB := Aside0.mk hB
          have HT := Aside0.mk hT
          have HS := Aside0.mk hS
          have HBB := Aside0.mk hb
          have HO := Aside0.mk ho
          have HCO := Aside0.mk hco
          have HTT := Aside0.mk ht
          have IH := Aside0.mk ih
          clear E hB hT hS hb ho hco ht hl h ih
          go_enter Try.func61, Try.ntmps61
          go_wp2
          go_loopg [34] k1 (fun kq v34 w' => ∃ (i : Int) (b1 : List Int) (m1 : Int) (vb1 : Value), v34 = .int .i64 i ∧ Aside0 (impl_chosenRunners.lp ls ss sg pr kq o t i b1 m1 = some (b', m')) ∧ Aside0 (kq ≤ k1) ∧ Aside0 (impl_chosenRunners.Best w0 w' T gB gM vb1 b1 m1) ∧ Aside0 (Below w0.heap.size w0 w') ∧ Aside0 (Kept W w' (impl_chosenRunners.two gB gM)))
          case atStart => exact ⟨0, b, m, vb, rfl, H', ⟨Nat.le_refl _⟩, HBB, HB, ⟨Kept.refl _ _⟩⟩
          case round =>
            clear H' x1 x2 HBB HB
            obtain ⟨i, b1, m1, vb1, rfl, HA, HK1, HBB, HB, HK⟩ := hrel
            cases gk with
            | zero => exact absurd HA.out (by simp [impl_chosenRunners.lp])
            | succ k2 =>
              have H := HA.out
              clear HA
              simp only [impl_chosenRunners.lp] at H
              by_cases c1 : i < (ss.length : Int)
              · rw [if_pos c1] at H
                have c1b : decide (i < (ss.length : Int)) = true := decide_eq_true c1
                by_cases c2 : o.length < ls.length ∧ 0 ≤ i
                · rw [if_pos c2] at H
                  obtain ⟨c, A7, H⟩ := Option.bind_eq_some_iff.mp H
                  replace A7 := Aside0.mk A7
                  have hw : IntKind.i64.wrap (i + 1) = i + 1 := IntWalk.i64_in _ (by have := HE.out.six; have := HE.out.len; omega)
                  obtain ⟨ad, e1, hx⟩ := Kd.at_int (Kd.C_below HE.out.cs HB.out) i c2.2 c1
                  subst e1
                  have p1 := eq_true c2.2
                  have q1 := eq_true c1
                  cases c with
                  | true =>
                    rw [if_pos rfl] at H
                    replace H := Aside0.mk H
                    clear c1 c2
                    go_wp2_with (first | (go_at_call 63; (with_reducible refine (slices_Contains_int_int.calls k2 Ao co o i true _ ?side1 ?side2 A7.out).mono ?_); (case side1 => exact HO.out _ HK.out); (case side2 => exact HCO.out); rintro e w8 ⟨rfl, ⟨nd, rfl⟩⟩))
                    go_roundg k2
                    case measure => have := HK1.out; omega
                    case rel => exact ⟨i + 1, b1, m1, vb1, by first | rfl | (simp; done) | (simp [*]; done), H, ⟨by have := HK1.out; omega⟩, ⟨HBB.out.below (pw_below_drewN (Below.refl _ _) _)⟩, ⟨pw_below_drewN HB.out _⟩, ⟨Kept.drewN HK.out _⟩⟩
                  | false =>
                    rw [if_neg (by simp)] at H
                    obtain ⟨⟨b2, m2⟩, A8, H⟩ := Option.bind_eq_some_iff.mp H
                    replace A8 := Aside0.mk A8
                    replace H := Aside0.mk H
                    have HST := Aside0.mk (impl_chosenRunners.Stat.kept HS.out HE.out HK.out)
                    obtain ⟨adL, eL, hxL⟩ := Kd.at_int (Kd.C_below HE.out.cl HB.out) (o.length : Int) (by omega) (by omega)
                    subst eL
                    rw [Int.toNat_natCast] at hxL
                    have p2 : ((0 : Int) ≤ (o.length : Int)) = True := eq_true (by omega)
                    have q2 : ((o.length : Int) < (ls.length : Int)) = True := eq_true (by omega)
                    have y1 := cell_of_one HST.out.e
                    have y2 := cell_of_one HST.out.l
                    have y3 := cell_of_one HST.out.r
                    have HCF := Aside0.mk (show slices_Clone_int_int.f o = some o by simp [slices_Clone_int_int.f]; have := HE.out.six; omega)
                    have HCL := Aside0.mk c2.1
                    have bs := HE.out.bs i c2.2 c1
                    have bl := HE.out.bl (o.length : Int) (by omega) (by omega)
                    have hz : (rd ss i == 0) = false := by rw [beq_eq_false_iff_ne]; omega
                    have hz2 : decide (rd ss i = 0) = false := decide_eq_false (by omega)
                    have hz3 : (rd ss i = 0) = False := eq_false (by omega)
                    have hz4 : 1 ≤ rd ss i := bs.1
                    have hz5 : 0 ≤ pr := HE.out.p0
                    obtain ⟨q, hq⟩ : ∃ q, pr / rd ss i = q := ⟨_, rfl⟩
                    obtain ⟨u, hu⟩ : ∃ u, rd ls o.length * q = u := ⟨_, rfl⟩
                    have hq0 : 0 ≤ q ∧ q ≤ 1000000000000 := by
                      rw [← hq]
                      have h0 := HE.out.p0
                      have h1 := HE.out.p1
                      exact ⟨Int.ediv_nonneg h0 (by omega), Int.le_trans (Int.ediv_le_self _ h0) h1⟩
                    have hu0 : 0 ≤ u ∧ u ≤ 1000000000000000 := by
                      rw [← hu]
                      exact ⟨Int.mul_nonneg (by omega) hq0.1, Int.le_trans (Int.mul_le_mul bl.2 hq0.2 hq0.1 (by omega)) (by omega)⟩
                    have w1 : IntKind.i64.wrap (pr.tdiv (rd ss i)) = q := by rw [Int.tdiv_eq_ediv_of_nonneg HE.out.p0, hq]; exact IntWalk.i64_in _ (by omega)
                    have w1' : IntKind.i64.wrap (pr / rd ss i) = q := by rw [hq]; exact IntWalk.i64_in _ (by omega)
                    have w2 : IntKind.i64.wrap (rd ls o.length * q) = u := by rw [hu]; exact IntWalk.i64_in _ (by omega)
                    have w3 : IntKind.i64.wrap (t + u) = t + u := IntWalk.i64_in _ (by have := HTT.out; omega)
                    rw [hq, hu] at A8
                    clear c1 c2 bs bl hq hu hq0 hu0
                    go_upto_region 7 with (first | (go_at_call 63; (with_reducible refine (slices_Contains_int_int.calls k2 Ao co o i false _ ?side1 ?side2 A7.out).mono ?_); (case side1 => exact HO.out _ HK.out); (case side2 => exact HCO.out); rintro e w8 ⟨rfl, ⟨nd, rfl⟩⟩))
                    go_region_held3 (fun w' => w'.cell? ⟨gE, 0, none⟩ = some (.func (.func 61) #[] #[.pointer (some ⟨gL, 0, none⟩), .pointer (some ⟨gB, 0, none⟩), .pointer (some ⟨gS, 0, none⟩), .pointer (some ⟨gM, 0, none⟩), .pointer (some ⟨gP, 0, none⟩), .pointer (some ⟨gE, 0, none⟩), .pointer (some ⟨gR, 0, none⟩)]) ∧ w'.cell? ⟨gL, 0, none⟩ = some (.slice (some adL) ls.length cL) ∧ w'.cell? (adL.add o.length) = some (.int .i64 (rd ls o.length)) ∧ w'.cell? ⟨gR, 0, none⟩ = some (.int .i64 pr)) (first | exact HF.out | exact ⟨pw_cell_below (by repeat (first | exact HQ9.out | exact HQ8.out | exact Below.refl _ _ | apply below_alloc | apply pw_below_drewN | apply below_drew1)) y1, pw_cell_below (by repeat (first | exact HQ9.out | exact HQ8.out | exact Below.refl _ _ | apply below_alloc | apply pw_below_drewN | apply below_drew1)) y2, pw_cell_below (by repeat (first | exact HQ9.out | exact HQ8.out | exact Below.refl _ _ | apply below_alloc | apply pw_below_drewN | apply below_drew1)) hxL, pw_cell_below (by repeat (first | exact HQ9.out | exact HQ8.out | exact Below.refl _ _ | apply below_alloc | apply pw_below_drewN | apply below_drew1)) y3⟩) (first | (go_at_call 62; (with_reducible refine (slices_Clone_int_int.calls Ao co o o _ ?side1 ?side2 HCF.out).mono ?_); (case side1 => exact HO.out _ (by repeat (first | exact HK.out | apply Kept.alloc | apply Kept.drewN | apply Kept.drew))); (case side2 => exact HCO.out); rintro e w8 ⟨v8, rfl, ho8, hb8⟩; obtain ⟨A8_, c8, rfl⟩ := Kd.R_slice ho8; have HR8 := Aside0.mk (show Kd.R (Kd.int .i64) 3 w8 wr.heap.size (fun _ => True) (.slice A8_ o.length c8) o from Kd.R_lower ho8 (below_size (w := wr) (by repeat (first | exact Below.refl _ _ | apply below_alloc | apply pw_below_drewN | apply below_drew1)))); have HQ8 := Aside0.mk (below_step (w := wr) (by repeat (first | exact Below.refl _ _ | apply below_alloc | apply pw_below_drewN | apply below_drew1)) hb8); have HB8 := Aside0.mk hb8; clear ho8 hb8) | (refine Kd.R_append_rows_step (Kd.int .i64) (w0 := wr) wr.heap.size (by rfl) (.tmp 45) (.tmp 47) 22 3 (.int .i64 0) 8 rfl Try.underlying22 info3 rfl (by decide) (by omega) (.slice A8_ o.length c8) o [i] _ _ _ (fun _ => True) (fun _ => False) rfl rfl ?aO ?aR (fun _ _ h => h) (fun _ h => h.elim) ?aF ?aB ?aS ?aL ?_; (case aO => (with_reducible repeat (first | apply Kd.R_alloc | apply Kd.R_drewN | apply Kd.R_drew)); exact HR8.out); (case aR => first | exact impl_chosenRunners.one_C (heap_alloc_new _ _) | exact impl_chosenRunners.one_C ((HB8.out.block _ (by simp)).trans (heap_alloc_new _ _))); (case aF => exact fun _ _ => trivial); (case aB => exact (by repeat (first | exact HQ8.out | exact Below.refl _ _ | apply below_alloc | apply pw_below_drewN | apply below_drew1))); (case aS => exact below_size (w := wr) (by repeat (first | exact HQ8.out | exact Below.refl _ _ | apply below_alloc | apply pw_below_drewN | apply below_drew1))); (case aL => have := HE.out.six; have := HCL.out; omega); intro v9 w9 ho9 hb9 hg9 hat9; obtain ⟨A9_, c9, rfl⟩ := Kd.R_slice ho9; have HR9 := Aside0.mk ho9; have HQ9 := Aside0.mk hb9; clear ho9 hb9 hg9 hat9) | (refine calls_of_args (args' := #[.slice A9_ (o ++ [i]).length c9, .int .i64 (t + u), .pointer (some ⟨gL, 0, none⟩), .pointer (some ⟨gB, 0, none⟩), .pointer (some ⟨gS, 0, none⟩), .pointer (some ⟨gM, 0, none⟩), .pointer (some ⟨gP, 0, none⟩), .pointer (some ⟨gE, 0, none⟩), .pointer (some ⟨gR, 0, none⟩)]) (by simp) ?_; (with_reducible refine (IH.out k2 ?s0 (o ++ [i]) (t + u) b1 m1 b2 m2 A9_ c9 vb1 _ ?s1 ?s2 ?s3 ?s4 ?s5 ?s6 A8.out).mono ?_); (case s0 => have := HK1.out; omega); (case s1 => exact below_step HB.out HQ9.out); (case s2 => have h1 := HT.out; have h2 := HK.out.1; have h3 := HQ9.out.size; omega); (case s3 => exact impl_chosenRunners.Stat.kept HST.out HE.out (Kept.of_below HQ9.out _)); (case s4 => exact HBB.out.below HQ9.out); (case s5 => exact Kd.C_kept_own (Kd.R_bound HR9.out) (fun k_ h_ => by have h1 := HT.out; have h2 := HK.out.1; have h3 := HE.out.hi; have h4 := h_.2.1; rintro (e_ | e_) <;> omega)); (case s6 => exact (Kd.R_reads' HR9.out).2.1); rintro e w10 ⟨rfl, hb10, hk10, vb2, hbb10⟩; have hst10 := impl_chosenRunners.Stat.kept (impl_chosenRunners.Stat.kept HST.out HE.out (Kept.of_below HQ9.out _)) HE.out hk10; have HF := Aside0.mk (And.intro (cell_of_one hst10.e) (And.intro (cell_of_one hst10.l) (And.intro (impl_chosenRunners.cell_again (Kd.C_below HE.out.cl hb10) HCL.out) (cell_of_one hst10.r)))); have HB10 := Aside0.mk hb10; have HK10 := Aside0.mk (Kept.then_ (Kept.below HK.out HQ9.out) hk10 (fun k_ h_ => .inl h_)); have HBB10 := Aside0.mk hbb10; clear hb10 hk10 hbb10 hst10))
                    all_goals
                      go_wp2
                      go_roundg k2
                      case measure => have := HK1.out; omega
                      case rel => exact ⟨i + 1, b2, m2, vb2, by first | rfl | (simp; done) | (simp [*]; done), H, ⟨by have := HK1.out; omega⟩, HBB10, HB10, HK10⟩
                · rw [if_neg c2] at H
                  cases H
              · rw [if_neg c1] at H
                have c1b : decide (i < (ss.length : Int)) = false := decide_eq_false c1
                have h1 := Option.some.inj H
                obtain ⟨rfl, rfl⟩ := Prod.mk.inj h1
                clear c1 H h1
                go_wp2
                first | go_end0 | ((try simp only [Exit.inBlock, Exit.then]); refine bodyPost_ret (results_none rfl _ _ _) rfl ?_)
                exact ⟨rfl, HB.out, HK.out, vb1, HBB.out⟩
      · rw [if_neg ht] at h
        cases h
theorem impl_chosenRunners.goesC_ {P : Program} {ops : Array Oper} {Q : Exit → Act → World → Prop} {rest : List Oper} {oi : Oper} {a : Act} {w : World} (t : Tmp) (N : Option Tmp) (hd : oi.dst = N) (hg : oi.guard = none) {f : FuncId} {fn : Func} {ops2 : Array Operand} {ts : Array TypeId} {cb : Array Value} (hf : P.funcs[f]? = some fn) (hname : (fn.name == "runtime.NumGoroutine") = false) (hb : fn.body.isSome = true)
    (hop : oi.op = .call { callee := .value (.tmp t), args := ops2, argTypes := ts }) (hcal : a.eval (.tmp t) = .func (.func f) #[] cb) (args : Array Value) (hargs : ops2.map a.eval = args)
    (h : Calls P f (args ++ cb) w fun e w' => ∃ v, e = .returned v ∧ wpList P ops Q rest (a.put N v) w') : wpList P ops Q (oi :: rest) a w := by
  refine wpList_plain hg fun K hK => ?_
  have he := enters_ hf hname hb (args ++ cb) w
  have hrun : (execOp a.eval oi).run P w = .ok (.enter f (args ++ cb)) w := by
    unfold execOp
    simp [hop, hcal, resolve, Deferred.ofValue, invoke, hargs, he]
  unfold Oper.wp
  rw [hrun, Oper.upon_enter]
  refine h.mono fun e w'' hh => ?_
  obtain ⟨v, rfl, hk⟩ := hh
  subst hd
  exact hK _ _ hk
/-- All speeds, multiplied. -/
def impl_chosenRunners.prod (l : List Int) : Int := l.foldl (fun x y => x * y) 1
theorem impl_chosenRunners.prod_snoc (l : List Int) (x : Int) : impl_chosenRunners.prod (l ++ [x]) = impl_chosenRunners.prod l * x := by simp [impl_chosenRunners.prod]
def impl_chosenRunners.good (l0 l1 : List Int) (a2 : Int) : Prop := (∀ i : Int, 0 ≤ i → i < l0.length → 1 ≤ rd l0 i ∧ rd l0 i ≤ 1000) ∧ (∀ i : Int, 0 ≤ i → i < l1.length → 1 ≤ rd l1 i ∧ rd l1 i ≤ 100) ∧ 1 ≤ l0.length ∧ l0.length ≤ 6 ∧ l1.length = l0.length ∧ (a2 = 1 ∨ a2 = -1)
def impl_chosenRunners.goodB (l0 l1 : List Int) (a2 : Int) : Bool := l0.all (fun x => decide (1 ≤ x ∧ x ≤ 1000)) && l1.all (fun x => decide (1 ≤ x ∧ x ≤ 100)) && decide (1 ≤ l0.length ∧ l0.length ≤ 6 ∧ l1.length = l0.length ∧ (a2 = 1 ∨ a2 = -1))
theorem impl_chosenRunners.rd_mem (l : List Int) (i : Int) (h0 : 0 ≤ i) (h1 : i < l.length) : rd l i ∈ l := by
  have hl : i.toNat < l.length := by omega
  rw [rd, List.getD_eq_getElem?_getD, List.getElem?_eq_getElem hl]
  exact List.getElem_mem hl
theorem impl_chosenRunners.good_of {l0 l1 : List Int} {a2 : Int} (h : impl_chosenRunners.goodB l0 l1 a2 = true) : impl_chosenRunners.good l0 l1 a2 := by
  unfold impl_chosenRunners.goodB at h
  rw [Bool.and_eq_true, Bool.and_eq_true] at h
  obtain ⟨⟨h1, h2⟩, h3⟩ := h
  exact ⟨fun i a b => of_decide_eq_true (List.all_eq_true.1 h1 _ (impl_chosenRunners.rd_mem l0 i a b)), fun i a b => of_decide_eq_true (List.all_eq_true.1 h2 _ (impl_chosenRunners.rd_mem l1 i a b)), of_decide_eq_true h3⟩
def impl_chosenRunners.f (k : Nat) (l0 l1 : List Int) (a2 : Int) : Option (List Int × Bool) :=
  (impl_within.f (l0.length : Int) 1 6).bind fun t1 => if t1 = true then (impl_allWithin.f k l0 1 1000).bind fun t2 => if t2 = true then (if (l1.length : Int) = (l0.length : Int) then (impl_allWithin.f k l1 1 100).bind fun t3 => if t3 = true then (if impl_chosenRunners.goodB l0 l1 a2 = true then (impl_chosenRunners.ext l0 l1 a2 (impl_chosenRunners.prod l1) k [] 0 [] 0).bind fun r => some (r.1, true) else none) else some ([], false) else some ([], false)) else some ([], false) else some ([], false)
theorem impl_chosenRunners.prod_take (l : List Int) (h : ∀ i : Int, 0 ≤ i → i < l.length → 1 ≤ rd l i ∧ rd l i ≤ 100) (h6 : l.length ≤ 6) : ∀ n : Nat, n ≤ l.length → 1 ≤ impl_chosenRunners.prod (l.take n) ∧ impl_chosenRunners.prod (l.take n) ≤ 100 ^ n := by
  intro n
  induction n with
  | zero => intro _; simp [impl_chosenRunners.prod]
  | succ n ih =>
    intro hn
    obtain ⟨a, b⟩ := ih (by omega)
    have e : l.take (n + 1) = l.take n ++ [rd l (n : Int)] := by
      rw [List.take_succ_eq_append_getElem (by omega), rd, Int.toNat_natCast, List.getD_eq_getElem?_getD, List.getElem?_eq_getElem (by omega)]
      rfl
    obtain ⟨c, d⟩ := h (n : Int) (by omega) (by omega)
    rw [e, impl_chosenRunners.prod_snoc, Int.pow_succ]
    exact ⟨by have := Int.mul_le_mul a c (by omega) (by omega); omega, Int.mul_le_mul b d (by omega) (by omega)⟩
theorem impl_chosenRunners.pow6 : ∀ n : Nat, n ≤ 6 → (100 : Int) ^ n ≤ 1000000000000 := by
  intro n h
  match n, h with
  | 0, _ => decide
  | 1, _ => decide
  | 2, _ => decide
  | 3, _ => decide
  | 4, _ => decide
  | 5, _ => decide
  | 6, _ => decide
set_option maxHeartbeats 16000000 in
set_option maxRecDepth 100000 in
theorem impl_chosenRunners.calls (k : Nat) (A0 : Option Addr) (c0 : Nat) (l0 : List Int) (A1 : Option Addr) (c1 : Nat) (l1 : List Int) (a2 : Int) (r1 : List Int) (r2 : Bool) (w : World) (hr0 : Kd.C (Kd.int .i64) w A0 l0.length l0) (hc0 : l0.length ≤ c0) (hr1 : Kd.C (Kd.int .i64) w A1 l1.length l1) (hc1 : l1.length ≤ c1) (h : impl_chosenRunners.f k l0 l1 a2 = some (r1, r2)) :
    Calls Try.prog 36 #[.slice A0 l0.length c0, .slice A1 l1.length c1, .int .i64 a2] w fun e w' => ∃ v0_ : Value, e = .returned (.tuple #[v0_, .bool r2]) ∧ Kd.R (Kd.int .i64) 3 w' w.heap.size (fun _ => True) v0_ r1 ∧ Below w.heap.size w w' := by
  have HR0 := Aside0.mk hr0
  have HC0 := Aside0.mk hc0
  have HR1 := Aside0.mk hr1
  have HC1 := Aside0.mk hc1
  clear hr0 hc0 hr1 hc1
  unfold impl_chosenRunners.f at h
  obtain ⟨t1, F1, h⟩ := Option.bind_eq_some_iff.mp h
  replace F1 := Aside0.mk F1
  cases t1 with
  | false =>
    rw [if_neg (by simp)] at h
    obtain ⟨rfl, rfl⟩ := Prod.mk.inj (Option.some.inj h)
    go_enter Try.func36, Try.ntmps36
    go_wp2_with (first | (go_at_call 59; (with_reducible refine (impl_within.calls _ _ _ false _ F1.out).mono ?_); rintro e w' ⟨rfl, ⟨nd, rfl⟩⟩))
    go_ret2
    exact ⟨.slice none 0 0, by first | rfl | (simp; done) | (simp [*]; done), Kd.R_nil _ _ _ _ _, by repeat (first | exact Below.refl _ _ | apply below_alloc | apply pw_below_drewN | apply below_drew1)⟩
  | true =>
    rw [if_pos rfl] at h
    obtain ⟨t2, F2, h⟩ := Option.bind_eq_some_iff.mp h
    replace F2 := Aside0.mk F2
    cases t2 with
    | false =>
      rw [if_neg (by simp)] at h
      obtain ⟨rfl, rfl⟩ := Prod.mk.inj (Option.some.inj h)
      go_enter Try.func36, Try.ntmps36
      go_wp2_with (first | (go_at_call 59; (with_reducible refine (impl_within.calls _ _ _ true _ F1.out).mono ?_); rintro e w' ⟨rfl, ⟨nd, rfl⟩⟩) | (go_at_call 60; (with_reducible refine (impl_allWithin.calls k A0 c0 l0 1 1000 false _ ?side1 ?side2 F2.out).mono ?_); (case side1 => repeat (first | exact HR0.out | (with_reducible refine Kd.C_alloc ?_ _) | (with_reducible refine Kd.C_drewN ?_ _) | (with_reducible refine Kd.C_drew ?_))); (case side2 => exact HC0.out); rintro e w' ⟨rfl, ⟨nd, rfl⟩⟩))
      go_ret2
      exact ⟨.slice none 0 0, by first | rfl | (simp; done) | (simp [*]; done), Kd.R_nil _ _ _ _ _, by repeat (first | exact Below.refl _ _ | apply below_alloc | apply pw_below_drewN | apply below_drew1)⟩
    | true =>
      rw [if_pos rfl] at h
      by_cases cl : (l1.length : Int) = (l0.length : Int)
      · rw [if_pos cl] at h
        have hne : ((l1.length : Int) != (l0.length : Int)) = false := by simp [cl]
        obtain ⟨t3, F3, h⟩ := Option.bind_eq_some_iff.mp h
        replace F3 := Aside0.mk F3
        cases t3 with
        | false =>
          clear cl
          rw [if_neg (by simp)] at h
          obtain ⟨rfl, rfl⟩ := Prod.mk.inj (Option.some.inj h)
          go_enter Try.func36, Try.ntmps36
          go_wp2_with (first | (go_at_call 59; (with_reducible refine (impl_within.calls _ _ _ true _ F1.out).mono ?_); rintro e w' ⟨rfl, ⟨nd, rfl⟩⟩) | (go_at_call 60; (with_reducible refine (impl_allWithin.calls k A0 c0 l0 1 1000 true _ ?side1 ?side2 F2.out).mono ?_); (case side1 => repeat (first | exact HR0.out | (with_reducible refine Kd.C_alloc ?_ _) | (with_reducible refine Kd.C_drewN ?_ _) | (with_reducible refine Kd.C_drew ?_))); (case side2 => exact HC0.out); rintro e w' ⟨rfl, ⟨nd, rfl⟩⟩) | (go_at_call 60; (with_reducible refine (impl_allWithin.calls k A1 c1 l1 1 100 false _ ?side1 ?side2 F3.out).mono ?_); (case side1 => repeat (first | exact HR1.out | (with_reducible refine Kd.C_alloc ?_ _) | (with_reducible refine Kd.C_drewN ?_ _) | (with_reducible refine Kd.C_drew ?_))); (case side2 => exact HC1.out); rintro e w' ⟨rfl, ⟨nd, rfl⟩⟩))
          go_ret2
          exact ⟨.slice none 0 0, by first | rfl | (simp; done) | (simp [*]; done), Kd.R_nil _ _ _ _ _, by repeat (first | exact Below.refl _ _ | apply below_alloc | apply pw_below_drewN | apply below_drew1)⟩
        | true =>
          rw [if_pos rfl] at h
          by_cases cg : impl_chosenRunners.goodB l0 l1 a2 = true
          · rw [if_pos cg] at h
            obtain ⟨⟨b, m⟩, F4, h⟩ := Option.bind_eq_some_iff.mp h
            obtain ⟨rfl, rfl⟩ := Prod.mk.inj (Option.some.inj h)
            have F4 := Aside0.mk F4
            have CG := Aside0.mk (impl_chosenRunners.good_of cg)
            clear cl cg h
            go_enter Try.func36, Try.ntmps36
            go_wp2_with (first | (go_at_call 59; (with_reducible refine (impl_within.calls _ _ _ true _ F1.out).mono ?_); rintro e w' ⟨rfl, ⟨nd, rfl⟩⟩) | (go_at_call 60; (with_reducible refine (impl_allWithin.calls k A0 c0 l0 1 1000 true _ ?side1 ?side2 F2.out).mono ?_); (case side1 => repeat (first | exact HR0.out | (with_reducible refine Kd.C_alloc ?_ _) | (with_reducible refine Kd.C_drewN ?_ _) | (with_reducible refine Kd.C_drew ?_))); (case side2 => exact HC0.out); rintro e w' ⟨rfl, ⟨nd, rfl⟩⟩) | (go_at_call 60; (with_reducible refine (impl_allWithin.calls k A1 c1 l1 1 100 true _ ?side1 ?side2 F3.out).mono ?_); (case side1 => repeat (first | exact HR1.out | (with_reducible refine Kd.C_alloc ?_ _) | (with_reducible refine Kd.C_drewN ?_ _) | (with_reducible refine Kd.C_drew ?_))); (case side2 => exact HC1.out); rintro e w' ⟨rfl, ⟨nd, rfl⟩⟩))
            go_loopg [37] l1.length (fun kq v37 w' => ∃ n : Nat, v37 = .int .i64 (n : Int) ∧ kq + n = l1.length ∧ Aside0 (Below w.heap.size w w') ∧ Aside0 (w'.heap[w.heap.size]? = some (.cells #[.slice A0 l0.length c0] 22 (0, 0)) ∧ w'.heap[w.heap.size + 1]? = some (.cells #[.slice A1 l1.length c1] 22 (0, 0)) ∧ w'.heap[w.heap.size + 1 + 1]? = some (.cells #[.int .i64 a2] 3 (0, 0)) ∧ w'.heap[w.heap.size + 1 + 1 + 1]? = some (.cells #[.int .i64 (impl_chosenRunners.prod (l1.take n))] 3 (0, 0))))
            case atStart =>
              refine ⟨0, rfl, by omega, ⟨by repeat (first | exact Below.refl _ _ | apply below_alloc | apply pw_below_drewN | apply below_drew1)⟩, ⟨?_, ?_, ?_, ?_⟩⟩
              · exact blk_alloc (blk_drewN (blk_alloc (blk_alloc (blk_new _ _) _) _) _) _
              · exact blk_alloc (blk_drewN (blk_alloc (by have := blk_new (w.alloc (.cells #[.slice A0 l0.length c0] 22 (0, 0))) (.cells #[.slice A1 l1.length c1] 22 (0, 0)); simpa using this) _) _) _
              · exact blk_alloc (blk_drewN (by have := blk_new ((w.alloc (.cells #[.slice A0 l0.length c0] 22 (0, 0))).alloc (.cells #[.slice A1 l1.length c1] 22 (0, 0))) (.cells #[.int .i64 a2] 3 (0, 0)); simpa using this) _) _
              · have hz : w.heap.size + 1 + 1 + 1 = ((((w.alloc (Obj.cells #[Value.slice A0 l0.length c0] 22)).alloc (Obj.cells #[Value.slice A1 l1.length c1] 22)).alloc (Obj.cells #[Value.int IntKind.i64 a2] 3))).heap.size := by simp
                rw [hz]
                exact blk_new (World.drewN _ _) (.cells #[.int .i64 1] 3 (0, 0))
            case round =>
              obtain ⟨n, rfl, hkn, HB, HH⟩ := hrel
              obtain ⟨g1, g2, g3, g4⟩ := HH.out
              have x4 := cell_of_one g4
              have f4 := free_of_one g4
              by_cases cn : n < l1.length
              · cases gk with
                | zero => omega
                | succ k1 =>
                  obtain ⟨gd0, gd1, _⟩ := CG.out.2
                  have c1b : decide ((n : Int) < (l1.length : Int)) = true := decide_eq_true (by omega)
                  have c1c : decide (n < l1.length) = true := decide_eq_true cn
                  obtain ⟨ad, e1, hx⟩ := Kd.at_int (Kd.C_below HR1.out HB.out) (n : Int) (by omega) (by omega)
                  subst e1
                  rw [Int.toNat_natCast] at hx
                  have p1 : ((0 : Int) ≤ (n : Int)) = True := eq_true (by omega)
                  have q1 : ((n : Int) < (l1.length : Int)) = True := eq_true (by omega)
                  have hp := impl_chosenRunners.prod_take l1 CG.out.2.1 (by have := CG.out.2.2.2; omega) n (by omega)
                  have hp2 := impl_chosenRunners.pow6 n (by have := CG.out.2.2.2; omega)
                  have hs := CG.out.2.1 (n : Int) (by omega) (by omega)
                  have e : l1.take (n + 1) = l1.take n ++ [rd l1 (n : Int)] := by
                    rw [List.take_succ_eq_append_getElem (by omega), rd, Int.toNat_natCast, List.getD_eq_getElem?_getD, List.getElem?_eq_getElem (by omega)]
                    rfl
                  have hm1 : 0 ≤ impl_chosenRunners.prod (l1.take n) * rd l1 (n : Int) ∧ impl_chosenRunners.prod (l1.take n) * rd l1 (n : Int) ≤ 1000000000000 * 100 := ⟨Int.mul_nonneg (by omega) (by omega), Int.mul_le_mul (by omega) hs.2 (by omega) (by omega)⟩
                  have hw1 : IntKind.i64.wrap (impl_chosenRunners.prod (l1.take n) * rd l1 (n : Int)) = impl_chosenRunners.prod (l1.take (n + 1)) := by
                    rw [e, impl_chosenRunners.prod_snoc]
                    exact IntWalk.i64_in _ (by omega)
                  have hw2 : IntKind.i64.wrap ((n : Int) + 1) = ((n + 1 : Nat) : Int) := by
                    have := CG.out.2.2.2
                    rw [IntWalk.i64_in _ (by omega)]
                    omega
                  have HN := Aside0.mk hkn
                  have HCN := Aside0.mk cn
                  clear hp hp2 hs hm1 e hkn gd0 gd1
                  go_wp2
                  go_roundg k1
                  case measure => omega
                  case rel =>
                    refine ⟨n + 1, by first | rfl | (simp; done) | (simp [*]; done), by have := HN.out; omega, ⟨below_set HB.out (by omega)⟩, ⟨blk_far g1 (by simp <;> omega) _, blk_far g2 (by simp <;> omega) _, blk_far g3 (by simp) _, one_setCell g4⟩⟩
              · have c1b : decide ((n : Int) < (l1.length : Int)) = false := decide_eq_false (by omega)
                have hmf : ∀ (fn : Fn) (first cap : Array Value) (w : World), (Instr.makeFunc fn first cap).run Try.prog w = .ok (.func fn first cap) w := fun _ _ _ _ => rfl
                have hnn : l1.take n = l1 := List.take_of_length_le (by omega)
                rw [hnn] at g4
                have hlt := blk_lt g4
                obtain ⟨d1, d2, d3, d4, d5, d6⟩ := CG.out
                have hpp := impl_chosenRunners.prod_take l1 d2 (by omega) l1.length (Nat.le_refl _)
                rw [List.take_of_length_le (Nat.le_refl _)] at hpp
                have hp2 := impl_chosenRunners.pow6 l1.length (by omega)
                have HC := Aside0.mk (impl_chosenRunners.clo_calls w A0 l0 c0 A1 l1 c1 a2 (impl_chosenRunners.prod l1) w.heap.size wr.heap.size (w.heap.size + 1 + 1) (wr.heap.size + 1) (w.heap.size + 1) (wr.heap.size + 1 + 1) (w.heap.size + 1 + 1 + 1) (wr.heap.size + 1 + 1 + 1)
                  ⟨HR0.out, HC0.out, HR1.out, HC1.out, d1, d2, d5, d4, d3, d6, by omega, by omega, ⟨by omega, by omega⟩, ⟨by omega, by omega⟩, by omega, ⟨by omega, by omega, by omega, by omega, by omega⟩, ⟨by omega, by omega, by omega, by omega, by omega⟩⟩
                  k [] 0 [] 0 b m none 0 (.slice none 0 0) (((wr.alloc (.cells #[.slice none 0 0] 22 (0, 0))).alloc (.cells #[.int .i64 0] 3 (0, 0))).alloc (.cells #[.func (.func 61) #[] #[.pointer (some ⟨w.heap.size, 0, none⟩), .pointer (some ⟨wr.heap.size, 0, none⟩), .pointer (some ⟨w.heap.size + 1 + 1, 0, none⟩), .pointer (some ⟨wr.heap.size + 1, 0, none⟩), .pointer (some ⟨w.heap.size + 1, 0, none⟩), .pointer (some ⟨wr.heap.size + 1 + 1, 0, none⟩), .pointer (some ⟨w.heap.size + 1 + 1 + 1, 0, none⟩)]] 75 (0, 0)))
                  (below_alloc (below_alloc (below_alloc HB.out _) _) _) (by simp) ⟨blk_alloc (blk_alloc (blk_alloc g1 _) _) _, blk_alloc (blk_alloc (blk_alloc g3 _) _) _, blk_alloc (blk_alloc (blk_alloc g2 _) _) _, by have := blk_new ((wr.alloc (.cells #[.slice none 0 0] 22 (0, 0))).alloc (.cells #[.int .i64 0] 3 (0, 0))) (.cells #[.func (.func 61) #[] #[.pointer (some ⟨w.heap.size, 0, none⟩), .pointer (some ⟨wr.heap.size, 0, none⟩), .pointer (some ⟨w.heap.size + 1 + 1, 0, none⟩), .pointer (some ⟨wr.heap.size + 1, 0, none⟩), .pointer (some ⟨w.heap.size + 1, 0, none⟩), .pointer (some ⟨wr.heap.size + 1 + 1, 0, none⟩), .pointer (some ⟨w.heap.size + 1 + 1 + 1, 0, none⟩)]] 75 (0, 0)); simpa using this, blk_alloc (blk_alloc (blk_alloc g4 _) _) _⟩
                  ⟨blk_alloc (blk_alloc (blk_new _ _) _) _, Kd.R_nil _ _ _ _ _, fun _ => rfl, blk_alloc (by have := blk_new (wr.alloc (.cells #[.slice none 0 0] 22 (0, 0))) (.cells #[.int .i64 0] 3 (0, 0)); simpa using this) _⟩
                  (fun W' _ => Kd.C_nil _ _) (by simp) F4.out)
                clear d1 d2 d3 d4 d5 d6 hpp hp2 hlt hnn hkn
                go_wp2_with (first | ((with_reducible refine gate_callT (t := 46) rfl ?_); refine impl_chosenRunners.goesC_ 46 (some 47) rfl rfl Try.func61 (by kernel_rfl) rfl rfl rfl #[.slice none 0 0, .int .i64 0] (by (try simp only [List.map_toArray, List.map_cons, List.map_nil]); first | done | rfl) ?_; refine calls_of_args (args' := #[.slice none ([] : List Int).length 0, .int .i64 0, .pointer (some ⟨w.heap.size, 0, none⟩), .pointer (some ⟨wr.heap.size, 0, none⟩), .pointer (some ⟨w.heap.size + 1 + 1, 0, none⟩), .pointer (some ⟨wr.heap.size + 1, 0, none⟩), .pointer (some ⟨w.heap.size + 1, 0, none⟩), .pointer (some ⟨wr.heap.size + 1 + 1, 0, none⟩), .pointer (some ⟨w.heap.size + 1 + 1 + 1, 0, none⟩)]) (by simp) ?_; refine (HC.out).mono ?_; rintro e w9 ⟨rfl, hb9, hk9, vb, hbb9⟩; refine ⟨_, rfl, ?_⟩; have hx9 := cell_of_one hbb9.c; have HBB9 := Aside0.mk hbb9; have HB9 := Aside0.mk hb9; clear hb9 hk9 hbb9))
                go_ret2
                exact ⟨vb, by first | rfl | (simp; done) | (simp [*]; done), Kd.R_mono HBB9.out.r (fun _ _ => trivial), HB9.out⟩
          · rw [if_neg cg] at h
            cases h
      · rw [if_neg cl] at h
        have hne : ((l1.length : Int) != (l0.length : Int)) = true := by simp; omega
        clear cl
        obtain ⟨rfl, rfl⟩ := Prod.mk.inj (Option.some.inj h)
        go_enter Try.func36, Try.ntmps36
        go_wp2_with (first | (go_at_call 59; (with_reducible refine (impl_within.calls _ _ _ true _ F1.out).mono ?_); rintro e w' ⟨rfl, ⟨nd, rfl⟩⟩) | (go_at_call 60; (with_reducible refine (impl_allWithin.calls k A0 c0 l0 1 1000 true _ ?side1 ?side2 F2.out).mono ?_); (case side1 => repeat (first | exact HR0.out | (with_reducible refine Kd.C_alloc ?_ _) | (with_reducible refine Kd.C_drewN ?_ _) | (with_reducible refine Kd.C_drew ?_))); (case side2 => exact HC0.out); rintro e w' ⟨rfl, ⟨nd, rfl⟩⟩))
        go_ret2
        exact ⟨.slice none 0 0, by first | rfl | (simp; done) | (simp [*]; done), Kd.R_nil _ _ _ _ _, by repeat (first | exact Below.refl _ _ | apply below_alloc | apply pw_below_drewN | apply below_drew1)⟩

/-! ### impl_BestRunners: function 8 -/
def impl_BestRunners.f (k : Nat) (l0 : List Int) (l1 : List Int) : Option (List Int × Bool) := (impl_chosenRunners.f k l0 l1 1).bind fun bt147 => (some (bt147.1, bt147.2))
set_option maxHeartbeats 8000000 in
set_option maxRecDepth 100000 in
theorem impl_BestRunners.calls (k : Nat) (A0 : Option Addr) (c0 : Nat) (l0 : List Int) (A1 : Option Addr) (c1 : Nat) (l1 : List Int) (r1 : List Int) (r2 : Bool) (w : World) (hr0 : Kd.C (Kd.int .i64) w A0 l0.length l0) (hc0 : l0.length ≤ c0) (hr1 : Kd.C (Kd.int .i64) w A1 l1.length l1) (hc1 : l1.length ≤ c1) (h : impl_BestRunners.f k l0 l1 = some (r1, r2)) :
    Calls Try.prog 8 #[.slice A0 l0.length c0, .slice A1 l1.length c1] w fun e w' => ∃ v0_ : Value, e = .returned (.tuple #[v0_, .bool r2]) ∧ Kd.R (Kd.int .i64) 3 w' w.heap.size (fun _ => True) v0_ r1 ∧ Below w.heap.size w w' := by
  have HR0 := Aside0.mk hr0
  have HC0 := Aside0.mk hc0
  clear hr0 hc0
  have HR1 := Aside0.mk hr1
  have HC1 := Aside0.mk hc1
  clear hr1 hc1
  have HB := Aside0.mk (Below.refl w.heap.size w)
  have H : ((impl_chosenRunners.f k l0 l1 1).bind fun bt147 => (some (bt147.1, bt147.2))) = some (r1, r2) := h
  clear h
  replace H := Option.bind_eq_some_iff.mp H
  obtain ⟨⟨t147, t148⟩, A30, H⟩ := H
  replace H : (some (t147, t148)) = some (r1, r2) := H
  have A3 := Aside0.mk A30
  clear A30
  simp only [Option.some.injEq, Prod.mk.injEq] at H
  obtain ⟨rfl, rfl⟩ := H
  go_enter Try.func8, Try.ntmps8
  go_wp2_with (first | ((with_reducible refine gate_callee (f := 36) rfl ?_); refine goesL_ (some 8) rfl rfl Try.func36 (by kernel_rfl) rfl #[.slice A0 l0.length c0, .slice A1 l1.length c1, .int .i64 1] rfl (by (try simp only [List.map_toArray, List.map_cons, List.map_nil]); first | done | rfl | (simp only [List.length_drop, List.length_take]; rfl)) ?_; (with_reducible refine (impl_chosenRunners.calls k _ _ l0 _ _ l1 1 t147 t148 _ ?side1 ?side2 ?side3 ?side4 A3.out).mono ?_); (case side1 => repeat (first | exact HR0.out | (with_reducible refine Kd.C_alloc ?_ _) | (with_reducible refine Kd.C_drewN ?_ _) | (with_reducible refine Kd.C_drew ?_))); (case side2 => exact HC0.out); (case side3 => repeat (first | exact HR1.out | (with_reducible refine Kd.C_alloc ?_ _) | (with_reducible refine Kd.C_drewN ?_ _) | (with_reducible refine Kd.C_drew ?_))); (case side4 => exact HC1.out); rintro e w4 ⟨v149, rfl, ho0, hb⟩; refine ⟨_, rfl, ?_⟩; have n0_ := Aside0.mk (Kd.R_lower ho0 (below_size (below_to HB))); have n1_ := Aside0.mk (below_step (below_to HB) hb); clear HB; have HO150 := n0_; have HB := n1_; clear n0_ n1_; (try clear hb); (try clear hb2); (try clear hk); (try clear hi); (try clear ho0)))
  go_ret2
  exact ⟨_, by first | rfl | (simp [errW_none, errW_some] <;> rfl) | (simp [*, errW_none, errW_some] <;> rfl), by (with_reducible repeat (first | apply Kd.R_alloc | apply Kd.R_drewN | apply Kd.R_drew)); exact HO150.out, by repeat (first | (with_reducible first | exact HB.out | apply below_alloc | apply pw_below_drewN | apply below_drew1) | exact HB.out)⟩

/-! ### spec_WorstRunners: function 12 -/
def spec_WorstRunners.f (k : Nat) (l0 : List Int) (l1 : List Int) : Option (List Int × Bool) := (spec_reTeam.f k l0 l1).bind fun t151 => (if t151 = true then ((spec_reRunners.f k l0 l1 ([] : List Int) false).bind fun t152 => (some (t152, true))) else (some (([] : List Int), false)))
set_option maxHeartbeats 8000000 in
set_option maxRecDepth 100000 in
theorem spec_WorstRunners.calls (k : Nat) (A0 : Option Addr) (c0 : Nat) (l0 : List Int) (A1 : Option Addr) (c1 : Nat) (l1 : List Int) (r1 : List Int) (r2 : Bool) (w : World) (hr0 : Kd.C (Kd.int .i64) w A0 l0.length l0) (hc0 : l0.length ≤ c0) (hr1 : Kd.C (Kd.int .i64) w A1 l1.length l1) (hc1 : l1.length ≤ c1) (h : spec_WorstRunners.f k l0 l1 = some (r1, r2)) :
    Calls Try.prog 12 #[.slice A0 l0.length c0, .slice A1 l1.length c1] w fun e w' => ∃ v0_ : Value, e = .returned (.tuple #[v0_, .bool r2]) ∧ Kd.R (Kd.int .i64) 3 w' w.heap.size (fun _ => True) v0_ r1 ∧ Below w.heap.size w w' := by
  have HR0 := Aside0.mk hr0
  have HC0 := Aside0.mk hc0
  clear hr0 hc0
  have HR1 := Aside0.mk hr1
  have HC1 := Aside0.mk hc1
  clear hr1 hc1
  have HB := Aside0.mk (Below.refl w.heap.size w)
  have H : ((spec_reTeam.f k l0 l1).bind fun t151 => (if t151 = true then ((spec_reRunners.f k l0 l1 ([] : List Int) false).bind fun t152 => (some (t152, true))) else (some (([] : List Int), false)))) = some (r1, r2) := h
  clear h
  replace H := Option.bind_eq_some_iff.mp H
  obtain ⟨t151, A30, H⟩ := H
  replace H : (if t151 = true then ((spec_reRunners.f k l0 l1 ([] : List Int) false).bind fun t152 => (some (t152, true))) else (some (([] : List Int), false))) = some (r1, r2) := H
  have A3 := Aside0.mk A30
  clear A30
  by_cases c4 : t151 = true
  · subst c4
    have H1 : ((spec_reRunners.f k l0 l1 ([] : List Int) false).bind fun t152 => (some (t152, true))) = some (r1, r2) := by rw [if_pos rfl] at H; exact H
    clear H
    have H := H1
    clear H1
    replace H := Option.bind_eq_some_iff.mp H
    obtain ⟨t152, A50, H⟩ := H
    replace H : (some (t152, true)) = some (r1, r2) := H
    have A5 := Aside0.mk A50
    clear A50
    simp only [Option.some.injEq, Prod.mk.injEq] at H
    obtain ⟨rfl, rfl⟩ := H
    go_enter Try.func12, Try.ntmps12
    go_wp2_with (first | ((with_reducible refine gate_callee (f := 34) rfl ?_); refine goesL_ (some 8) rfl rfl Try.func34 (by kernel_rfl) rfl #[.slice A0 l0.length c0, .slice A1 l1.length c1] rfl (by (try simp only [List.map_toArray, List.map_cons, List.map_nil]); first | done | rfl | (simp only [List.length_drop, List.length_take]; rfl)) ?_; (with_reducible refine (spec_reTeam.calls k _ _ l0 _ _ l1 true _ ?side1 ?side2 ?side3 ?side4 A3.out).mono ?_); (case side1 => repeat (first | exact HR0.out | (with_reducible refine Kd.C_alloc ?_ _) | (with_reducible refine Kd.C_drewN ?_ _) | (with_reducible refine Kd.C_drew ?_))); (case side2 => exact HC0.out); (case side3 => repeat (first | exact HR1.out | (with_reducible refine Kd.C_alloc ?_ _) | (with_reducible refine Kd.C_drewN ?_ _) | (with_reducible refine Kd.C_drew ?_))); (case side4 => exact HC1.out); rintro e w' ⟨rfl, ⟨nd, rfl⟩⟩; refine ⟨_, rfl, ?_⟩) | ((with_reducible refine gate_callee (f := 35) rfl ?_); refine goesL_ (some 12) rfl rfl Try.func35 (by kernel_rfl) rfl #[.slice A0 l0.length c0, .slice A1 l1.length c1, .slice none 0 0, .bool false] rfl (by (try simp only [List.map_toArray, List.map_cons, List.map_nil]); first | done | rfl | (simp only [List.length_drop, List.length_take]; rfl)) ?_; (refine (spec_reRunners.calls k _ _ l0 _ _ l1 _ _ ([] : List Int) false t152 _ ?side1 ?side2 ?side3 ?side4 ?side5 ?side6 A5.out).mono ?_); (case side1 => repeat (first | exact HR0.out | (with_reducible refine Kd.C_alloc ?_ _) | (with_reducible refine Kd.C_drewN ?_ _) | (with_reducible refine Kd.C_drew ?_))); (case side2 => exact HC0.out); (case side3 => repeat (first | exact HR1.out | (with_reducible refine Kd.C_alloc ?_ _) | (with_reducible refine Kd.C_drewN ?_ _) | (with_reducible refine Kd.C_drew ?_))); (case side4 => exact HC1.out); (case side5 => exact Kd.C_nil _ _); (case side6 => exact Nat.le_refl _); rintro e w6 ⟨v153, rfl, ho0, hb⟩; refine ⟨_, rfl, ?_⟩; have n0_ := Aside0.mk (Kd.R_lower ho0 (below_size (below_to HB))); have n1_ := Aside0.mk (below_step (below_to HB) hb); clear HB; have HO154 := n0_; have HB := n1_; clear n0_ n1_; (try clear hb); (try clear hb2); (try clear hk); (try clear hi); (try clear ho0)))
    go_ret2
    exact ⟨_, by first | rfl | (simp [errW_none, errW_some] <;> rfl) | (simp [*, errW_none, errW_some] <;> rfl), by (with_reducible repeat (first | apply Kd.R_alloc | apply Kd.R_drewN | apply Kd.R_drew)); exact HO154.out, by repeat (first | (with_reducible first | exact HB.out | apply below_alloc | apply pw_below_drewN | apply below_drew1) | exact HB.out)⟩
  · replace c4 := Bool.eq_false_iff.mpr c4
    subst c4
    have H1 : (some (([] : List Int), false)) = some (r1, r2) := by rw [if_neg (show ¬ (false = true) by decide)] at H; exact H
    clear H
    have H := H1
    clear H1
    simp only [Option.some.injEq, Prod.mk.injEq] at H
    obtain ⟨rfl, rfl⟩ := H
    go_enter Try.func12, Try.ntmps12
    go_wp2_with (first | ((with_reducible refine gate_callee (f := 34) rfl ?_); refine goesL_ (some 8) rfl rfl Try.func34 (by kernel_rfl) rfl #[.slice A0 l0.length c0, .slice A1 l1.length c1] rfl (by (try simp only [List.map_toArray, List.map_cons, List.map_nil]); first | done | rfl | (simp only [List.length_drop, List.length_take]; rfl)) ?_; (with_reducible refine (spec_reTeam.calls k _ _ l0 _ _ l1 false _ ?side1 ?side2 ?side3 ?side4 A3.out).mono ?_); (case side1 => repeat (first | exact HR0.out | (with_reducible refine Kd.C_alloc ?_ _) | (with_reducible refine Kd.C_drewN ?_ _) | (with_reducible refine Kd.C_drew ?_))); (case side2 => exact HC0.out); (case side3 => repeat (first | exact HR1.out | (with_reducible refine Kd.C_alloc ?_ _) | (with_reducible refine Kd.C_drewN ?_ _) | (with_reducible refine Kd.C_drew ?_))); (case side4 => exact HC1.out); rintro e w' ⟨rfl, ⟨nd, rfl⟩⟩; refine ⟨_, rfl, ?_⟩))
    go_ret2
    exact ⟨_, by first | rfl | (simp [errW_none, errW_some] <;> rfl) | (simp [*, errW_none, errW_some] <;> rfl), by first | exact Kd.R_nil _ _ _ _ _ | exact Kd.N_nil _ _ _ _ _ | exact Kd.V_nil _ _ _ _ _ | exact Kd.Q_nil _ _ _ _ _ | exact Kd.S_nil _ _ _ _ _, by repeat (first | (with_reducible first | exact HB.out | apply below_alloc | apply pw_below_drewN | apply below_drew1) | exact HB.out)⟩

/-! ### impl_WorstRunners: function 13 -/
def impl_WorstRunners.f (k : Nat) (l0 : List Int) (l1 : List Int) : Option (List Int × Bool) := (impl_chosenRunners.f k l0 l1 (-1)).bind fun bt155 => (some (bt155.1, bt155.2))
set_option maxHeartbeats 8000000 in
set_option maxRecDepth 100000 in
theorem impl_WorstRunners.calls (k : Nat) (A0 : Option Addr) (c0 : Nat) (l0 : List Int) (A1 : Option Addr) (c1 : Nat) (l1 : List Int) (r1 : List Int) (r2 : Bool) (w : World) (hr0 : Kd.C (Kd.int .i64) w A0 l0.length l0) (hc0 : l0.length ≤ c0) (hr1 : Kd.C (Kd.int .i64) w A1 l1.length l1) (hc1 : l1.length ≤ c1) (h : impl_WorstRunners.f k l0 l1 = some (r1, r2)) :
    Calls Try.prog 13 #[.slice A0 l0.length c0, .slice A1 l1.length c1] w fun e w' => ∃ v0_ : Value, e = .returned (.tuple #[v0_, .bool r2]) ∧ Kd.R (Kd.int .i64) 3 w' w.heap.size (fun _ => True) v0_ r1 ∧ Below w.heap.size w w' := by
  have HR0 := Aside0.mk hr0
  have HC0 := Aside0.mk hc0
  clear hr0 hc0
  have HR1 := Aside0.mk hr1
  have HC1 := Aside0.mk hc1
  clear hr1 hc1
  have HB := Aside0.mk (Below.refl w.heap.size w)
  have H : ((impl_chosenRunners.f k l0 l1 (-1)).bind fun bt155 => (some (bt155.1, bt155.2))) = some (r1, r2) := h
  clear h
  replace H := Option.bind_eq_some_iff.mp H
  obtain ⟨⟨t155, t156⟩, A30, H⟩ := H
  replace H : (some (t155, t156)) = some (r1, r2) := H
  have A3 := Aside0.mk A30
  clear A30
  simp only [Option.some.injEq, Prod.mk.injEq] at H
  obtain ⟨rfl, rfl⟩ := H
  go_enter Try.func13, Try.ntmps13
  go_wp2_with (first | ((with_reducible refine gate_callee (f := 36) rfl ?_); refine goesL_ (some 8) rfl rfl Try.func36 (by kernel_rfl) rfl #[.slice A0 l0.length c0, .slice A1 l1.length c1, .int .i64 (-1)] rfl (by (try simp only [List.map_toArray, List.map_cons, List.map_nil]); first | done | rfl | (simp only [List.length_drop, List.length_take]; rfl)) ?_; (with_reducible refine (impl_chosenRunners.calls k _ _ l0 _ _ l1 (-1) t155 t156 _ ?side1 ?side2 ?side3 ?side4 A3.out).mono ?_); (case side1 => repeat (first | exact HR0.out | (with_reducible refine Kd.C_alloc ?_ _) | (with_reducible refine Kd.C_drewN ?_ _) | (with_reducible refine Kd.C_drew ?_))); (case side2 => exact HC0.out); (case side3 => repeat (first | exact HR1.out | (with_reducible refine Kd.C_alloc ?_ _) | (with_reducible refine Kd.C_drewN ?_ _) | (with_reducible refine Kd.C_drew ?_))); (case side4 => exact HC1.out); rintro e w4 ⟨v157, rfl, ho0, hb⟩; refine ⟨_, rfl, ?_⟩; have n0_ := Aside0.mk (Kd.R_lower ho0 (below_size (below_to HB))); have n1_ := Aside0.mk (below_step (below_to HB) hb); clear HB; have HO158 := n0_; have HB := n1_; clear n0_ n1_; (try clear hb); (try clear hb2); (try clear hk); (try clear hi); (try clear ho0)))
  go_ret2
  exact ⟨_, by first | rfl | (simp [errW_none, errW_some] <;> rfl) | (simp [*, errW_none, errW_some] <;> rfl), by (with_reducible repeat (first | apply Kd.R_alloc | apply Kd.R_drewN | apply Kd.R_drew)); exact HO158.out, by repeat (first | (with_reducible first | exact HB.out | apply below_alloc | apply pw_below_drewN | apply below_drew1) | exact HB.out)⟩

/-! ### laws_big: function 14 -/
def laws_big.f (l0 : List Int) (l1 : List Int) : Option (Bool) := if (l0.length : Int) > 1048576 then (some true) else (some (decide ((l1.length : Int) > (wrap64 (1048576 - (l0.length : Int))))))
set_option maxHeartbeats 8000000 in
set_option maxRecDepth 100000 in
theorem laws_big.calls (A0 : Option Addr) (c0 : Nat) (l0 : List Int) (A1 : Option Addr) (c1 : Nat) (l1 : List Int) (r : Bool) (w : World) (hr0 : Kd.C (Kd.int .u8) w A0 l0.length l0) (hc0 : l0.length ≤ c0) (hr1 : Kd.C (Kd.int .u8) w A1 l1.length l1) (hc1 : l1.length ≤ c1) (h : laws_big.f l0 l1 = some r) :
    Calls Try.prog 14 #[.slice A0 l0.length c0, .slice A1 l1.length c1] w fun e w' => e = .returned (.bool r) ∧ Drawn0 w w' := by
  have HR0 := Aside0.mk hr0
  have HC0 := Aside0.mk hc0
  clear hr0 hc0
  have HR1 := Aside0.mk hr1
  have HC1 := Aside0.mk hc1
  clear hr1 hc1
  have H : (if (l0.length : Int) > 1048576 then (some true) else (some (decide ((l1.length : Int) > (wrap64 (1048576 - (l0.length : Int))))))) = some r := h
  clear h
  by_cases c3 : (l0.length : Int) > 1048576
  · rw [if_pos c3] at H
    have c3b0 : decide (1048576 < (l0.length : Int)) = true := decide_eq_true c3
    have c3b1 : decide (1048576 < l0.length) = true := decide_eq_true (by omega)
    clear c3
    obtain rfl := Option.some.inj H
    go_enter Try.func14, Try.ntmps14
    go_wp2
    go_ret
    exact ⟨by first | rfl | (simp; done) | (simp [*]; done), by repeat (first | exact Drawn0.refl _ | apply Drawn0.step)⟩
  · rw [if_neg c3] at H
    have c3b0 : decide (1048576 < (l0.length : Int)) = false := decide_eq_false c3
    have c3b1 : decide (1048576 < l0.length) = false := decide_eq_false (by omega)
    clear c3
    obtain rfl := Option.some.inj H
    go_enter Try.func14, Try.ntmps14
    go_wp2
    go_ret
    exact ⟨by first | rfl | (simp; done) | (simp [*]; done), by repeat (first | exact Drawn0.refl _ | apply Drawn0.step)⟩

/-- A state of type 60 at block g of W; what its slices lead to came in by w0. -/
def IsS60 (w0 W : World) (g : Nat) (f0 : List Int) (f1 : Int) (f2 : Int) : Prop := ∃ A0 c0, W.heap[g]? = some (.cells #[.slice A0 f0.length c0, .int .i64 f1, .int .u64 f2] 60 (0, 0)) ∧ w0.heap.size ≤ g ∧ Kd.C (Kd.int .u8) w0 A0 f0.length f0
theorem IsS60.grown {w0 W : World} {g : Nat} {f0 : List Int} {f1 : Int} {f2 : Int} {W1 : World} {row : Option Nat} (h : IsS60 w0 W g f0 f1 f2) (hw : W.grownBy W1 row) (hne : some g ≠ row) : IsS60 w0 W1 g f0 f1 f2 := by
  obtain ⟨A0, c0, hb, hg, hr0⟩ := h
  exact ⟨A0, c0, blk_grown hb hw hne, hg, hr0⟩
theorem IsS60.own_neN {w0 W : World} {g : Nat} {f0 : List Int} {f1 : Int} {f2 : Int} {α : Type} {d : Kd α} {e : Nat} {base : Nat} {ok : Nat → Prop} {v : Value} {xs : List α} (h : IsS60 w0 W g f0 f1 f2) (ho : Kd.N d e W base ok v xs) (ht : e ≠ 60) : some g ≠ v.ownBlock := by
  obtain ⟨A0, c0, hb, hg, hr0⟩ := h
  exact Kd.N_ne ho hb ht
theorem IsS60.fresh {w0 W : World} {g : Nat} {f0 : List Int} {f1 : Int} {f2 : Int} (h : IsS60 w0 W g f0 f1 f2) : ∀ k, W.heap.size ≤ k → k ≠ g := by
  obtain ⟨A0, c0, hb, hg, hr0⟩ := h
  exact Kd.freshB hb
theorem IsS60.kept {w0 W : World} {g : Nat} {f0 : List Int} {f1 : Int} {f2 : Int} {W1 : World} {S : Nat → Prop} (h : IsS60 w0 W g f0 f1 f2) (hk : Kept W W1 S) (hne : ¬ S g) : IsS60 w0 W1 g f0 f1 f2 := by
  obtain ⟨A0, c0, hb, hg, hr0⟩ := h
  exact ⟨A0, c0, blk_kept hb hk hne, hg, hr0⟩
theorem IsS60.below {w0 W : World} {g : Nat} {f0 : List Int} {f1 : Int} {f2 : Int} {W1 : World} (h : IsS60 w0 W g f0 f1 f2) (hw : Below W.heap.size W W1) : IsS60 w0 W1 g f0 f1 f2 := h.grown (grown_of_below hw none) (by simp)
theorem IsS60.alloc {w0 W : World} {g : Nat} {f0 : List Int} {f1 : Int} {f2 : Int} (h : IsS60 w0 W g f0 f1 f2) (o : Obj) : IsS60 w0 (W.alloc o) g f0 f1 f2 := h.below (below_alloc (Below.refl _ _) o)
theorem IsS60.drewN {w0 W : World} {g : Nat} {f0 : List Int} {f1 : Int} {f2 : Int} (h : IsS60 w0 W g f0 f1 f2) (m : Nat) : IsS60 w0 (W.drewN m) g f0 f1 f2 := h
theorem IsS60.drew {w0 W : World} {g : Nat} {f0 : List Int} {f1 : Int} {f2 : Int} (h : IsS60 w0 W g f0 f1 f2) : IsS60 w0 W.drew g f0 f1 f2 := h
theorem IsS60.at_ {w0 W : World} {g : Nat} {f0 : List Int} {f1 : Int} {f2 : Int} {w' : World} {m : Nat} (hq : W.drewN m = w') (h : IsS60 w0 W g f0 f1 f2) : IsS60 w0 w' g f0 f1 f2 := by subst hq; exact IsS60.drewN h m
theorem IsS60.apart {w0 W : World} {g : Nat} {f0 : List Int} {f1 : Int} {f2 : Int} {α : Type} {d : Kd α} {e : Nat} {base : Nat} {ok : Nat → Prop} {v : Value} {xs : List α} (h : IsS60 w0 W g f0 f1 f2) (ho : d.R e W base ok v xs) (ht : ∀ q, q ∈ e :: d.E → q ≠ 60) : d.R e W base (fun k => ok k ∧ k ≠ g) v xs := by
  obtain ⟨A0, c0, hb, hg, hr0⟩ := h
  exact Kd.R_types ho hb ht
theorem IsS60.own_ne {w0 W : World} {g : Nat} {f0 : List Int} {f1 : Int} {f2 : Int} {α : Type} {d : Kd α} {e : Nat} {base : Nat} {ok : Nat → Prop} {v : Value} {xs : List α} (h : IsS60 w0 W g f0 f1 f2) (ho : d.R e W base ok v xs) (ht : e ≠ 60) : some g ≠ v.ownBlock := by
  obtain ⟨A0, c0, hb, hg, hr0⟩ := h
  exact Kd.R_ne ho hb ht
theorem IsS60.apartQ {w0 W : World} {g : Nat} {f0 : List Int} {f1 : Int} {f2 : Int} {α : Type} {d : Kd α} {e : Nat} {base : Nat} {ok : Nat → Prop} {v : Value} {xs : List α} (h : IsS60 w0 W g f0 f1 f2) (ho : d.Q e W base ok v xs) (ht : ∀ q, q ∈ e :: d.E → q ≠ 60) : d.Q e W base (fun k => ok k ∧ k ≠ g) v xs := by
  obtain ⟨A0, c0, hb, hg, hr0⟩ := h
  exact Kd.Q_types ho hb ht
theorem IsS60.own_neQ {w0 W : World} {g : Nat} {f0 : List Int} {f1 : Int} {f2 : Int} {α : Type} {d : Kd α} {e : Nat} {base : Nat} {ok : Nat → Prop} {v : Value} {xs : List α} (h : IsS60 w0 W g f0 f1 f2) (ho : d.Q e W base ok v xs) (ht : e ≠ 60) : some g ≠ v.ownBlock := by
  obtain ⟨A0, c0, hb, hg, hr0⟩ := h
  exact Kd.Q_ne ho hb ht
theorem IsS60.apartS {w0 W : World} {g : Nat} {f0 : List Int} {f1 : Int} {f2 : Int} {α : Type} {d : Kd α} {e : Nat} {base : Nat} {ok : Nat → Prop} {v : Value} {xs : List α} (h : IsS60 w0 W g f0 f1 f2) (ho : d.S e W base ok v xs) (ht : ∀ q, q ∈ e :: d.E → q ≠ 60) : d.S e W base (fun k => ok k ∧ k ≠ g) v xs := by
  obtain ⟨A0, c0, hb, hg, hr0⟩ := h
  exact Kd.S_types ho hb ht
theorem IsS60.own_neS {w0 W : World} {g : Nat} {f0 : List Int} {f1 : Int} {f2 : Int} {α : Type} {d : Kd α} {e : Nat} {base : Nat} {ok : Nat → Prop} {v : Value} {xs : List α} (h : IsS60 w0 W g f0 f1 f2) (ho : d.S e W base ok v xs) (ht : e ≠ 60) : some g ≠ v.ownBlock := by
  obtain ⟨A0, c0, hb, hg, hr0⟩ := h
  exact Kd.S_ne ho hb ht
theorem IsS60.lt {w0 W : World} {g : Nat} {f0 : List Int} {f1 : Int} {f2 : Int} (h : IsS60 w0 W g f0 f1 f2) : g < W.heap.size := by
  obtain ⟨A0, c0, hb, hg, hr0⟩ := h
  exact blk_lt hb
theorem IsS60.ge {w0 W : World} {g : Nat} {f0 : List Int} {f1 : Int} {f2 : Int} (h : IsS60 w0 W g f0 f1 f2) : w0.heap.size ≤ g := by
  obtain ⟨A0, c0, hb, hg, hr0⟩ := h
  exact hg
theorem IsS60.ne_blk {w0 W : World} {g : Nat} {f0 : List Int} {f1 : Int} {f2 : Int} {a : Nat} {cs : Array Value} {t : TypeId} {fr : Nat × Nat} (h : IsS60 w0 W g f0 f1 f2) (hb2 : W.heap[a]? = some (.cells cs t fr)) (ht : t ≠ 60) : g ≠ a := by
  obtain ⟨A0, c0, hb, hg, hr0⟩ := h
  rintro rfl
  rw [hb] at hb2
  injection hb2 with hb2
  injection hb2 with _ ht2
  exact ht ht2.symm
theorem IsS60.far {w0 W : World} {g : Nat} {f0 : List Int} {f1 : Int} {f2 : Int} {p : Addr} (h : IsS60 w0 W g f0 f1 f2) (hne : g ≠ p.block) (u : Value) : IsS60 w0 (W.setCell p u) g f0 f1 f2 := by
  obtain ⟨A0, c0, hb, hg, hr0⟩ := h
  exact ⟨A0, c0, blk_far hb hne u, hg, hr0⟩
theorem cellS60_0 {W : World} {g : Nat} {A0 : Option Addr} {c0 : Nat} {f0 : List Int} {f1 : Int} {f2 : Int} (h : W.heap[g]? = some (.cells #[.slice A0 f0.length c0, .int .i64 f1, .int .u64 f2] 60 (0, 0))) : W.cell? ⟨g, 0, none⟩ = some (.slice A0 f0.length c0) := (blk_cell h 0).trans rfl
theorem cellS60_1 {W : World} {g : Nat} {A0 : Option Addr} {c0 : Nat} {f0 : List Int} {f1 : Int} {f2 : Int} (h : W.heap[g]? = some (.cells #[.slice A0 f0.length c0, .int .i64 f1, .int .u64 f2] 60 (0, 0))) : W.cell? ⟨g, 1, none⟩ = some (.int .i64 f1) := (blk_cell h 1).trans rfl
theorem IsS60.set_1 {w0 W : World} {g : Nat} {f0 : List Int} {f1 : Int} {f2 : Int} (h : IsS60 w0 W g f0 f1 f2) (x : Int) : IsS60 w0 (W.setCell ⟨g, 1, none⟩ (.int .i64 x)) g f0 x f2 := by
  obtain ⟨A0, c0, hb, hg, hr0⟩ := h
  exact ⟨A0, c0, by simpa using blk_set hb 1 (.int .i64 x), hg, hr0⟩
theorem cellS60_2 {W : World} {g : Nat} {A0 : Option Addr} {c0 : Nat} {f0 : List Int} {f1 : Int} {f2 : Int} (h : W.heap[g]? = some (.cells #[.slice A0 f0.length c0, .int .i64 f1, .int .u64 f2] 60 (0, 0))) : W.cell? ⟨g, 2, none⟩ = some (.int .u64 f2) := (blk_cell h 2).trans rfl
theorem IsS60.set_2 {w0 W : World} {g : Nat} {f0 : List Int} {f1 : Int} {f2 : Int} (h : IsS60 w0 W g f0 f1 f2) (x : Int) : IsS60 w0 (W.setCell ⟨g, 2, none⟩ (.int .u64 x)) g f0 f1 x := by
  obtain ⟨A0, c0, hb, hg, hr0⟩ := h
  exact ⟨A0, c0, by simpa using blk_set hb 2 (.int .u64 x), hg, hr0⟩
theorem IsS60.new (w0 W : World) (A0 : Option Addr) (c0 : Nat) (f0 : List Int) (f1 : Int) (f2 : Int) (hB : Below w0.heap.size w0 W) (hr0 : Kd.C (Kd.int .u8) w0 A0 f0.length f0) : IsS60 w0 (W.alloc (.cells #[.slice A0 f0.length c0, .int .i64 f1, .int .u64 f2] 60)) W.heap.size f0 f1 f2 := ⟨A0, c0, by simpa using heap_alloc_new W _, hB.size, hr0⟩

/-! ### spec_l1Cur_next: function 68 -/
def spec_l1Cur_next.f (s0_0 : List Int) (s0_1 : Int) (s0_2 : Int) : Option (Int × Int × Int) := if s0_1 < (s0_0.length : Int) then (if 0 ≤ s0_1 then (if (wrap64 (s0_1 + 1)) ≤ (s0_0.length : Int) then (some (wrap64 (rd s0_0 s0_1), wrap64 (s0_1 + 1), IntKind.u64.wrap ((IntKind.u64.wrap ((IntKind.u64.wrap (s0_2 * 6364136223846793005)) + (IntKind.u64.wrap (wrap64 (rd s0_0 s0_1))))) + 1442695040888963407))) else (some (wrap64 (Go.bits .and .u64 ((IntKind.u64.wrap ((IntKind.u64.wrap ((IntKind.u64.wrap (s0_2 * 6364136223846793005)) + (IntKind.u64.wrap (wrap64 (rd s0_0 s0_1))))) + 1442695040888963407)) / 1099511627776) 255), wrap64 (s0_1 + 1), IntKind.u64.wrap ((IntKind.u64.wrap ((IntKind.u64.wrap (s0_2 * 6364136223846793005)) + (IntKind.u64.wrap (wrap64 (rd s0_0 s0_1))))) + 1442695040888963407)))) else (none)) else (if (wrap64 (s0_1 + 1)) ≤ (s0_0.length : Int) then (some (0, wrap64 (s0_1 + 1), IntKind.u64.wrap ((IntKind.u64.wrap (IntKind.u64.wrap (s0_2 * 6364136223846793005))) + 1442695040888963407))) else (some (wrap64 (Go.bits .and .u64 ((IntKind.u64.wrap ((IntKind.u64.wrap (IntKind.u64.wrap (s0_2 * 6364136223846793005))) + 1442695040888963407)) / 1099511627776) 255), wrap64 (s0_1 + 1), IntKind.u64.wrap ((IntKind.u64.wrap (IntKind.u64.wrap (s0_2 * 6364136223846793005))) + 1442695040888963407))))
set_option maxHeartbeats 8000000 in
set_option maxRecDepth 100000 in
theorem spec_l1Cur_next.calls (g : Nat) (s0_0 : List Int) (s0_1 : Int) (s0_2 : Int) (r1 : Int) (r2 : Int) (r3 : Int) (w0 w : World) (hI : IsS60 w0 w g s0_0 s0_1 s0_2) (hB : Below w0.heap.size w0 w) (h : spec_l1Cur_next.f s0_0 s0_1 s0_2 = some (r1, r2, r3)) :
    Calls Try.prog 68 #[.pointer (some ⟨g, 0, none⟩)] w fun e w' => e = .returned (.int .i64 r1) ∧ IsS60 w0 w' g s0_0 r2 r3 ∧ Below w0.heap.size w0 w' ∧ KeepBut w w' g none := by
  have HI0 := Aside0.mk hI
  have HK := Aside0.mk (KeepBut.refl w g none)
  have HL := Aside0.mk hB.size
  clear hI
  have HW0 := Aside0.mk hB.size
  have HB := Aside0.mk hB
  clear hB
  have H : (if s0_1 < (s0_0.length : Int) then (if 0 ≤ s0_1 then (if (wrap64 (s0_1 + 1)) ≤ (s0_0.length : Int) then (some (wrap64 (rd s0_0 s0_1), wrap64 (s0_1 + 1), IntKind.u64.wrap ((IntKind.u64.wrap ((IntKind.u64.wrap (s0_2 * 6364136223846793005)) + (IntKind.u64.wrap (wrap64 (rd s0_0 s0_1))))) + 1442695040888963407))) else (some (wrap64 (Go.bits .and .u64 ((IntKind.u64.wrap ((IntKind.u64.wrap ((IntKind.u64.wrap (s0_2 * 6364136223846793005)) + (IntKind.u64.wrap (wrap64 (rd s0_0 s0_1))))) + 1442695040888963407)) / 1099511627776) 255), wrap64 (s0_1 + 1), IntKind.u64.wrap ((IntKind.u64.wrap ((IntKind.u64.wrap (s0_2 * 6364136223846793005)) + (IntKind.u64.wrap (wrap64 (rd s0_0 s0_1))))) + 1442695040888963407)))) else (none)) else (if (wrap64 (s0_1 + 1)) ≤ (s0_0.length : Int) then (some (0, wrap64 (s0_1 + 1), IntKind.u64.wrap ((IntKind.u64.wrap (IntKind.u64.wrap (s0_2 * 6364136223846793005))) + 1442695040888963407))) else (some (wrap64 (Go.bits .and .u64 ((IntKind.u64.wrap ((IntKind.u64.wrap (IntKind.u64.wrap (s0_2 * 6364136223846793005))) + 1442695040888963407)) / 1099511627776) 255), wrap64 (s0_1 + 1), IntKind.u64.wrap ((IntKind.u64.wrap (IntKind.u64.wrap (s0_2 * 6364136223846793005))) + 1442695040888963407))))) = some (r1, r2, r3) := h
  clear h
  by_cases c2 : s0_1 < (s0_0.length : Int)
  · rw [if_pos c2] at H
    have c2b0 : decide (s0_1 < (s0_0.length : Int)) = true := decide_eq_true c2
    clear c2
    by_cases c3 : 0 ≤ s0_1
    · rw [if_pos c3] at H
      have c3b0 : decide (0 ≤ s0_1) = true := decide_eq_true c3
      clear c3
      by_cases c4 : (wrap64 (s0_1 + 1)) ≤ (s0_0.length : Int)
      · rw [if_pos c4] at H
        have c4b0 : decide ((wrap64 (s0_1 + 1)) ≤ (s0_0.length : Int)) = true := decide_eq_true c4
        clear c4
        simp only [Option.some.injEq, Prod.mk.injEq] at H
        obtain ⟨rfl, rfl, rfl⟩ := H
        obtain ⟨ASz5_0, cSz5_0, HGz5, hgz5, HSz5_0⟩ := HI0.out
        have hcz5_0 := cellS60_0 HGz5
        have hcz5_1 := cellS60_1 HGz5
        have hcz5_2 := cellS60_2 HGz5
        have hfz5_1 := blk_frozen HGz5 1
        have hfz5_2 := blk_frozen HGz5 2
        clear HGz5 hgz5
        have p159 : 0 ≤ (s0_1 : Int) := of_decide_eq_true (by first | (with_reducible assumption) | assumption)
        have q159 : s0_1 < (s0_0.length : Int) := of_decide_eq_true (by first | (with_reducible assumption) | assumption)
        obtain ⟨ad159, e159, hx159_0⟩ := Kd.at_int HSz5_0 s0_1 p159 q159
        cases e159
        replace hx159_0 := pw_cell_below HB.out hx159_0
        replace p159 := eq_true p159
        replace q159 := eq_true q159
        go_enter Try.func68, Try.ntmps68
        go_wp2
        repeat (go_quiet (fail); try go_wp2)
        go_ret
        exact ⟨by first | rfl | (simp [errW_none, errW_some] <;> rfl) | (simp [*, errW_none, errW_some] <;> rfl), by repeat (first | (with_reducible first | exact HI0.out | apply IsS60.alloc | apply IsS60.drewN | apply IsS60.drew | apply IsS60.set_1 | apply IsS60.set_2) | exact HI0.out), by repeat (first | (with_reducible first | exact HB.out | apply below_alloc | apply pw_below_drewN | apply below_drew1 | refine below_set ?_ (IsS60.ge HI0.out)) | exact HB.out), by repeat (first | (with_reducible first | exact HK.out | apply KeepBut.set_ | apply keep_drewN | apply keep_drew | apply keep_alloc) | exact HK.out)⟩
      · rw [if_neg c4] at H
        have c4b0 : decide ((wrap64 (s0_1 + 1)) ≤ (s0_0.length : Int)) = false := decide_eq_false c4
        clear c4
        simp only [Option.some.injEq, Prod.mk.injEq] at H
        obtain ⟨rfl, rfl, rfl⟩ := H
        obtain ⟨ASz6_0, cSz6_0, HGz6, hgz6, HSz6_0⟩ := HI0.out
        have hcz6_0 := cellS60_0 HGz6
        have hcz6_1 := cellS60_1 HGz6
        have hcz6_2 := cellS60_2 HGz6
        have hfz6_1 := blk_frozen HGz6 1
        have hfz6_2 := blk_frozen HGz6 2
        clear HGz6 hgz6
        have p159 : 0 ≤ (s0_1 : Int) := of_decide_eq_true (by first | (with_reducible assumption) | assumption)
        have q159 : s0_1 < (s0_0.length : Int) := of_decide_eq_true (by first | (with_reducible assumption) | assumption)
        obtain ⟨ad159, e159, hx159_0⟩ := Kd.at_int HSz6_0 s0_1 p159 q159
        cases e159
        replace hx159_0 := pw_cell_below HB.out hx159_0
        replace p159 := eq_true p159
        replace q159 := eq_true q159
        go_enter Try.func68, Try.ntmps68
        go_wp2
        repeat (go_quiet (fail); try go_wp2)
        go_ret
        exact ⟨by first | rfl | (simp [errW_none, errW_some] <;> rfl) | (simp [*, errW_none, errW_some] <;> rfl), by repeat (first | (with_reducible first | exact HI0.out | apply IsS60.alloc | apply IsS60.drewN | apply IsS60.drew | apply IsS60.set_1 | apply IsS60.set_2) | exact HI0.out), by repeat (first | (with_reducible first | exact HB.out | apply below_alloc | apply pw_below_drewN | apply below_drew1 | refine below_set ?_ (IsS60.ge HI0.out)) | exact HB.out), by repeat (first | (with_reducible first | exact HK.out | apply KeepBut.set_ | apply keep_drewN | apply keep_drew | apply keep_alloc) | exact HK.out)⟩
    · rw [if_neg c3] at H
      exact absurd H (by simp)
  · rw [if_neg c2] at H
    have c2b0 : decide (s0_1 < (s0_0.length : Int)) = false := decide_eq_false c2
    clear c2
    by_cases c7 : (wrap64 (s0_1 + 1)) ≤ (s0_0.length : Int)
    · rw [if_pos c7] at H
      have c7b0 : decide ((wrap64 (s0_1 + 1)) ≤ (s0_0.length : Int)) = true := decide_eq_true c7
      clear c7
      simp only [Option.some.injEq, Prod.mk.injEq] at H
      obtain ⟨rfl, rfl, rfl⟩ := H
      obtain ⟨ASz8_0, cSz8_0, HGz8, hgz8, HSz8_0⟩ := HI0.out
      have hcz8_0 := cellS60_0 HGz8
      have hcz8_1 := cellS60_1 HGz8
      have hcz8_2 := cellS60_2 HGz8
      have hfz8_1 := blk_frozen HGz8 1
      have hfz8_2 := blk_frozen HGz8 2
      clear HGz8 hgz8
      go_enter Try.func68, Try.ntmps68
      go_wp2
      repeat (go_quiet (fail); try go_wp2)
      go_ret
      exact ⟨by first | rfl | (simp [errW_none, errW_some] <;> rfl) | (simp [*, errW_none, errW_some] <;> rfl), by repeat (first | (with_reducible first | exact HI0.out | apply IsS60.alloc | apply IsS60.drewN | apply IsS60.drew | apply IsS60.set_1 | apply IsS60.set_2) | exact HI0.out), by repeat (first | (with_reducible first | exact HB.out | apply below_alloc | apply pw_below_drewN | apply below_drew1 | refine below_set ?_ (IsS60.ge HI0.out)) | exact HB.out), by repeat (first | (with_reducible first | exact HK.out | apply KeepBut.set_ | apply keep_drewN | apply keep_drew | apply keep_alloc) | exact HK.out)⟩
    · rw [if_neg c7] at H
      have c7b0 : decide ((wrap64 (s0_1 + 1)) ≤ (s0_0.length : Int)) = false := decide_eq_false c7
      clear c7
      simp only [Option.some.injEq, Prod.mk.injEq] at H
      obtain ⟨rfl, rfl, rfl⟩ := H
      obtain ⟨ASz9_0, cSz9_0, HGz9, hgz9, HSz9_0⟩ := HI0.out
      have hcz9_0 := cellS60_0 HGz9
      have hcz9_1 := cellS60_1 HGz9
      have hcz9_2 := cellS60_2 HGz9
      have hfz9_1 := blk_frozen HGz9 1
      have hfz9_2 := blk_frozen HGz9 2
      clear HGz9 hgz9
      go_enter Try.func68, Try.ntmps68
      go_wp2
      repeat (go_quiet (fail); try go_wp2)
      go_ret
      exact ⟨by first | rfl | (simp [errW_none, errW_some] <;> rfl) | (simp [*, errW_none, errW_some] <;> rfl), by repeat (first | (with_reducible first | exact HI0.out | apply IsS60.alloc | apply IsS60.drewN | apply IsS60.drew | apply IsS60.set_1 | apply IsS60.set_2) | exact HI0.out), by repeat (first | (with_reducible first | exact HB.out | apply below_alloc | apply pw_below_drewN | apply below_drew1 | refine below_set ?_ (IsS60.ge HI0.out)) | exact HB.out), by repeat (first | (with_reducible first | exact HK.out | apply KeepBut.set_ | apply keep_drewN | apply keep_drew | apply keep_alloc) | exact HK.out)⟩

end Go.Proofs.Ytgjhomhfcifipaa.QS
