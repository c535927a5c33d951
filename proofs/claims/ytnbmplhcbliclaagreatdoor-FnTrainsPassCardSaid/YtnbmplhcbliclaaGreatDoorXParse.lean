/- strings.Split, strings.Cut and impl.readNumber (strconv.Atoi), as the printed functions tell them: the library's contracts, turned; what they read of the library's variables is handed from world to world. No conditions. -/
import Derived.Test.YtnbmplhcbliclaaGreatDoorXText
import Derived.Test.YtnbmplhcbliclaaGreatDoorShelfP
namespace Go.Proofs.YtnbmplhcbliclaaGreatDoor.XText
open Go.RowKit Go.Proofs.YtnbmplhcbliclaaGreatDoorW.PrintWords
/-- What Atoi, Split and Cut read of the library's variables. -/
def T2 (w : World) : Prop := T1 w ∧ (∃ m : Int, w.cell? ⟨1, 0, none⟩ = some (.int .i64 m)) ∧ (∃ tp p, w.var? Tryz.prog "strconv.ErrSyntax" = some #[.iface tp p]) ∧ (∃ tp p, w.var? Tryz.prog "strconv.ErrRange" = some #[.iface tp p])
theorem T2.to1 {w : World} (h : T2 w) : T1 w := h.1
theorem var_below {w w' : World} {name : String} {cs : Array Value} (h : w.var? Tryz.prog name = some cs) (hb : Below w.heap.size w w') : w'.var? Tryz.prog name = some cs := by
  unfold World.var? at *
  cases hg : Tryz.prog.globalNamed name with
  | none => simp [hg] at h
  | some g =>
    simp only [hg, Option.bind_some] at h ⊢
    have hlt : g < w.heap.size := by
      rcases Nat.lt_or_ge g w.heap.size with h' | h'
      · exact h'
      · rw [Array.getElem?_eq_none h'] at h; simp at h
    rw [hb.block g hlt]
    exact h
theorem T2.on {w w' : World} (h : T2 w) (hb : Below w.heap.size w w') : T2 w' := by
  obtain ⟨h1, ⟨m, h2⟩, ⟨a, b, h3⟩, ⟨c, d, h4⟩⟩ := h
  exact ⟨h1.on hb, ⟨m, pw_cell_below hb h2⟩, ⟨a, b, var_below h3 hb⟩, ⟨c, d, var_below h4 hb⟩⟩
theorem split_calls (s sep : ByteArray) (w : World) (hs : s.size < 4294967281) (h1 : 1 ≤ sep.size) (hT : T2 w) :
    Calls Tryz.prog 64 #[.string s, .string sep] w fun e w' => ∃ v0_ : Value, e = .returned (v0_) ∧ Kd.R Kd.string 9 w' w.heap.size (fun _ => True) v0_ (Lib.splitB sep 0 (Lib.countB s sep) s) ∧ Below w.heap.size w w' := by
  obtain ⟨_, ⟨m, hm⟩, _⟩ := hT
  refine (Tryz.strings_Split s sep m w hs hm h1).mono ?_
  rintro e w' ⟨rfl, rfl⟩
  have hl := Lib.splitB_all sep h1 0 (Lib.countB s sep) s rfl
  refine ⟨_, rfl, ?_, below_alloc (Below.refl _ _) _⟩
  refine Kd.R_of_own (enc := Value.string) (h1 := fun _ => rfl) ?_ (fun _ _ => trivial)
  have hcl := Lib.countB_le sep h1 s.size s (Nat.le_refl _)
  refine ⟨by rw [encs_length, Nat.mul_one], .inr ⟨w.heap.size, Lib.countB s sep + 1, ((Lib.splitB sep 0 (Lib.countB s sep) s).map Value.string).toArray, by rw [hl], Nat.le_refl _, blk_new w _, by omega, by unfold maxLen; omega, by simp [hl], ?_⟩⟩
  rw [List.take_of_length_le (by simp)]
  rfl
/-- A number in decimal, without superfluous leading zeros. -/
def rdNum (s : ByteArray) : Int × Bool :=
  match Lib.atoiAll s.data.toList with
  | .ok v => if (⟨(Lib.itoa v).toArray⟩ : ByteArray).toList = s.toList then (v, true) else (0, false)
  | _ => (0, false)
set_option maxRecDepth 100000 in
theorem readNumber_calls (s : ByteArray) (w : World) (hs : s.size ≤ 281474976710656) (hT : T2 w) :
    Calls Tryz.prog 65 #[.string s] w fun e w' => e = .returned (.tuple #[.int .i64 (rdNum s).1, .bool (rdNum s).2]) ∧ Below w.heap.size w w' := by
  have HT := Aside0.mk hT
  obtain ⟨_, _, ⟨tp1, p1, hv1⟩, ⟨tp2, p2, hv2⟩⟩ := hT
  cases hc : Lib.atoiAll s.data.toList with
  | ok v =>
    have hb := Lib.atoiAll_bounds hc
    have HC := Aside0.mk (Tryz.strconv_Atoi_ok s (by omega) v hc w)
    by_cases he : (⟨(Lib.itoa v).toArray⟩ : ByteArray).toList = s.toList
    · have er : rdNum s = (v, true) := by unfold rdNum; rw [hc]; simp only [he, if_true]
      rw [er]
      have he0 : (Lib.itoa v == s.toList) = true := by simpa using he
      clear hv1 hv2 hc he er
      go_enter Tryz.func65, Tryz.ntmps65
      go_wp2_with (first | (go_at_call 74; refine (HC.out).mono ?_; rintro e w2 ⟨rfl, hw2⟩; have HB := Aside0.mk (show Below w.heap.size w w2 from by rcases hw2 with rfl | ⟨t, rfl⟩; exact Below.refl _ _; exact bytes_below (Below.refl _ _) (Nat.le_refl _) _ t); clear hw2) | (go_at_call 61; refine (itoa_calls v _ hb.1 hb.2 (T1.on (w := w) HT.out.1 HB.out)).mono ?_; rintro e w3 ⟨rfl, hb3⟩; have HB3 := Aside0.mk (below_step HB.out hb3); clear hb3))
      go_ret2
      exact ⟨by first | rfl | (simp; done), HB3.out⟩
    · have er : rdNum s = (0, false) := by unfold rdNum; rw [hc]; simp only [he, if_false]
      rw [er]
      have he0 : (Lib.itoa v == s.toList) = false := by simpa using he
      clear hv1 hv2 hc he er
      go_enter Tryz.func65, Tryz.ntmps65
      go_wp2_with (first | (go_at_call 74; refine (HC.out).mono ?_; rintro e w2 ⟨rfl, hw2⟩; have HB := Aside0.mk (show Below w.heap.size w w2 from by rcases hw2 with rfl | ⟨t, rfl⟩; exact Below.refl _ _; exact bytes_below (Below.refl _ _) (Nat.le_refl _) _ t); clear hw2) | (go_at_call 61; refine (itoa_calls v _ hb.1 hb.2 (T1.on (w := w) HT.out.1 HB.out)).mono ?_; rintro e w3 ⟨rfl, hb3⟩; have HB3 := Aside0.mk (below_step HB.out hb3); clear hb3))
      go_ret2
      exact ⟨by first | rfl | (simp; done), HB3.out⟩
  | range =>
    have HC := Aside0.mk (Tryz.strconv_Atoi_range_var s hs hc tp2 p2 w hv2)
    have er : rdNum s = (0, false) := by unfold rdNum; rw [hc]
    rw [er]
    clear hv1 hv2 hc er
    go_enter Tryz.func65, Tryz.ntmps65
    go_wp2_with (go_at_call 74; refine (HC.out).mono ?_; rintro e w2 ⟨N_, rfl, _, _, hw2⟩; have HB := Aside0.mk hw2; clear hw2)
    go_ret2
    exact ⟨by first | rfl | (simp; done), HB.out⟩
  | _ =>
    have HC := Aside0.mk (show Calls Tryz.prog 74 #[.string s] w fun e w' => ∃ N, e = .returned (.tuple #[.int .i64 0, .iface 112 (.pointer (some ⟨N, 0, none⟩))]) ∧ w.heap.size ≤ N ∧ w'.heap[N]? = some (.cells #[.string ⟨#[65, 116, 111, 105]⟩, .string s, .iface tp1 p1] 124 (0, 0)) ∧ Below w.heap.size w w' from Any.strconv_Atoi_syntax_var Tryz.laysC172 s hs hc tp1 p1 w hv1)
    have er : rdNum s = (0, false) := by unfold rdNum; rw [hc]
    rw [er]
    clear hv1 hv2 hc er
    go_enter Tryz.func65, Tryz.ntmps65
    go_wp2_with (go_at_call 74; refine (HC.out).mono ?_; rintro e w2 ⟨N_, rfl, _, _, hw2⟩; have HB := Aside0.mk hw2; clear hw2)
    go_ret2
    exact ⟨by first | rfl | (simp; done), HB.out⟩
end Go.Proofs.YtnbmplhcbliclaaGreatDoor.XText
