/- slices.SortStableFunc at []int, at fewer than 20 elements: the library's insertion sort, of the row as a whole. No conditions. -/
import Derived.Test.YtnbmplhcbliclaaX
import Derived.Test.YtnbmplhcbliclaaShelfS
import Derived.Test.YtnbmplhcbliclaaXSort
import Derived.Sort.LotA
namespace Go.Proofs.Ytnbmplhcbliclaa.XStable
open Go.RowKit Go.Sort Go.Lib Go.Proofs.YtnbmplhcbliclaaW.PrintWords
variable {α : Type} [Inhabited α]
set_option maxHeartbeats 4000000 in
set_option maxRecDepth 100000 in
theorem stable_calls (enc : α → Value) (hO : OneCell enc) (cf : α → α → Int) (g : Nat) (cb : Array Value) (blk off cap : Nat) (d : Array α) (w : World) (eg : ∀ args w, (callFunc g args).run Try.prog w = .ok (.enter g args) w) (hcmp : CmpReads Try.prog g cb enc cf blk off d.size w) (hH : Holds enc w blk off d) (h20 : d.size < 20) :
    Calls Try.prog 60 #[.slice (some ⟨blk, off, none⟩) d.size cap, .int .i64 d.size, .func (.func g) #[] cb] w fun e w' => e = .returned (.tuple #[]) ∧ ∃ n, w' = (putRow enc w blk off (Sort.insertionSort (ltOf cf) d 0 d.size)).drewN n := by
  have b1 : decide ((20 : Int) ≤ (d.size : Int)) = false := decide_eq_false (by omega)
  have b2 : decide ((20 : Int) < (d.size : Int)) = false := decide_eq_false (by omega)
  have HC := Aside0.mk hcmp
  have HH := Aside0.mk hH
  have HE := Aside0.mk eg
  have HS := Aside0.mk (show d.size < 4611686018427387904 by omega)
  clear hcmp hH eg h20
  go_enter Try.func60, Try.ntmps60
  go_wp2
  go_loopg [7, 8] 0 (fun kq v7 v8 w' => v7 = .int .i64 0 ∧ v8 = .int .i64 20 ∧ w' = w)
  case atStart => exact ⟨rfl, rfl, rfl⟩
  case round =>
    obtain ⟨rfl, rfl, rfl⟩ := hrel
    have hc := Try.insertionSortCmpFunc_one enc hO cf g cb blk off cap 0 d.size d wr HE.out HC.out HH.out (Nat.zero_le _) (Nat.le_refl _) HS.out
    rw [show ((0 : Nat) : Int) = 0 from rfl] at hc
    have HQ := Aside0.mk hc
    clear hc
    go_wp2_with (go_at_call 70; refine (HQ.out).mono ?_; rintro e w8 ⟨rfl, n8, hw8⟩; have HW := Aside0.mk hw8; clear hw8)
    go_loopg [6, 7, 8] 0 (fun kq v6 v7 v8 w' => v6 = .int .i64 20 ∧ w' = w8)
    case atStart => exact ⟨rfl, rfl⟩
    case round =>
      obtain ⟨rfl, rfl⟩ := hrel
      go_wp2
      first | go_end0 | ((try simp only [Exit.inBlock, Exit.then]); refine bodyPost_ret (results_none rfl _ _ _) rfl ?_)
      exact ⟨by first | rfl | (simp; done), n8, HW.out⟩
theorem sortStable_calls (enc : α → Value) (hO : OneCell enc) (cf : α → α → Int) (g : Nat) (cb : Array Value) (blk off cap : Nat) (d : Array α) (w : World) (eg : ∀ args w, (callFunc g args).run Try.prog w = .ok (.enter g args) w) (hcmp : CmpReads Try.prog g cb enc cf blk off d.size w) (hH : Holds enc w blk off d) (h20 : d.size < 20) :
    Calls Try.prog 41 #[.slice (some ⟨blk, off, none⟩) d.size cap, .func (.func g) #[] cb] w fun e w' => e = .returned (.tuple #[]) ∧ ∃ n, w' = (putRow enc w blk off (Sort.insertionSort (ltOf cf) d 0 d.size)).drewN n := by
  have HQ := Aside0.mk (stable_calls enc hO cf g cb blk off cap d w eg hcmp hH h20)
  clear hcmp hH eg h20
  go_enter Try.func41, Try.ntmps41
  go_wp2_with (go_at_call 60; refine (HQ.out).mono ?_; rintro e w8 ⟨rfl, n8, hw8⟩; have HW := Aside0.mk hw8; clear hw8)
  first | go_end0 | ((try simp only [Exit.inBlock, Exit.then]); refine bodyPost_ret (results_none rfl _ _ _) rfl ?_)
  exact ⟨by first | rfl | (simp; done), n8, HW.out⟩

theorem grown_put (enc : α → Value) (w : World) (blk n : Nat) (d : Array α) (os : Array Obj) : w.grownBy (grow (putRow enc (Sort.ahead w n) blk 0 d) os) (some blk) := by
  refine ⟨rfl, rfl, rfl, ?_, fun k hk hne => ?_⟩
  · simp [grow, putRow, mapBlock, Sort.ahead]
  · have hs : k < (putRow enc (Sort.ahead w n) blk 0 d).heap.size := by simp [putRow, mapBlock, Sort.ahead]; omega
    have hb : blk ≠ k := fun e => hne (by rw [e])
    simp only [grow]
    rw [Array.getElem?_append_left hs]
    simp [putRow, mapBlock, Sort.ahead, Array.getElem?_modify, hb]
def iota (n : Nat) : List Int := (List.range n).map (fun (j : Nat) => (j : Int))
theorem iota_length (n : Nat) : (iota n).length = n := by simp [iota]
def encF (n : Nat) (i : Fin n) : Value := .int .i64 ((i.val : Nat) : Int)
/-- The places of n things, sorted by the library's insertion sort. -/
def ordOf (n : Nat) [Inhabited (Fin n)] (cf : Fin n → Fin n → Int) : List Int := (Sort.insertionSort (ltOf cf) (Array.ofFn (fun i : Fin n => i)) 0 n).toList.map (fun i => ((i.val : Nat) : Int))
theorem put_enc (n : Nat) [Inhabited (Fin n)] (w : World) (blk : Nat) (d : Array (Fin n)) : putRow (encF n) w blk 0 d = putRow (Value.int .i64) w blk 0 (d.toList.map (fun i => ((i.val : Nat) : Int))).toArray := by
  unfold putRow
  congr 1
  funext c
  unfold putCells
  congr 1
  funext k x
  simp only [List.size_toArray, List.length_map, Array.length_toList]
  split
  · next h =>
    have hk : k - 0 < d.size := by omega
    rw [getElem!_pos d _ hk, getElem!_pos _ _ (by simpa using hk)]
    simp [encF]
  · rfl
theorem swo_of (n : Nat) (key : Fin n → Int) (cf : Fin n → Fin n → Int) (he : ∀ x y, cf x y < 0 ↔ key x < key y) : SWO (ltOf cf) := by
  have e : ∀ x y, ltOf cf x y = decide (key x < key y) := by
    intro x y
    unfold ltOf
    exact decide_eq_decide.2 (he x y)
  constructor <;> intros <;> simp only [e, decide_eq_true_eq, decide_eq_false_iff_not] at * <;> omega
theorem ord_length (n : Nat) [Inhabited (Fin n)] (cf : Fin n → Fin n → Int) (hlt : SWO (ltOf cf)) : (ordOf n cf).length = n := by
  have := (Sort.insertionSort_holds hlt (Array.ofFn (fun i : Fin n => i)) 0 n (Nat.zero_le _) (by simp)).1
  unfold ordOf
  have h2 := this.1
  simpa using h2
theorem row_calls (P0_ : Nat → Prop) (u : Value) (n : Nat) [Inhabited (Fin n)] (cf : Fin n → Fin n → Int) (hlt : SWO (ltOf cf)) (g : Nat) (cb : Array Value) (w0 w : World) (hB : Below w0.heap.size w0 w) (ho0 : Kd.R (Kd.int .i64) 3 w w0.heap.size P0_ u (iota n)) (hp : 0 < n) (h20 : n < 20)
    (eg : ∀ args w, (callFunc g args).run Try.prog w = .ok (.enter g args) w)
    (hcmp : ∀ W', Kept w W' (fun k_ => P0_ k_) → ∀ x y : Fin n, Calls Try.prog g (#[.int .i64 ((x.val : Nat) : Int), .int .i64 ((y.val : Nat) : Int)] ++ cb) W' fun e w' => e = .returned (.int .i64 (cf x y)) ∧ ∃ q, w' = W'.drewN q) :
    Calls Try.prog 41 #[u, .func (.func g) #[] cb] w fun e w' => e = .returned (.tuple #[]) ∧ Kd.R (Kd.int .i64) 3 w' w0.heap.size (fun k_ => (P0_ k_ ∨ w.heap.size ≤ k_)) u (ordOf n cf) ∧ Below w0.heap.size w0 w' ∧ Kept w w' (fun k_ => P0_ k_) := by
  have ho := Kd.R_mono (ok' := fun k_ => (P0_ k_ ∨ w.heap.size ≤ k_)) ho0 (fun k hk => .inl hk)
  obtain ⟨b, cap, rfl, hb, hblt, cells, hc⟩ := Kd.R_form ho (by rw [iota_length]; exact hp)
  have hsz : (Array.ofFn (fun i : Fin n => i)).size = n := by simp
  have hH : Holds (encF n) w b 0 (Array.ofFn (fun i : Fin n => i)) := by
    intro j hj
    have hj2 : j < n := by simpa using hj
    have h := XSort.holds_of ho j (by simpa [iota_length] using hj2)
    refine ⟨?_, h.2⟩
    rw [h.1, getElem!_pos (iota n).toArray j (by simpa [iota_length] using hj2), getElem!_pos (Array.ofFn (fun i : Fin n => i)) j hj]
    simp [encF, iota]
  have hC : CmpReads Try.prog g cb (encF n) cf b 0 (Array.ofFn (fun i : Fin n => i)).size w := by
    intro m os dk _ x y
    exact hcmp _ (XSort.kept_put (grown_put (encF n) w b m dk os) (ho0.1 b rfl)) x y
  have hlen : (iota n).length = (Array.ofFn (fun i : Fin n => i)).size := by rw [iota_length, hsz]
  rw [hlen]
  refine (sortStable_calls (encF n) (fun _ => rfl) cf g cb b 0 cap (Array.ofFn (fun i : Fin n => i)) w eg hC hH (by rw [hsz]; exact h20)).mono ?_
  rintro e w' ⟨rfl, m, rfl⟩
  have hord : (ordOf n cf).length = (iota n).length := by rw [ord_length n cf hlt, iota_length]
  have hw : (putRow (encF n) w b 0 (Sort.insertionSort (ltOf cf) (Array.ofFn (fun i : Fin n => i)) 0 (Array.ofFn (fun i : Fin n => i)).size)).drewN m = putRow (Value.int .i64) (Sort.ahead w m) b 0 (ordOf n cf).toArray := by
    rw [put_enc, hsz]
    rfl
  rw [hw]
  have hg := XSort.grown_put w b m (ordOf n cf).toArray #[]
  have h := XSort.R_putRow ho (d := ordOf n cf) hord (iota n).length (Nat.le_refl _) m #[]
  rw [List.take_of_length_le (by rw [hord]; exact Nat.le_refl _)] at h
  rw [grow_empty] at hg h
  rw [← hlen]
  exact ⟨rfl, h, XSort.below_put hB hg hb, XSort.kept_put hg (ho0.1 b rfl)⟩
end Go.Proofs.Ytnbmplhcbliclaa.XStable
