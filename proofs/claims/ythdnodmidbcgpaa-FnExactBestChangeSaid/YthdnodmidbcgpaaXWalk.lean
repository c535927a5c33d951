/- Words for a law's walk along its one good way: each row that was made has its blocks between two sizes of the memory. No conditions. -/
import Derived.Test.YthdnodmidbcgpaaX
set_option linter.unusedVariables false
namespace Go.Proofs.Ythdnodmidbcgpaa.XWalk
open Go.RowKit Go.Proofs.YthdnodmidbcgpaaW.PrintWords
variable {α : Type} {d : Kd α} {e : Nat} {w wp W w' : World} {v : Value} {r : List α}
theorem bornS (hb : Below W.heap.size W w') (ho : Kd.S d e w' W.heap.size (fun _ => True) v r) (hW : w.heap.size ≤ W.heap.size) : ∃ n m, n = W.heap.size ∧ m = w'.heap.size ∧ Kd.S d e w' w.heap.size (fun k => n ≤ k ∧ k < m) v r :=
 ⟨_, _, rfl, rfl, Kd.S_lower (Kd.S_mono (Kd.S_bound ho) (fun _ hk => ⟨hk.2.1, hk.2.2.1⟩)) hW⟩
theorem bornR (hb : Below W.heap.size W w') (ho : d.R e w' W.heap.size (fun _ => True) v r) (hW : w.heap.size ≤ W.heap.size) : ∃ n m, n = W.heap.size ∧ m = w'.heap.size ∧ d.R e w' w.heap.size (fun k => n ≤ k ∧ k < m) v r :=
 ⟨_, _, rfl, rfl, Kd.R_lower (Kd.R_mono (Kd.R_bound ho) (fun _ hk => ⟨hk.2.1, hk.2.2.1⟩)) hW⟩
theorem upB (hb : Below W.heap.size W w') (h : Below wp.heap.size wp W) : wp.heap.size ≤ W.heap.size ∧ W.heap.size ≤ w'.heap.size := ⟨h.size, hb.size⟩
theorem upK {S : Nat → Prop} (hk : Kept W w' S) (h : Below wp.heap.size wp W) : wp.heap.size ≤ W.heap.size ∧ W.heap.size ≤ w'.heap.size := ⟨h.size, hk.1⟩
theorem apart {n m n' m' k : Nat} (h1 : n ≤ k ∧ k < m) (h2 : n' ≤ k ∧ k < m') (h : m ≤ n' ∨ m' ≤ n) : False := by omega
variable {base : Nat} {ok : Nat → Prop} {g : Nat} {a b c d' : Value}
theorem ne4 {n m k g : Nat} (h : n ≤ k ∧ k < m) (o : m ≤ g ∨ g + 1 ≤ n) : k ≠ g := by omega
theorem far4R (h : d.R e W base ok v r) (hw : w' = (((W.setCell ⟨g, 0, none⟩ a).setCell ⟨g, 1, none⟩ b).setCell ⟨g, 2, none⟩ c).setCell ⟨g, 3, none⟩ d') (hne : ∀ k, ok k → k ≠ g) : d.R e w' base ok v r := by
 subst hw
 exact Kd.R_far (p := ⟨g, 3, none⟩) (Kd.R_far (p := ⟨g, 2, none⟩) (Kd.R_far (p := ⟨g, 1, none⟩) (Kd.R_far (p := ⟨g, 0, none⟩) h hne _) hne _) hne _) hne _
theorem far4B {g' : Nat} {cs : Array Value} {t : TypeId} (h : W.heap[g']? = some (.cells cs t (0, 0))) (hw : w' = (((W.setCell ⟨g, 0, none⟩ a).setCell ⟨g, 1, none⟩ b).setCell ⟨g, 2, none⟩ c).setCell ⟨g, 3, none⟩ d') (hne : g' ≠ g) : w'.heap[g']? = some (.cells cs t (0, 0)) := by
 subst hw
 exact blk_far (p := ⟨g, 3, none⟩) (blk_far (p := ⟨g, 2, none⟩) (blk_far (p := ⟨g, 1, none⟩) (blk_far (p := ⟨g, 0, none⟩) h hne _) hne _) hne _) hne _
theorem put4 {z0 z1 z2 z3 : Value} {t : TypeId} (h : W.heap[g]? = some (.cells #[z0, z1, z2, z3] t (0, 0))) (hw : w' = (((W.setCell ⟨g, 0, none⟩ a).setCell ⟨g, 1, none⟩ b).setCell ⟨g, 2, none⟩ c).setCell ⟨g, 3, none⟩ d') : w'.heap[g]? = some (.cells #[a, b, c, d'] t (0, 0)) := by
 subst hw
 exact blk_put (cs := #[a, b, c, z3]) (blk_put (cs := #[a, b, z2, z3]) (blk_put (cs := #[a, z1, z2, z3]) (blk_put (cs := #[z0, z1, z2, z3]) h 0 _ rfl) 1 _ rfl) 2 _ rfl) 3 _ rfl
theorem size4 {m : Nat} (h : m ≤ W.heap.size) (hw : w' = (((W.setCell ⟨g, 0, none⟩ a).setCell ⟨g, 1, none⟩ b).setCell ⟨g, 2, none⟩ c).setCell ⟨g, 3, none⟩ d') : m ≤ w'.heap.size := by
 subst hw
 simpa [World.setCell] using h
theorem below4 (h : Below w.heap.size w W) (hg : w.heap.size ≤ g) (hw : w' = (((W.setCell ⟨g, 0, none⟩ a).setCell ⟨g, 1, none⟩ b).setCell ⟨g, 2, none⟩ c).setCell ⟨g, 3, none⟩ d') : Below w.heap.size w w' := by
 subst hw
 exact below_set (below_set (below_set (below_set h hg) hg) hg) hg
end Go.Proofs.Ythdnodmidbcgpaa.XWalk
