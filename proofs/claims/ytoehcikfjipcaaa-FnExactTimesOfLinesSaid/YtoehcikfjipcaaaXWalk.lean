/- Words for a law's walk along its one good way: each row that was made has its blocks between two sizes of the memory. No conditions. -/
import Derived.Test.YtoehcikfjipcaaaX
set_option linter.unusedVariables false
namespace Go.Proofs.Ytoehcikfjipcaaa.XWalk
open Go.RowKit Go.Proofs.YtoehcikfjipcaaaW.PrintWords
variable {α : Type} {d : Kd α} {e : Nat} {w wp W w' : World} {v : Value} {r : List α}
theorem bornS (hb : Below W.heap.size W w') (ho : Kd.S d e w' W.heap.size (fun _ => True) v r) (hW : w.heap.size ≤ W.heap.size) : ∃ n m, n = W.heap.size ∧ m = w'.heap.size ∧ Kd.S d e w' w.heap.size (fun k => n ≤ k ∧ k < m) v r :=
  ⟨_, _, rfl, rfl, Kd.S_lower (Kd.S_mono (Kd.S_bound ho) (fun _ hk => ⟨hk.2.1, hk.2.2.1⟩)) hW⟩
theorem bornR (hb : Below W.heap.size W w') (ho : d.R e w' W.heap.size (fun _ => True) v r) (hW : w.heap.size ≤ W.heap.size) : ∃ n m, n = W.heap.size ∧ m = w'.heap.size ∧ d.R e w' w.heap.size (fun k => n ≤ k ∧ k < m) v r :=
  ⟨_, _, rfl, rfl, Kd.R_lower (Kd.R_mono (Kd.R_bound ho) (fun _ hk => ⟨hk.2.1, hk.2.2.1⟩)) hW⟩
theorem upB (hb : Below W.heap.size W w') (h : Below wp.heap.size wp W) : wp.heap.size ≤ W.heap.size ∧ W.heap.size ≤ w'.heap.size := ⟨h.size, hb.size⟩
theorem upK {S : Nat → Prop} (hk : Kept W w' S) (h : Below wp.heap.size wp W) : wp.heap.size ≤ W.heap.size ∧ W.heap.size ≤ w'.heap.size := ⟨h.size, hk.1⟩
theorem apart {n m n' m' k : Nat} (h1 : n ≤ k ∧ k < m) (h2 : n' ≤ k ∧ k < m') (h : m ≤ n' ∨ m' ≤ n) : False := by omega
end Go.Proofs.Ytoehcikfjipcaaa.XWalk
