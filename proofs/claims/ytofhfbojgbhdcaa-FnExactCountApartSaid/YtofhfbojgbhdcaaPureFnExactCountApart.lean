/- The program's CountApart returns what the reference's CountApart returns, for all arguments. No conditions. -/
import Derived.Test.YtofhfbojgbhdcaaPFnExactCountApartx1
namespace Go.Proofs.Ytofhfbojgbhdcaa.Pure
open Go.RowKit Go.Proofs.Ytofhfbojgbhdcaa.PFnExactCountApart Go.Proofs.YtofhfbojgbhdcaaW.PrintWords Go.Proofs.YtofhfbojgbhdcaaW.PrintLast Go.Proofs.YtofhfbojgbhdcaaW.PrintMore

theorem in_eq (a b c : Int) : spec_l1In.f a b c = some (decide (b ≤ a ∧ a ≤ c)) := by
  unfold spec_l1In.f
  by_cases h : a ≥ b
  · rw [if_pos h]; congr 1; simp; omega
  · rw [if_neg h]; congr 1; simp; omega
theorem within_eq (a b c : Int) : impl_within.f a b c = some (decide (b ≤ a ∧ a ≤ c)) := by
  unfold impl_within.f
  by_cases h : a ≥ b
  · rw [if_pos h]; congr 1; simp; omega
  · rw [if_neg h]; congr 1; simp; omega
theorem most_eq (a b : Int) : spec_l1Most.f a b = some (if a > b then a else b) := by
  unfold spec_l1Most.f; split <;> rfl
theorem FnExactCountApart : laws_FnExactCountApart.Pure := by
  intro m a _ _
  refine ⟨2, ?_⟩
  unfold laws_FnExactCountApart.f spec_CountApart.f impl_CountApart.f impl_isMoments.f
  simp only [in_eq, within_eq, Option.bind_some]
  by_cases hm : 1 ≤ m ∧ m ≤ 200
  · by_cases ha : 0 ≤ a ∧ a ≤ 200
    · simp only [hm, ha, and_self, decide_true, if_true, spec_CountApart.j0, impl_CountApart.j0, Bool.not_true, Bool.false_eq_true, if_false, most_eq, Option.bind_some]
      by_cases h0 : a = 0
      · simp [h0]
      · have e : (if (0 : Int) > wrap64 (m - a) then (0 : Int) else wrap64 (m - a)) = mx 0 (wrap64 (m - a)) := by
          unfold mx; split <;> split <;> omega
        simp [h0, e]
    · simp [hm, ha, spec_CountApart.j0, impl_CountApart.j0]
  · simp [hm, spec_CountApart.j0, impl_CountApart.j0]
end Go.Proofs.Ytofhfbojgbhdcaa.Pure
