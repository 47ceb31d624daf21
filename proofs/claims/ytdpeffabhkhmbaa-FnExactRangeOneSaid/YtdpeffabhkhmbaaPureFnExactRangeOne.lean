/- The law FnExactRangeOne, as a statement about numbers and lists alone: the program and the reference make the same range of a number. It holds at every input. -/
import Derived.Test.YtdpeffabhkhmbaaPFnExactRangeOnex1
import Derived.Test.YtdpeffabhkhmbaaMath
namespace Go.Proofs.Ytdpeffabhkhmbaa.Pure
open Go Go.RowKit Go.Proofs.Ytdpeffabhkhmbaa.PFnExactRangeOne Go.Proofs.YtdpeffabhkhmbaaW.PrintWords Go.Proofs.YtdpeffabhkhmbaaW.PrintLast Go.Proofs.YtdpeffabhkhmbaaW.PrintMore Rg

theorem l1In_eq (a b c : Int) : spec_l1In.f a b c = some (decide (b ≤ a ∧ a ≤ c)) := by
  unfold spec_l1In.f
  by_cases h : a ≥ b
  · rw [if_pos h]; simp [show b ≤ a from h]
  · rw [if_neg h]; simp [show ¬ b ≤ a from h]

theorem within_eq (a b c : Int) : impl_within.f a b c = some (decide (b ≤ a ∧ a ≤ c)) := by
  unfold impl_within.f
  by_cases h : a ≥ b
  · rw [if_pos h]; simp [show b ≤ a from h]
  · rw [if_neg h]; simp [show ¬ b ≤ a from h]

theorem numOk_eq (a : Int) : impl_numOk.f a = some (decide (0 ≤ a ∧ a ≤ 4294967295)) := by
  unfold impl_numOk.f
  rw [within_eq]; rfl


theorem FnExactRangeOne : laws_FnExactRangeOne.Pure := by
  intro n _
  unfold laws_FnExactRangeOne.f spec_RangeOne.f impl_RangeOne.f spec_l2One.f impl_noRange.f
  simp only [numOk_eq, l1In_eq, Option.bind_some, decide_eq_true_eq]
  by_cases h : 0 ≤ n ∧ n ≤ 4294967295
  · rw [if_pos h]; simp [laws_eqRange.f]
  · rw [if_neg h]; simp [laws_eqRange.f]

end Go.Proofs.Ytdpeffabhkhmbaa.Pure
