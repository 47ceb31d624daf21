/- The law FnExactRangeHolds, as a statement about numbers and lists alone: the program and the reference tell alike whether an op that asks holds. It holds at every input. -/
import Derived.Test.YtdpeffabhkhmbaaPFnExactRangeHoldsx1
import Derived.Test.YtdpeffabhkhmbaaMath
namespace Go.Proofs.Ytdpeffabhkhmbaa.Pure
open Go Go.RowKit Go.Proofs.Ytdpeffabhkhmbaa.PFnExactRangeHolds Go.Proofs.YtdpeffabhkhmbaaW.PrintWords Go.Proofs.YtdpeffabhkhmbaaW.PrintLast Go.Proofs.YtdpeffabhkhmbaaW.PrintMore Rg

theorem l1In_eq (a b c : Int) : spec_l1In.f a b c = some (decide (b ≤ a ∧ a ≤ c)) := by
  unfold spec_l1In.f
  by_cases h : a ≥ b
  · rw [if_pos h]; simp [show b ≤ a from h]
  · rw [if_neg h]; simp [show ¬ b ≤ a from h]

theorem within_eq (a b c : Int) : impl_within.f a b c = some (decide (b ≤ a ∧ a ≤ c)) := by
  unfold impl_within.f
  by_cases h : a ≥ b
  · rw [if_pos h]; simp [show b ≤ a from h]
  · rw [if_neg h]; simp [show ¬ b ≤ a from h]

theorem numOk_eq (a : Int) : impl_numOk.f a = some (decide (0 ≤ a ∧ a ≤ 4294967295)) := by
  unfold impl_numOk.f
  rw [within_eq]; rfl


theorem FnExactRangeHolds : laws_FnExactRangeHolds.Pure := by
  intro op a b _ _ _
  unfold laws_FnExactRangeHolds.f spec_RangeHolds.f impl_RangeHolds.f spec_l1Jump.f impl_kind_asks.f
  simp only [numOk_eq, l1In_eq, within_eq, Option.bind_some, decide_eq_true_eq]
  by_cases h1 : 12 ≤ op ∧ op ≤ 15
  · by_cases h2 : 0 ≤ a ∧ a ≤ 4294967295
    · by_cases h3 : 0 ≤ b ∧ b ≤ 4294967295
      · simp only [if_pos h1, if_pos h2, if_pos h3]
        have : impl_holds.f op a b = spec_l2Holds.f op a b := rfl
        rw [this]
        unfold spec_l2Holds.f
        repeat' split
        all_goals simp
      · simp only [if_pos h1, if_pos h2, if_neg h3]; rfl
    · simp only [if_pos h1, if_neg h2]; rfl
  · simp only [if_neg h1]; rfl

end Go.Proofs.Ytdpeffabhkhmbaa.Pure
