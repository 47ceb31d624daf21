/- The law FnExactRangeOk, as a statement about numbers and lists alone: the program and the reference call the same ranges ok. It holds at every input. -/
import Derived.Test.YtdpeffabhkhmbaaPFnExactRangeOkx3
import Derived.Test.YtdpeffabhkhmbaaMath
namespace Go.Proofs.Ytdpeffabhkhmbaa.Pure
open Go Go.RowKit Go.Proofs.Ytdpeffabhkhmbaa.PFnExactRangeOk Go.Proofs.YtdpeffabhkhmbaaW.PrintWords Go.Proofs.YtdpeffabhkhmbaaW.PrintLast Go.Proofs.YtdpeffabhkhmbaaW.PrintMore Rg

theorem l1In_eq (a b c : Int) : spec_l1In.f a b c = some (decide (b ≤ a ∧ a ≤ c)) := by
  unfold spec_l1In.f
  by_cases h : a ≥ b
  · rw [if_pos h]; simp [show b ≤ a from h]
  · rw [if_neg h]; simp [show ¬ b ≤ a from h]

theorem within_eq (a b c : Int) : impl_within.f a b c = some (decide (b ≤ a ∧ a ≤ c)) := by
  unfold impl_within.f
  by_cases h : a ≥ b
  · rw [if_pos h]; simp [show b ≤ a from h]
  · rw [if_neg h]; simp [show ¬ b ≤ a from h]

theorem numOk_eq (a : Int) : impl_numOk.f a = some (decide (0 ≤ a ∧ a ≤ 4294967295)) := by
  unfold impl_numOk.f
  rw [within_eq]; rfl


theorem l2Ok_eq (a b c d : Int) : spec_l2Ok.f a b c d = some (decide (okI a b c d)) := by
  unfold spec_l2Ok.f
  simp only [l1In_eq, Option.bind_some, decide_eq_true_eq]
  by_cases h : okI a b c d
  · have h' := h
    obtain ⟨h1, h2, h3, h4, h5, h6, h7, h8⟩ := h'
    rw [if_pos ⟨h1, h2⟩, if_pos h3, if_pos ⟨h4, h5⟩, if_pos ⟨h6, h7⟩, and_zero_i h4 h5 h6 h7, decide_eq_true h8, decide_eq_true h]
  · rw [decide_eq_false h]
    by_cases c1 : 0 ≤ a ∧ a ≤ b
    · rw [if_pos c1]
      by_cases c2 : b ≤ 4294967295
      · rw [if_pos c2]
        by_cases c3 : 0 ≤ c ∧ c ≤ 4294967295
        · rw [if_pos c3]
          by_cases c4 : 0 ≤ d ∧ d ≤ 4294967295
          · rw [if_pos c4, and_zero_i c3.1 c3.2 c4.1 c4.2]
            rw [decide_eq_false]
            intro e
            exact h ⟨c1.1, c1.2, c2, c3.1, c3.2, c4.1, c4.2, e⟩
          · rw [if_neg c4]
        · rw [if_neg c3]
      · rw [if_neg c2]
    · rw [if_neg c1]

theorem implOk_eq (a b c d : Int) : impl_RangeOk.f a b c d = some (decide (okI a b c d)) := by
  unfold impl_RangeOk.f
  simp only [numOk_eq, within_eq, Option.bind_some, decide_eq_true_eq]
  by_cases h : okI a b c d
  · have h' := h
    obtain ⟨h1, h2, h3, h4, h5, h6, h7, h8⟩ := h'
    rw [if_pos ⟨h1, by omega⟩, if_pos ⟨h2, h3⟩, if_pos ⟨h4, h5⟩, if_pos ⟨h6, h7⟩, and_zero_i h4 h5 h6 h7, decide_eq_true h8, decide_eq_true h]
  · rw [decide_eq_false h]
    by_cases c1 : 0 ≤ a ∧ a ≤ 4294967295
    · rw [if_pos c1]
      by_cases c2 : a ≤ b ∧ b ≤ 4294967295
      · rw [if_pos c2]
        by_cases c3 : 0 ≤ c ∧ c ≤ 4294967295
        · rw [if_pos c3]
          by_cases c4 : 0 ≤ d ∧ d ≤ 4294967295
          · rw [if_pos c4, and_zero_i c3.1 c3.2 c4.1 c4.2]
            rw [decide_eq_false]
            intro e
            exact h ⟨c1.1, c2.1, c2.2, c3.1, c3.2, c4.1, c4.2, e⟩
          · rw [if_neg c4]
        · rw [if_neg c3]
      · rw [if_neg c2]
    · rw [if_neg c1]

theorem FnExactRangeOk : laws_FnExactRangeOk.Pure := by
  intro a b c d _ _ _ _
  unfold laws_FnExactRangeOk.f laws_toRange.f spec_RangeOk.f
  simp [l2Ok_eq, implOk_eq]

end Go.Proofs.Ytdpeffabhkhmbaa.Pure
