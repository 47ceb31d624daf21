/- The law FnExactRangeHas, as a statement about numbers and lists alone: the program and the reference tell alike whether a number is of a range. It holds at every input. -/
import Derived.Test.YtdpeffabhkhmbaaPFnExactRangeHasx3
import Derived.Test.YtdpeffabhkhmbaaMath
namespace Go.Proofs.Ytdpeffabhkhmbaa.Pure
open Go Go.RowKit Go.Proofs.Ytdpeffabhkhmbaa.PFnExactRangeHas Go.Proofs.YtdpeffabhkhmbaaW.PrintWords Go.Proofs.YtdpeffabhkhmbaaW.PrintLast Go.Proofs.YtdpeffabhkhmbaaW.PrintMore Rg

theorem l1In_eq (a b c : Int) : spec_l1In.f a b c = some (decide (b ≤ a ∧ a ≤ c)) := by
  unfold spec_l1In.f
  by_cases h : a ≥ b
  · rw [if_pos h]; simp [show b ≤ a from h]
  · rw [if_neg h]; simp [show ¬ b ≤ a from h]

theorem within_eq (a b c : Int) : impl_within.f a b c = some (decide (b ≤ a ∧ a ≤ c)) := by
  unfold impl_within.f
  by_cases h : a ≥ b
  · rw [if_pos h]; simp [show b ≤ a from h]
  · rw [if_neg h]; simp [show ¬ b ≤ a from h]

theorem numOk_eq (a : Int) : impl_numOk.f a = some (decide (0 ≤ a ∧ a ≤ 4294967295)) := by
  unfold impl_numOk.f
  rw [within_eq]; rfl


theorem l2Ok_eq (a b c d : Int) : spec_l2Ok.f a b c d = some (decide (okI a b c d)) := by
  unfold spec_l2Ok.f
  simp only [l1In_eq, Option.bind_some, decide_eq_true_eq]
  by_cases h : okI a b c d
  · have h' := h
    obtain ⟨h1, h2, h3, h4, h5, h6, h7, h8⟩ := h'
    rw [if_pos ⟨h1, h2⟩, if_pos h3, if_pos ⟨h4, h5⟩, if_pos ⟨h6, h7⟩, and_zero_i h4 h5 h6 h7, decide_eq_true h8, decide_eq_true h]
  · rw [decide_eq_false h]
    by_cases c1 : 0 ≤ a ∧ a ≤ b
    · rw [if_pos c1]
      by_cases c2 : b ≤ 4294967295
      · rw [if_pos c2]
        by_cases c3 : 0 ≤ c ∧ c ≤ 4294967295
        · rw [if_pos c3]
          by_cases c4 : 0 ≤ d ∧ d ≤ 4294967295
          · rw [if_pos c4, and_zero_i c3.1 c3.2 c4.1 c4.2]
            rw [decide_eq_false]
            intro e
            exact h ⟨c1.1, c1.2, c2, c3.1, c3.2, c4.1, c4.2, e⟩
          · rw [if_neg c4]
        · rw [if_neg c3]
      · rw [if_neg c2]
    · rw [if_neg c1]

theorem implOk_eq (a b c d : Int) : impl_RangeOk.f a b c d = some (decide (okI a b c d)) := by
  unfold impl_RangeOk.f
  simp only [numOk_eq, within_eq, Option.bind_some, decide_eq_true_eq]
  by_cases h : okI a b c d
  · have h' := h
    obtain ⟨h1, h2, h3, h4, h5, h6, h7, h8⟩ := h'
    rw [if_pos ⟨h1, by omega⟩, if_pos ⟨h2, h3⟩, if_pos ⟨h4, h5⟩, if_pos ⟨h6, h7⟩, and_zero_i h4 h5 h6 h7, decide_eq_true h8, decide_eq_true h]
  · rw [decide_eq_false h]
    by_cases c1 : 0 ≤ a ∧ a ≤ 4294967295
    · rw [if_pos c1]
      by_cases c2 : a ≤ b ∧ b ≤ 4294967295
      · rw [if_pos c2]
        by_cases c3 : 0 ≤ c ∧ c ≤ 4294967295
        · rw [if_pos c3]
          by_cases c4 : 0 ≤ d ∧ d ≤ 4294967295
          · rw [if_pos c4, and_zero_i c3.1 c3.2 c4.1 c4.2]
            rw [decide_eq_false]
            intro e
            exact h ⟨c1.1, c2.1, c2.2, c3.1, c3.2, c4.1, c4.2, e⟩
          · rw [if_neg c4]
        · rw [if_neg c3]
      · rw [if_neg c2]
    · rw [if_neg c1]

theorem has_iff {r : R} {m : Nat} : r.has m ↔ ((r.lo : Int) ≤ m ∧ (m : Int) ≤ r.hi) ∧ andn m r.op = r.bt := by
  unfold R.has
  constructor
  · rintro ⟨h1, h2, h3⟩; exact ⟨⟨by omega, by omega⟩, h3⟩
  · rintro ⟨⟨h1, h2⟩, h3⟩; exact ⟨by omega, by omega, h3⟩

theorem implHas_eq {r : R} (h : r.ok) (m : Nat) : impl_Range_has.f r.lo r.hi r.bt r.op m = some (decide (r.has m)) := by
  unfold impl_Range_has.f
  simp only [within_eq, Option.bind_some, decide_eq_true_eq]
  obtain ⟨h1, h2, h3, h4, h5⟩ := h
  by_cases c : (r.lo : Int) ≤ m ∧ (m : Int) ≤ r.hi
  · rw [if_pos c, bandn (by omega) (by omega)]
    by_cases e : andn m r.op = r.bt
    · rw [e, decide_eq_true (has_iff.2 ⟨c, e⟩)]; simp
    · have : ¬ r.has m := fun x => e (has_iff.1 x).2
      rw [decide_eq_false this]; simp; omega
  · have : ¬ r.has m := fun x => c (has_iff.1 x).1
    rw [if_neg c, decide_eq_false this]

theorem l2Has_eq {r : R} (h : r.ok) (m : Nat) : spec_l2Has.f r.lo r.hi r.bt r.op m = some (decide (r.has m)) := by
  obtain ⟨h1, h2, h3, h4, h5⟩ := h
  unfold spec_l2Has.f
  by_cases c1 : (m : Int) ≥ r.lo
  · rw [if_pos c1]
    by_cases c2 : (m : Int) ≤ r.hi
    · have hm : m < 2 ^ 32 := by omega
      rw [if_pos c2]
      try simp only [Option.bind_some]
      rw [show (4294967295 : Int) = ((4294967295 : Nat) : Int) from rfl, bxor (by decide) (i32 h4), band (i32 hm) (flip63 (i32 h4)), flip_and hm]
      by_cases e : andn m r.op = r.bt
      · rw [e, decide_eq_true (has_iff.2 ⟨⟨c1, c2⟩, e⟩)]; simp
      · have : ¬ r.has m := fun x => e (has_iff.1 x).2
        rw [decide_eq_false this]; simp; omega
    · have : ¬ r.has m := fun x => c2 (has_iff.1 x).1.2
      rw [if_neg c2, decide_eq_false this]
  · have : ¬ r.has m := fun x => c1 (has_iff.1 x).1.1
    rw [if_neg c1, decide_eq_false this]

theorem FnExactRangeHas : laws_FnExactRangeHas.Pure := by
  intro a b c d n _ _ _ _ _
  unfold laws_FnExactRangeHas.f laws_toRange.f spec_RangeHas.f impl_RangeHas.f
  simp only [l2Ok_eq, implOk_eq, Option.bind_some, decide_eq_true_eq, l1In_eq]
  by_cases h : okI a b c d
  · rw [if_pos h, if_pos h]
    obtain ⟨r, hr, rfl, rfl, rfl, rfl⟩ := okI_some h
    have hr' := hr
    obtain ⟨h1, h2, _⟩ := hr'
    by_cases c0 : 0 ≤ n ∧ n ≤ 4294967295
    · rw [if_pos c0]
      obtain ⟨m, rfl⟩ := Int.eq_ofNat_of_zero_le c0.1
      rw [l2Has_eq hr, implHas_eq hr]; simp
    · rw [if_neg c0]
      unfold impl_Range_has.f
      rw [within_eq]
      simp only [Option.bind_some, decide_eq_true_eq]
      rw [if_neg (by omega)]; rfl
  · rw [if_neg h, if_neg h]; rfl

end Go.Proofs.Ytdpeffabhkhmbaa.Pure
