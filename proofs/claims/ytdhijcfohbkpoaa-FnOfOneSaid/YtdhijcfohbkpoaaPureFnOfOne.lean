/- The law FnOfOne, as a statement about numbers and lists alone: of two numbers that are known what an op makes is known, whatever bytes are drawn from. It holds at every input. -/
import Derived.Test.YtdhijcfohbkpoaaQ23
import Derived.Test.YtdhijcfohbkpoaaMath
namespace Go.Proofs.Ytdhijcfohbkpoaa.Pure
open Go Go.RowKit Go.Proofs.Ytdhijcfohbkpoaa.Q Go.Proofs.YtdhijcfohbkpoaaW.PrintWords Go.Proofs.YtdhijcfohbkpoaaW.PrintLast Go.Proofs.YtdhijcfohbkpoaaW.PrintMore Rg

theorem l1In_eq (a b c : Int) : spec_l1In.f a b c = some (decide (b ≤ a ∧ a ≤ c)) := by
  unfold spec_l1In.f
  by_cases h : a ≥ b
  · rw [if_pos h]; simp [show b ≤ a from h]
  · rw [if_neg h]; simp [show ¬ b ≤ a from h]
theorem within_eq (a b c : Int) : impl_within.f a b c = some (decide (b ≤ a ∧ a ≤ c)) := by
  unfold impl_within.f
  by_cases h : a ≥ b
  · rw [if_pos h]; simp [show b ≤ a from h]
  · rw [if_neg h]; simp [show ¬ b ≤ a from h]
theorem numOk_eq (a : Int) : impl_numOk.f a = some (decide (0 ≤ a ∧ a ≤ 4294967295)) := by
  unfold impl_numOk.f
  rw [within_eq]; rfl
theorem l2Ok_eq (a b c d : Int) : spec_l2Ok.f a b c d = some (decide (okI a b c d)) := by
  unfold spec_l2Ok.f
  simp only [l1In_eq, Option.bind_some, decide_eq_true_eq]
  by_cases h : okI a b c d
  · have h' := h
    obtain ⟨h1, h2, h3, h4, h5, h6, h7, h8⟩ := h'
    rw [if_pos ⟨h1, h2⟩, if_pos h3, if_pos ⟨h4, h5⟩, if_pos ⟨h6, h7⟩, and_zero_i h4 h5 h6 h7, decide_eq_true h8, decide_eq_true h]
  · rw [decide_eq_false h]
    by_cases c1 : 0 ≤ a ∧ a ≤ b
    · rw [if_pos c1]
      by_cases c2 : b ≤ 4294967295
      · rw [if_pos c2]
        by_cases c3 : 0 ≤ c ∧ c ≤ 4294967295
        · rw [if_pos c3]
          by_cases c4 : 0 ≤ d ∧ d ≤ 4294967295
          · rw [if_pos c4, and_zero_i c3.1 c3.2 c4.1 c4.2]
            rw [decide_eq_false]
            intro e
            exact h ⟨c1.1, c1.2, c2, c3.1, c3.2, c4.1, c4.2, e⟩
          · rw [if_neg c4]
        · rw [if_neg c3]
      · rw [if_neg c2]
    · rw [if_neg c1]
theorem implOk_eq (a b c d : Int) : impl_RangeOk.f a b c d = some (decide (okI a b c d)) := by
  unfold impl_RangeOk.f
  simp only [numOk_eq, within_eq, Option.bind_some, decide_eq_true_eq]
  by_cases h : okI a b c d
  · have h' := h
    obtain ⟨h1, h2, h3, h4, h5, h6, h7, h8⟩ := h'
    rw [if_pos ⟨h1, by omega⟩, if_pos ⟨h2, h3⟩, if_pos ⟨h4, h5⟩, if_pos ⟨h6, h7⟩, and_zero_i h4 h5 h6 h7, decide_eq_true h8, decide_eq_true h]
  · rw [decide_eq_false h]
    by_cases c1 : 0 ≤ a ∧ a ≤ 4294967295
    · rw [if_pos c1]
      by_cases c2 : a ≤ b ∧ b ≤ 4294967295
      · rw [if_pos c2]
        by_cases c3 : 0 ≤ c ∧ c ≤ 4294967295
        · rw [if_pos c3]
          by_cases c4 : 0 ≤ d ∧ d ≤ 4294967295
          · rw [if_pos c4, and_zero_i c3.1 c3.2 c4.1 c4.2]
            rw [decide_eq_false]
            intro e
            exact h ⟨c1.1, c2.1, c2.2, c3.1, c3.2, c4.1, c4.2, e⟩
          · rw [if_neg c4]
        · rw [if_neg c3]
      · rw [if_neg c2]
    · rw [if_neg c1]
theorem has_iff {r : R} {m : Nat} : r.has m ↔ ((r.lo : Int) ≤ m ∧ (m : Int) ≤ r.hi) ∧ andn m r.op = r.bt := by
  unfold R.has
  constructor
  · rintro ⟨h1, h2, h3⟩; exact ⟨⟨by omega, by omega⟩, h3⟩
  · rintro ⟨⟨h1, h2⟩, h3⟩; exact ⟨by omega, by omega, h3⟩
theorem implHas_eq {r : R} (h : r.ok) (m : Nat) : impl_Range_has.f r.lo r.hi r.bt r.op m = some (decide (r.has m)) := by
  unfold impl_Range_has.f
  simp only [within_eq, Option.bind_some, decide_eq_true_eq]
  obtain ⟨h1, h2, h3, h4, h5⟩ := h
  by_cases c : (r.lo : Int) ≤ m ∧ (m : Int) ≤ r.hi
  · rw [if_pos c, bandn (by omega) (by omega)]
    by_cases e : andn m r.op = r.bt
    · rw [e, decide_eq_true (has_iff.2 ⟨c, e⟩)]; simp
    · have : ¬ r.has m := fun x => e (has_iff.1 x).2
      rw [decide_eq_false this]; simp; omega
  · have : ¬ r.has m := fun x => c (has_iff.1 x).1
    rw [if_neg c, decide_eq_false this]
theorem above_from {r : R} (h : r.ok) (d : Nat) : ∀ (k i : Nat), i + d = 32 → 2 * d < k →
    impl_Range_above.l0 k i r.lo r.hi r.bt r.op = some (num ((firstFrom (cand r.bt r.op r.lo) d i).map (val r.bt r.lo))) := by
  obtain ⟨h1, h2, h3, h4, h5⟩ := h
  induction d with
  | zero =>
    intro k i hi hk
    obtain ⟨k, rfl⟩ : ∃ m, k = m + 1 := ⟨k - 1, by omega⟩
    simp only [impl_Range_above.l0]
    rw [if_neg (by omega)]; rfl
  | succ d ih =>
    intro k i hi hk
    obtain ⟨k, rfl⟩ : ∃ m, k = m + 1 := ⟨k - 1, by omega⟩
    have q1 : (i : Int) < 32 := by omega
    have q2 : (0 : Int) ≤ (i : Int) := by omega
    have q3 : i + 1 ≤ 62 := by omega
    have q4 : i ≤ 62 := by omega
    have q5 : i ≤ 64 := by omega
    have q6 : i < 4611686018427387904 := by omega
    have nxt' : impl_Range_above.l0 (k - 1) ((i + 1 : Nat) : Int) r.lo r.hi r.bt r.op = _ := ih (k - 1) (i + 1) (by omega) (by omega)
    have e2 : shl .i64 2 (i : Int) = ((2 ^ (i + 1) : Nat) : Int) := by
      have hp : 2 ^ i ≤ 2 ^ 32 := Nat.pow_le_pow_right (by decide) (by omega)
      have := shl_nat (a := 2) (k := i) q4 (Nat.lt_of_le_of_lt (Nat.mul_le_mul_left 2 hp) (by decide))
      rw [Nat.pow_succ, Nat.mul_comm]; exact this
    have hk1 : k = k - 1 + 1 := by omega
    clear ih hk hi
    rw [hk1]
    generalize k - 1 = k' at nxt'
    have o32 := Nat.or_lt_two_pow h3 h4
    simp only [impl_Range_above.l0, impl_Range_above.j1]
    rw [if_pos q1, if_pos q2, w_succ q6, nxt', bit_nat (i32 (Nat.lt_of_le_of_lt h1 h2)) q5, bor (i32 h3) (i32 h4), bit_nat (i32 o32) q5, e2, w_pow q3, shl_one q4, w_pow q4]
    rw [band_not (i32 (Nat.lt_of_le_of_lt h1 h2)) (mask_lt q3), band_not (i32 h3) (mask_lt q3), andn_mask, andn_mask, bandn (i32 (cut32 (Nat.lt_of_le_of_lt h1 h2))) (i32 h4), band (i32 h3) (mask_lt q4), and_mask, bor (i32 (cut32 (Nat.lt_of_le_of_lt h1 h2))) (Nat.lt_of_le_of_lt (Nat.pow_le_pow_right (by decide) q4) (by decide)), bor (Nat.or_lt_two_pow (i32 (cut32 (Nat.lt_of_le_of_lt h1 h2))) (Nat.lt_of_le_of_lt (Nat.pow_le_pow_right (by decide) q4) (by decide))) (i32 (Nat.lt_of_le_of_lt (Nat.mod_le _ _) h3))]
    simp only [firstFrom]
    have split : cand r.bt r.op r.lo i = (!r.lo.testBit i && (r.bt ||| r.op).testBit i && decide (andn (r.lo / 2 ^ (i + 1) * 2 ^ (i + 1)) r.op = r.bt / 2 ^ (i + 1) * 2 ^ (i + 1))) := rfl
    by_cases c1 : r.lo.testBit i = true
    · rw [if_pos c1, if_pos rfl, if_pos trivial, split, c1]; rfl
    · rw [if_neg c1, if_neg (by decide)]
      by_cases c2 : (r.bt ||| r.op).testBit i = true
      · rw [if_pos c2, if_neg (by decide)]
        by_cases c3 : andn (r.lo / 2 ^ (i + 1) * 2 ^ (i + 1)) r.op = r.bt / 2 ^ (i + 1) * 2 ^ (i + 1)
        · have : cand r.bt r.op r.lo i = true := by rw [split, c2, decide_eq_true c3]; simpa using c1
          rw [c3, if_neg (by simp), if_pos q2, if_pos this]; rfl
        · have : ¬ cand r.bt r.op r.lo i = true := by rw [split, decide_eq_false c3]; simp
          rw [if_pos (bne_iff_ne.2 fun e => c3 (Int.ofNat_inj.1 e)), if_neg this]
      · rw [if_neg c2, if_pos rfl, if_pos trivial]
        have : ¬ cand r.bt r.op r.lo i = true := by rw [split]; simp [c2]
        rw [if_neg this]
theorem above_eq {r : R} (h : r.ok) {k : Nat} (hk : 64 < k) : impl_Range_above.f k r.lo r.hi r.bt r.op = some (num (above r.bt r.op r.lo)) := above_from h 32 k 0 (by omega) (by omega)
theorem least_eq {r : R} (h : r.ok) {k : Nat} (hk : 65 < k) : impl_Range_least.f k r.lo r.hi r.bt r.op = some (num r.least) := by
  obtain ⟨k, rfl⟩ : ∃ m, k = m + 1 := ⟨k - 1, by omega⟩
  unfold impl_Range_least.f
  have hlo := R.lo_lt h
  have ho := h.2.2.2.1
  rw [bandn (i32 hlo) (i32 ho), above_eq h (by omega)]
  simp only [Option.bind_some, impl_Range_least.j0]
  have key : ∀ y : Nat, andn y r.op = r.bt → r.lo ≤ y → (r.has y ↔ y ≤ r.hi) := fun y hb hl => ⟨fun x => x.2.1, fun x => ⟨hl, x, hb⟩⟩
  by_cases c : andn r.lo r.op = r.bt
  · rw [if_pos (by rw [c]), if_neg (by omega), implHas_eq h]
    simp only [Option.bind_some, decide_eq_true_eq]
    have e : nxt r.bt r.op r.lo = some r.lo := by unfold nxt; rw [if_pos c]
    unfold R.least
    rw [e]
    simp only
    rw [if_pos ((key _ c (Nat.le_refl _)).2 h.1), if_pos h.1]; rfl
  · rw [if_neg (fun e => c (Int.ofNat_inj.1 e))]
    have e : nxt r.bt r.op r.lo = above r.bt r.op r.lo := by unfold nxt; rw [if_neg c]
    unfold R.least
    rw [e]
    cases ha : above r.bt r.op r.lo with
    | none => rfl
    | some y =>
      obtain ⟨h1, h2, h3, _⟩ := above_some h.2.2.2.2 hlo ha
      show (if (y : Int) < 0 then _ else _) = _
      rw [if_neg (by omega)]
      show ((impl_Range_has.f r.lo r.hi r.bt r.op (y : Int)).bind fun t => _) = _
      rw [implHas_eq h]
      simp only [Option.bind_some, decide_eq_true_eq, key y h2 (by omega)]
      by_cases c2 : y ≤ r.hi
      · rw [if_pos c2, if_pos c2]
      · rw [if_neg c2, if_neg c2]; rfl
theorem some_bad {a b c d : Int} (h : ¬ okI a b c d) (k : Nat) : impl_Range_some.f k a b c d = some false := by
  unfold impl_Range_some.f
  rw [implOk_eq, decide_eq_false h]; rfl
theorem some_eq {r : R} (h : r.ok) {k : Nat} (hk : 66 < k) : impl_Range_some.f k r.lo r.hi r.bt r.op = some r.least.isSome := by
  unfold impl_Range_some.f
  rw [implOk_eq, decide_eq_true (okI_nat.2 h)]
  simp only [Option.bind_some, if_true]
  rw [least_eq h (by omega)]
  cases r.least with
  | none => rfl
  | some y =>
    show some (decide ((y : Int) ≥ 0)) = some true
    rw [decide_eq_true (by omega)]
theorem mask_from {n : Nat} (hn : n < 2 ^ 60) (d : Nat) : ∀ (k j : Nat), j + d = blen n → d < k → spec_l2Mask.l0 k n ((2 ^ j - 1 : Nat) : Int) = some ((ones n : Nat) : Int) := by
  have hb := blen_le hn
  induction d with
  | zero =>
    intro k j hj hk
    obtain ⟨k, rfl⟩ : ∃ m, k = m + 1 := ⟨k - 1, by omega⟩
    have := lt_blen n
    have e : j = blen n := by omega
    subst e
    simp only [spec_l2Mask.l0]
    rw [if_neg (by omega)]; rfl
  | succ d ih =>
    intro k j hj hk
    obtain ⟨k, rfl⟩ : ∃ m, k = m + 1 := ⟨k - 1, by omega⟩
    have hp := pow_le_62 (k := j) (by omega)
    have hp1 := pow_le_62 (k := j + 1) (by omega)
    have hs := Nat.pow_succ 2 j
    have h0 := Nat.two_pow_pos j
    have lt : 2 ^ j ≤ n := by
      rcases Nat.lt_or_ge n (2 ^ j) with h | h
      · have := blen_le h; omega
      · exact h
    simp only [spec_l2Mask.l0]
    rw [if_pos (by omega)]
    have e : wrap64 (wrap64 (((2 ^ j - 1 : Nat) : Int) * 2) + 1) = ((2 ^ (j + 1) - 1 : Nat) : Int) := by
      rw [wrap64_id (n := ((2 ^ j - 1 : Nat) : Int) * 2) (by omega) (by omega), wrap64_id (by omega) (by omega)]; omega
    rw [e]
    exact ih k (j + 1) (by omega) (by omega)
theorem mask_eq {n k : Nat} (hn : n < 2 ^ 60) (hk : 60 < k) : spec_l2Mask.f k n = some ((ones n : Nat) : Int) := by
  have hb := blen_le hn
  exact mask_from hn (blen n) k 0 (by omega) (by omega)
theorem mask_pow {j k : Nat} (hj : j ≤ 59) (hk : 60 < k) : spec_l2Mask.f k ((2 ^ j - 1 : Nat) : Int) = some ((2 ^ j - 1 : Nat) : Int) := by
  have h0 := Nat.two_pow_pos j
  have := Nat.pow_le_pow_right (n := 2) (by decide) (show j ≤ 59 from hj)
  rw [mask_eq (by omega) hk]
  unfold ones
  rw [blen_mask]
theorem over_succ {j k : Nat} (hj : j ≤ 33) (hk : 60 < k) : spec_l2Over.f k ((j + 1 : Nat) : Int) = some ((upFrom j : Nat) : Int) := by
  have h0 := Nat.two_pow_pos j
  have hp := pow_le_62 (k := j) (by omega)
  unfold spec_l2Over.f
  rw [if_neg (by omega)]
  try simp only [Option.bind_some]
  rw [w_pred (by omega), if_pos (by omega), shl_one (by omega), w_pow (by omega), mask_pow (by omega) hk]
  try simp only [Option.bind_some]
  rw [show (4294967295 : Int) = ((4294967295 : Nat) : Int) from rfl, bxor (by decide) (by omega)]; rfl
theorem over_zero {k : Nat} : spec_l2Over.f k 0 = some ((4294967295 : Nat) : Int) := rfl
theorem next_from {r : R} (h : r.ok) {m : Nat} (hm : m < 2 ^ 32) (d : Nat) : ∀ (k i : Nat) (b : Option Nat), i + d = 32 → 2 * d + 64 < k → (∀ v, b = some v → ∀ j, i ≤ j → cand r.bt r.op m j = true → v < val r.bt m j) →
    spec_l2Next.l0 k m (num b) ((i + 1 : Nat) : Int) r.lo r.hi r.bt r.op = some (num (best b ((firstFrom (cand r.bt r.op m) d i).map (val r.bt m)))) := by
  obtain ⟨h1, h2, h3, h4, h5⟩ := h
  induction d with
  | zero =>
    intro k i b hi hk hb
    obtain ⟨k, rfl⟩ : ∃ m, k = m + 1 := ⟨k - 1, by omega⟩
    simp only [spec_l2Next.l0]
    rw [if_neg (by omega)]
    cases b <;> rfl
  | succ d ih =>
    intro k i b hi hk hb
    obtain ⟨k, rfl⟩ : ∃ m, k = m + 1 := ⟨k - 1, by omega⟩
    have q1 : ((i + 1 : Nat) : Int) ≤ 32 := by omega
    have q2 : (0 : Int) ≤ ((i + 1 : Nat) : Int) := by omega
    have q3 : ((i + 1 : Nat) : Int) > 0 := by omega
    have q4 : (0 : Int) ≤ ((i : Nat) : Int) := by omega
    have q5 : i + 1 ≤ 59 := by omega
    have q6 : i + 1 ≤ 62 := by omega
    have q7 : i ≤ 62 := by omega
    have q8 : i ≤ 64 := by omega
    have q9 : 60 < k := by omega
    have q10 : i ≤ 33 := by omega
    have q11 : 60 < k - 1 := by omega
    have q12 : i + 1 < 4611686018427387904 := by omega
    have q13 : i < 4611686018427387904 := by omega
    have hi32 : i < 32 := by omega
    have hb' : ∀ v, b = some v → ∀ j, i + 1 ≤ j → cand r.bt r.op m j = true → v < val r.bt m j := fun v hv j hj => hb v hv j (by omega)
    have rec1 := ih k (i + 1) b (by omega) (by omega) hb'
    have rec2 : ∀ b', (∀ v, b' = some v → ∀ j, i + 1 ≤ j → cand r.bt r.op m j = true → v < val r.bt m j) → _ := fun b' => ih (k - 1) (i + 1) b' (by omega) (by omega)
    have hk1 : k = k - 1 + 1 := by omega
    clear ih hk hi
    have hm1 := mask_lt q6
    simp only [spec_l2Next.l0]
    rw [if_pos q1]
    try simp only [Option.bind_some]
    rw [if_pos q2, shl_one q6, w_pow q6, mask_pow q5 q9]
    try simp only [Option.bind_some]
    rw [if_pos q3, w_pred q13, if_pos q4, bit_nat (i32 hm) q8, w_succ q12, shl_one q7, show (4294967295 : Int) = ((4294967295 : Nat) : Int) from rfl, bxor (by decide) hm1, band (i32 hm) (flip63 hm1), flip_and hm, andn_mask, bor (i32 (cut32 hm)) (i32 (Nat.pow_lt_pow_right (by decide) hi32))]
    simp only [firstFrom]
    by_cases c1 : m.testBit i = true
    · rw [if_pos c1, if_pos rfl]
      have nc : ¬ cand r.bt r.op m i = true := fun c => by rw [(cand_iff.1 c).1] at c1; cases c1
      rw [if_neg nc]
      exact rec1
    · rw [if_neg c1, if_neg (by decide)]
      clear rec1
      have hup63 : upFrom i < 2 ^ 63 := Nat.lt_trans (upFrom_lt q10) (by decide)
      rw [hk1]
      generalize k - 1 = k' at rec2 q11
      have c1' : m.testBit i = false := by simpa using c1
      simp only [spec_l2Next.j1]
      rw [over_succ q10 q11]
      try simp only [Option.bind_some]
      rw [w_succ q12, show (4294967295 : Int) = ((4294967295 : Nat) : Int) from rfl, bxor (by decide) (i32 h4), bxor (by decide) hup63, band (i32 (cutor32 hm hi32)) (flip63 (i32 h4)), band (Nat.lt_of_le_of_lt Nat.and_le_left (i32 (cutor32 hm hi32))) hup63, band (i32 h3) hup63, band (i32 (cutor32 hm hi32)) hup63, band (i32 h3) (flip63 hup63)]
      rw [bor (Nat.lt_of_le_of_lt Nat.and_le_left (i32 (cutor32 hm hi32))) (Nat.lt_of_le_of_lt Nat.and_le_left (i32 h3)), val_spec hm hi32]
      by_cases c2 : cand r.bt r.op m i = true
      · rw [if_pos (by rw [(cand_spec h5 h3 hm hi32 c1').2 c2]), if_pos c2]
        have after : ∀ v, some (val r.bt m i) = some v → ∀ j, i + 1 ≤ j → cand r.bt r.op m j = true → v < val r.bt m j := by
          intro v hv j hj hc
          injection hv with hv
          subst hv
          exact val_lt_val hj hc
        cases b with
        | none =>
          rw [if_pos (show num none < 0 by decide)]
          exact rec2 (some (val r.bt m i)) after
        | some v =>
          have hv := hb v rfl i (Nat.le_refl _) c2
          rw [if_neg (not_neg v), if_neg (not_lt_num hv)]
          exact rec2 (some v) hb'
      · rw [if_neg (fun e => c2 ((cand_spec h5 h3 hm hi32 c1').1 (Int.ofNat_inj.1 e))), if_neg c2]
        exact rec2 b hb'
theorem next_eq {r : R} (h : r.ok) {m : Nat} (hm : m < 2 ^ 32) {k : Nat} (hk : 140 < k) : spec_l2Next.f k r.lo r.hi r.bt r.op m = some (num (nxt r.bt r.op m)) := by
  obtain ⟨k, rfl⟩ : ∃ m, k = m + 1 := ⟨k - 1, by omega⟩
  have h' := h
  obtain ⟨h1, h2, h3, h4, h5⟩ := h'
  unfold spec_l2Next.f
  simp only [spec_l2Next.l0]
  rw [if_pos (by decide)]
  try simp only [Option.bind_some]
  have es : wrap64 (shl .i64 1 ((0 : Nat) : Int) - 1) = ((2 ^ 0 - 1 : Nat) : Int) := by rw [shl_one (by omega), wrap64_id (by decide) (by decide)]; rfl
  rw [if_pos (by decide), show wrap64 (shl .i64 1 0 - 1) = ((2 ^ 0 - 1 : Nat) : Int) from es, mask_pow (by omega) (by omega)]
  try simp only [Option.bind_some]
  rw [if_neg (by decide)]
  obtain ⟨k, rfl⟩ : ∃ m, k = m + 1 := ⟨k - 1, by omega⟩
  simp only [spec_l2Next.j1]
  rw [over_zero]
  try simp only [Option.bind_some]
  rw [show (4294967295 : Int) = ((4294967295 : Nat) : Int) from rfl, bxor (by decide) (by decide), bxor (by decide) (i32 h4), bxor (by decide) (by decide), band (i32 hm) (by decide)]
  have e0 : m &&& (4294967295 ^^^ (2 ^ 0 - 1)) = m := by
    rw [flip_and hm]
    apply eq_of_bits
    intro i
    rw [testBit_andn, testBit_mask]; simp
  have et : ∀ x : Nat, x < 2 ^ 32 → x &&& 4294967295 = x := fun x hx => by
    rw [show (4294967295 : Nat) = 2 ^ 32 - 1 from rfl, and_mask]
    exact Nat.mod_eq_of_lt hx
  rw [e0, band (i32 hm) (flip63 (i32 h4)), flip_and hm, band (Nat.lt_of_le_of_lt (andn_le _ _) (i32 hm)) (by decide), band (i32 h3) (by decide), band (i32 hm) (by decide), band (i32 h3) (by decide)]
  rw [et _ (Nat.lt_of_le_of_lt (andn_le _ _) hm), et _ h3, et _ hm, bor (i32 hm) (Nat.lt_of_le_of_lt Nat.and_le_left (i32 h3))]
  have e4 : m ||| (r.bt &&& (4294967295 ^^^ 4294967295)) = m := by simp
  have e5 : wrap64 (0 + 1) = ((0 + 1 : Nat) : Int) := by rw [wrap64_id (by decide) (by decide)]; rfl
  rw [e4, e5]
  by_cases c : andn m r.op = r.bt
  · rw [if_pos (by rw [c]), if_pos (by decide)]
    have : nxt r.bt r.op m = some m := by unfold nxt; rw [if_pos c]
    rw [this]
    exact next_from h hm 32 k 0 (some m) (by omega) (by omega) (fun v hv j _ hc => by injection hv with hv; subst hv; exact val_gt hc)
  · rw [if_neg (fun e => c (by omega))]
    have : nxt r.bt r.op m = above r.bt r.op m := by unfold nxt; rw [if_neg c]
    rw [this]
    exact next_from h hm 32 k 0 none (by omega) (by omega) (fun v hv => by cases hv)
theorem l2Some_eq {r : R} (h : r.ok) {k : Nat} (hk : 140 < k) : spec_l2Some.f k r.lo r.hi r.bt r.op = some r.least.isSome := by
  unfold spec_l2Some.f
  rw [next_eq h (R.lo_lt h) hk]
  try simp only [Option.bind_some]
  unfold R.least
  cases nxt r.bt r.op r.lo with
  | none => rfl
  | some y =>
    show (if (y : Int) ≥ 0 then some (decide ((y : Int) ≤ r.hi)) else some false) = _
    rw [if_pos (by omega)]
    by_cases c : y ≤ r.hi
    · rw [decide_eq_true (by omega)]; simp [c]
    · rw [decide_eq_false (by omega)]; simp [c]
theorem l2Tidy_eq {r : R} (h : R32 r) {k : Nat} (hk : 61 < k) : spec_l2Tidy.f k r.lo r.hi r.bt r.op = some (ans r.tidy) := by
  have h' := h
  obtain ⟨h1, h2, h3, h4⟩ := h'
  have hx := h.xor
  have hm := ones_lt hx
  have hal : andn r.lo (ones (r.lo ^^^ r.hi)) < 2 ^ 32 := Nat.lt_of_le_of_lt (andn_le _ _) h1
  have hob : r.bt ||| andn r.lo (ones (r.lo ^^^ r.hi)) < 2 ^ 32 := Nat.or_lt_two_pow h3 hal
  have hop : r.op &&& ones (r.lo ^^^ r.hi) < 2 ^ 32 := Nat.lt_of_le_of_lt Nat.and_le_left h4
  have hbt : andn (r.bt ||| andn r.lo (ones (r.lo ^^^ r.hi))) (r.op &&& ones (r.lo ^^^ r.hi)) < 2 ^ 32 := Nat.lt_of_le_of_lt (andn_le _ _) hob
  obtain ⟨k, rfl⟩ : ∃ m, k = m + 1 := ⟨k - 1, by omega⟩
  unfold spec_l2Tidy.f spec_l2Bits.f
  simp only [spec_l2Tidy.j0]
  rw [bxor (i32 h1) (i32 h2), mask_eq (by omega) (by omega)]
  try simp only [Option.bind_some]
  rw [show (4294967295 : Int) = ((4294967295 : Nat) : Int) from rfl, bxor (by decide) (i32 hm), band (i32 h1) (flip63 (i32 hm)), flip_and h1, bor (i32 h3) (i32 hal), band (i32 h4) (i32 hm), bxor (by decide) (i32 hop), band (i32 hob) (flip63 (i32 hop)), flip_and hob, bor (i32 hbt) (i32 hop)]
  show _ = some (((max r.lo (andn (r.bt ||| andn r.lo (ones (r.lo ^^^ r.hi))) (r.op &&& ones (r.lo ^^^ r.hi))) : Nat) : Int), ((min r.hi (andn (r.bt ||| andn r.lo (ones (r.lo ^^^ r.hi))) (r.op &&& ones (r.lo ^^^ r.hi)) ||| (r.op &&& ones (r.lo ^^^ r.hi))) : Nat) : Int), ((andn (r.bt ||| andn r.lo (ones (r.lo ^^^ r.hi))) (r.op &&& ones (r.lo ^^^ r.hi)) : Nat) : Int), ((r.op &&& ones (r.lo ^^^ r.hi) : Nat) : Int))
  generalize andn (r.bt ||| andn r.lo (ones (r.lo ^^^ r.hi))) (r.op &&& ones (r.lo ^^^ r.hi)) = B
  generalize r.op &&& ones (r.lo ^^^ r.hi) = O
  by_cases c1 : B > r.lo
  · rw [if_pos (by omega), Nat.max_eq_right (by omega)]
    by_cases c2 : B ||| O < r.hi
    · rw [if_pos (by omega), Nat.min_eq_right (by omega)]
    · rw [if_neg (by omega), Nat.min_eq_left (by omega)]
  · rw [if_neg (by omega), Nat.max_eq_left (by omega)]
    by_cases c2 : B ||| O < r.hi
    · rw [if_pos (by omega), Nat.min_eq_right (by omega)]
    · rw [if_neg (by omega), Nat.min_eq_left (by omega)]
theorem len_eq {x : Nat} (h : x < 2 ^ 63) : bits_Len.f x = some ((blen x : Nat) : Int) := by
  unfold bits_Len.f
  rw [if_pos (by omega), if_pos (by omega), Int.toNat_natCast]
  unfold Lib.bitLen
  rw [bitLenAux_eq 64 x (by omega)]
theorem implTidy_eq {r : R} (h : R32 r) : impl_Range_tidy.f r.lo r.hi r.bt r.op = some (ans r.tidy) := by
  have h' := h
  obtain ⟨h1, h2, h3, h4⟩ := h'
  have hx := h.xor
  have hb := blen_le hx
  have hp := pow_le_62 (k := blen (r.lo ^^^ r.hi)) (by omega)
  have hp0 := Nat.two_pow_pos (blen (r.lo ^^^ r.hi))
  have hm := ones_lt hx
  have hal : andn r.lo (ones (r.lo ^^^ r.hi)) < 2 ^ 32 := Nat.lt_of_le_of_lt (andn_le _ _) h1
  have hob : r.bt ||| andn r.lo (ones (r.lo ^^^ r.hi)) < 2 ^ 32 := Nat.or_lt_two_pow h3 hal
  have hop : r.op &&& ones (r.lo ^^^ r.hi) < 2 ^ 32 := Nat.lt_of_le_of_lt Nat.and_le_left h4
  have hbt : andn (r.bt ||| andn r.lo (ones (r.lo ^^^ r.hi))) (r.op &&& ones (r.lo ^^^ r.hi)) < 2 ^ 32 := Nat.lt_of_le_of_lt (andn_le _ _) hob
  have ew : IntKind.u64.wrap ((r.lo ^^^ r.hi : Nat) : Int) = ((r.lo ^^^ r.hi : Nat) : Int) := by
    simp only [IntKind.wrap, IntKind.bits, IntKind.signed]
    simp
    omega
  have em : wrap64 (((2 ^ blen (r.lo ^^^ r.hi) : Nat) : Int) - 1) = ((ones (r.lo ^^^ r.hi) : Nat) : Int) := by
    rw [wrap64_id (by omega) (by omega)]; unfold ones; omega
  unfold impl_Range_tidy.f
  rw [bxor (i32 h1) (i32 h2), ew, len_eq (i32 hx)]
  try simp only [Option.bind_some]
  rw [if_pos (by omega), shl_one (by omega), em, bandn (i32 h1) (i32 hm), bor (i32 h3) (i32 hal), band (i32 h4) (i32 hm), bandn (i32 hob) (i32 hop), bor (i32 hbt) (i32 hop), mx_nat, mn_nat]
  rfl
theorem some_any (a b c d : Int) {k : Nat} (hk : 66 < k) : impl_Range_some.f k a b c d = some (someR a b c d).isSome := by
  cases h : toR a b c d with
  | none => rw [some_bad (toR_none h), someR_bad h]; rfl
  | some r =>
    obtain ⟨hr, rfl, rfl, rfl, rfl⟩ := toR_some h
    rw [some_eq hr hk]
    by_cases c : r.least.isSome = true
    · rw [someR_ok hr c, c]; rfl
    · rw [someR_empty hr c]; simpa using c
/-- Two ranges together, as the reference reckons, whatever they are. -/
def joinR (x y : R) : R := ⟨min x.lo y.lo, max x.hi y.hi, andn x.bt (x.op ||| y.op ||| (x.bt ^^^ y.bt)), x.op ||| y.op ||| (x.bt ^^^ y.bt)⟩
theorem joinR32 {x y : R} (hx : R32 x) (hy : R32 y) : R32 (joinR x y) :=
  ⟨Nat.lt_of_le_of_lt (Nat.min_le_left _ _) hx.1, Nat.max_lt.2 ⟨hx.2.1, hy.2.1⟩, Nat.lt_of_le_of_lt (andn_le _ _) hx.2.2.1, Nat.or_lt_two_pow (Nat.or_lt_two_pow hx.2.2.2 hy.2.2.2) (Nat.xor_lt_two_pow hx.2.2.1 hy.2.2.1)⟩
theorem l2Join_gen {x y : R} (hx : R32 x) (hy : R32 y) {k : Nat} (hk : 70 < k) : spec_l2Join.f k x.lo x.hi x.bt x.op y.lo y.hi y.bt y.op = some (ans (joinR x y).tidy) := by
  obtain ⟨a1, a2, a3, a4⟩ := lt63 hx
  obtain ⟨b1, b2, b3, b4⟩ := lt63 hy
  obtain ⟨k, rfl⟩ : ∃ m, k = m + 2 := ⟨k - 2, by omega⟩
  have hor := Nat.or_lt_two_pow a4 b4
  have hxo := Nat.xor_lt_two_pow a3 b3
  have hop := Nat.or_lt_two_pow hor hxo
  have key : ∀ lo hi : Nat, lo = min x.lo y.lo → hi = max x.hi y.hi → ((spec_l2Tidy.f k lo hi ((andn x.bt (x.op ||| y.op ||| (x.bt ^^^ y.bt)) : Nat) : Int) ((x.op ||| y.op ||| (x.bt ^^^ y.bt) : Nat) : Int)).bind fun bt => some (bt.1, bt.2.1, bt.2.2.1, bt.2.2.2)) = some (ans (joinR x y).tidy) := by
    rintro lo hi rfl rfl
    have := l2Tidy_eq (r := joinR x y) (joinR32 hx hy) (k := k) (by omega)
    exact (congrArg (fun o => Option.bind o fun bt => some (bt.1, bt.2.1, bt.2.2.1, bt.2.2.2)) this).trans rfl
  unfold spec_l2Join.f
  simp only [spec_l2Join.j0, spec_l2Join.j1]
  rw [bor a4 b4, bxor a3 b3, bor hor hxo, show (4294967295 : Int) = ((4294967295 : Nat) : Int) from rfl, bxor (by decide) hop, band a3 (flip63 hop), flip_and hx.2.2.1]
  by_cases c1 : y.lo < x.lo
  · rw [if_pos (by omega)]
    by_cases c2 : y.hi > x.hi
    · rw [if_pos (by omega)]; exact key _ _ (by omega) (by omega)
    · rw [if_neg (by omega)]; exact key _ _ (by omega) (by omega)
  · rw [if_neg (by omega)]
    by_cases c2 : y.hi > x.hi
    · rw [if_pos (by omega)]; exact key _ _ (by omega) (by omega)
    · rw [if_neg (by omega)]; exact key _ _ (by omega) (by omega)
theorem l2Do_eq {op a b : Nat} (h1 : 1 ≤ op) (h2 : op ≤ 11) (ha : a < 2 ^ 32) (hb : b < 2 ^ 32) : spec_l2Do.f op a b = some ((doR op a b : Nat) : Int) := by
  have h32 : b % 32 < 32 := Nat.mod_lt _ (by decide)
  unfold spec_l2Do.f spec_l2Wrap.f
  simp only [Option.bind_some, and_top, wrap_mod, and_31 hb]
  obtain rfl | rfl | rfl | rfl | rfl | rfl | rfl | rfl | rfl | rfl | rfl : op = 1 ∨ op = 2 ∨ op = 3 ∨ op = 4 ∨ op = 5 ∨ op = 6 ∨ op = 7 ∨ op = 8 ∨ op = 9 ∨ op = 10 ∨ op = 11 := by omega
  · repeat rw [if_neg (by decide)]
    rw [if_pos (by decide), doR1]
  · repeat rw [if_neg (by decide)]
    rw [if_pos (by decide), doR2]
    congr 1; try omega
  · repeat rw [if_neg (by decide)]
    rw [if_pos (by decide), doR3]
    congr 1; try omega
  · repeat rw [if_neg (by decide)]
    rw [if_pos (by decide), doR4]
    rw [← mod_top, Int.natCast_mul]
  · repeat rw [if_neg (by decide)]
    rw [if_pos (by decide), doR5, band (i32 ha) (i32 hb)]
  · repeat rw [if_neg (by decide)]
    rw [if_pos (by decide), doR6, bor (i32 ha) (i32 hb)]
  · repeat rw [if_neg (by decide)]
    rw [if_pos (by decide), doR7, bxor (i32 ha) (i32 hb)]
  · repeat rw [if_neg (by decide)]
    rw [if_pos (by decide), if_pos (by omega), doR8, shl_mod ha h32]
  · repeat rw [if_neg (by decide)]
    rw [if_pos (by decide), if_pos (by omega), doR9, shr_nat a (by omega)]
  · repeat rw [if_neg (by decide)]
    rw [if_pos (by decide), doR10]
    by_cases c : b = 0
    · subst c; rw [if_pos (by decide), Nat.div_zero]; rfl
    · rw [if_neg (by omega), tdiv_nat, wrap64_nat (Nat.lt_of_le_of_lt (Nat.div_le_self _ _) (i32 ha))]
  · repeat rw [if_neg (by decide)]
    rw [doR11]
    by_cases c : b = 0
    · subst c; rw [if_pos (by decide), Nat.mod_zero]
    · rw [if_neg (by omega), tmod_nat]
theorem reckon_eq {op a b : Nat} (h1 : 1 ≤ op) (h2 : op ≤ 11) (ha : a < 2 ^ 32) (hb : b < 2 ^ 32) : impl_reckon.f op a b = some ((doR op a b : Nat) : Int) := by
  have h32 : b % 32 < 32 := Nat.mod_lt _ (by decide)
  have t32 : Int.tmod (b : Int) 32 = ((b % 32 : Nat) : Int) := rfl
  unfold impl_reckon.f
  simp only [and_top, wrap_mod, t32]
  obtain rfl | rfl | rfl | rfl | rfl | rfl | rfl | rfl | rfl | rfl | rfl : op = 1 ∨ op = 2 ∨ op = 3 ∨ op = 4 ∨ op = 5 ∨ op = 6 ∨ op = 7 ∨ op = 8 ∨ op = 9 ∨ op = 10 ∨ op = 11 := by omega
  · repeat rw [if_neg (by decide)]
    rw [doR1]
  · repeat rw [if_neg (by decide)]
    rw [if_pos (by decide), doR2]
    congr 1; try omega
  · repeat rw [if_neg (by decide)]
    rw [if_pos (by decide), doR3]
    congr 1; try omega
  · repeat rw [if_neg (by decide)]
    rw [if_pos (by decide), doR4]
    rw [← mod_top, Int.natCast_mul, ← Int.mul_emod]
  · repeat rw [if_neg (by decide)]
    rw [if_pos (by decide), doR5, band (i32 ha) (i32 hb)]
  · repeat rw [if_neg (by decide)]
    rw [if_pos (by decide), doR6, bor (i32 ha) (i32 hb)]
  · repeat rw [if_neg (by decide)]
    rw [if_pos (by decide), doR7, bxor (i32 ha) (i32 hb)]
  · repeat rw [if_neg (by decide)]
    rw [if_pos (by decide), if_pos (by omega), doR8, shl_mod ha h32]
  · repeat rw [if_neg (by decide)]
    rw [if_pos (by decide), if_pos (by omega), doR9, shr_nat a (by omega)]
  · repeat rw [if_neg (by decide)]
    rw [if_pos (by decide), doR10]
    by_cases c : b = 0
    · subst c; rw [if_pos (by decide), Nat.div_zero]; rfl
    · rw [if_neg (by omega), tdiv_nat, wrap64_nat (Nat.lt_of_le_of_lt (Nat.div_le_self _ _) (i32 ha))]
  · repeat rw [if_neg (by decide)]
    rw [if_pos (by decide), doR11]
    by_cases c : b = 0
    · subst c; rw [if_pos (by decide), Nat.mod_zero]
    · rw [if_neg (by omega), tmod_nat]
/-- What RangeDo answers. -/
def doI (op a b : Int) : Int := if (1 ≤ op ∧ op ≤ 11) ∧ (0 ≤ a ∧ a ≤ 4294967295) ∧ (0 ≤ b ∧ b ≤ 4294967295) then ((doR op.toNat a.toNat b.toNat : Nat) : Int) else -1
theorem implDo_eq (op a b : Int) {k : Nat} (hk : 1 < k) : impl_RangeDo.f k op a b = some (doI op a b) := by
  obtain ⟨k, rfl⟩ : ∃ m, k = m + 1 := ⟨k - 1, by omega⟩
  unfold impl_RangeDo.f impl_kind_reckons.f doI
  simp only [impl_RangeDo.j0, numOk_eq, within_eq, Option.bind_some, decide_eq_true_eq]
  by_cases h1 : 1 ≤ op ∧ op ≤ 11
  · by_cases h2 : 0 ≤ a ∧ a ≤ 4294967295
    · by_cases h3 : 0 ≤ b ∧ b ≤ 4294967295
      · rw [if_pos h1, if_pos h2, decide_eq_true h3, if_neg (by decide), if_pos ⟨h1, h2, h3⟩]
        obtain ⟨o, rfl⟩ := Int.eq_ofNat_of_zero_le (show 0 ≤ op by omega)
        obtain ⟨x, rfl⟩ := Int.eq_ofNat_of_zero_le h2.1
        obtain ⟨y, rfl⟩ := Int.eq_ofNat_of_zero_le h3.1
        rw [reckon_eq (by omega) (by omega) (by omega) (by omega)]; rfl
      · rw [if_pos h1, if_pos h2, decide_eq_false h3, if_pos (by decide), if_neg (fun h => h3 h.2.2)]
    · rw [if_pos h1, if_neg h2, if_pos trivial, if_neg (fun h => h2 h.2.1)]
  · rw [if_neg h1, if_pos trivial, if_neg (fun h => h1 h.1)]
theorem open_gives {l : List Int} (hl : ∀ x ∈ l, (Lit.int .u8 x).wf = true) : Gives (spec_l20Open.f l) (fun v => Bytes v.1 ∧ v.2 = 0) := by
  unfold spec_l20Open.f
  refine Gives.ite (fun h => ?_) (fun h => ?_)
  · rw [if_pos (by omega)]
    exact Gives.ret ⟨⟨by rw [List.length_take]; omega, fun x hx => u8_wf (hl x (List.mem_of_mem_take hx))⟩, rfl⟩
  · exact Gives.ret ⟨⟨by show l.length ≤ 2000; omega, fun x hx => u8_wf (hl x hx)⟩, rfl⟩
theorem pick_gives {k : Nat} {b : List Int} (hb : Bytes b) {p n : Int} (h0 : 0 ≤ p) (h1 : p ≤ 10000) (hn : 1 ≤ n) (hk : 0 < k) : Gives (spec_l20Rd_pick.f k b p n) (fun v => 0 ≤ v.1 ∧ v.1 < n ∧ v.2 = p + 1) := by
  obtain ⟨k, rfl⟩ : ∃ m, k = m + 1 := ⟨k - 1, by omega⟩
  unfold spec_l20Rd_pick.f
  rw [if_neg (by omega)]
  simp only [spec_l20Rd_pick.j0]
  rw [wrap64_id (n := p + 1) (by omega) (by omega), wrap64_id (n := p + 1 - 1) (by omega) (by omega), show p + 1 - 1 = p by omega]
  obtain ⟨hb1, hb2⟩ := hb
  refine Gives.ite (fun _ => Gives.ret ⟨by omega, by omega, rfl⟩) (fun he => ?_)
  have hl : 1 ≤ (b.length : Int) := by
    rcases b with _ | ⟨x, l⟩
    · simp at he
    · simp; omega
  refine Gives.ite (fun hlt => ?_) (fun _ => ?_)
  · rw [if_pos h0, if_neg (by omega)]
    have hv := hb2 _ (rd_mem h0 hlt)
    rw [wrap64_id (by omega) (by omega)]
    have := tmod_range hv.1 hn
    exact Gives.ret ⟨this.1, this.2, rfl⟩
  · have hq := tmod_range h0 hl
    have hw : 0 ≤ wrap64 (wrap64 (p * 7) + 3) := by rw [wrap64_id (n := p * 7) (by omega) (by omega), wrap64_id (by omega) (by omega)]; omega
    have hr := tmod_range hw hl
    rw [if_neg (by omega), if_pos hq.1, if_pos hq.2, if_pos hr.1, if_pos hr.2, if_neg (by omega)]
    have hv1 := hb2 _ (rd_mem hq.1 hq.2)
    have hv2 := hb2 _ (rd_mem hr.1 hr.2)
    have hd : 0 ≤ Int.tdiv p (b.length : Int) ∧ Int.tdiv p (b.length : Int) ≤ 100000 := by
      refine ⟨Int.tdiv_nonneg h0 (by omega), ?_⟩
      rw [Int.tdiv_eq_ediv_of_nonneg h0]
      have := Int.ediv_le_self (b.length : Int) h0
      omega
    have hm := mix hv1 hv2 ⟨h0, by omega⟩ hd
    have hx := tmod_range (xor_pos hm.1 hm.2) hn
    exact Gives.ret ⟨hx.1, hx.2, rfl⟩
theorem one_gives {k : Nat} {b : List Int} (hb : Bytes b) {p : Int} (h0 : 0 ≤ p) (h1 : p ≤ 10000) {l : List Int} (hl : 1 ≤ (l.length : Int)) (hk : 0 < k) : Gives (spec_l20Rd_one.f k b p l) (fun v => v.1 ∈ l ∧ v.2 = p + 1) := by
  unfold spec_l20Rd_one.f
  refine (pick_gives hb h0 h1 hl hk).bind fun v hv => ?_
  rw [if_pos hv.1, if_pos hv.2.1]
  exact Gives.ret ⟨rd_mem hv.1 hv.2.1, hv.2.2⟩
theorem imm_gives {k : Nat} {b : List Int} (hb : Bytes b) {p : Int} (h0 : 0 ≤ p) (h1 : p ≤ 10000) (hk : 0 < k) : Gives (spec_l20Imm.f k b p) (fun v => N32 v.1 ∧ v.2 = p + 1) := by
  unfold spec_l20Imm.f
  refine (one_gives hb h0 h1 (by decide) hk).bind fun v hv => Gives.ret ⟨?_, hv.2⟩
  have := hv.1
  simp only [List.mem_cons, List.not_mem_nil, or_false] at this
  show N32 v.1
  unfold N32
  omega
theorem number_gives {k : Nat} {b : List Int} (hb : Bytes b) {p : Int} (h0 : 0 ≤ p) (h1 : p ≤ 9990) (hk : 0 < k) : Gives (spec_l20Number.f k b p) (fun v => N32 v.1 ∧ 0 ≤ v.2 ∧ v.2 ≤ p + 3) := by
  unfold spec_l20Number.f
  refine (pick_gives hb h0 (by omega) (by decide) hk).bind fun v hv => ?_
  obtain ⟨_, _, hv⟩ := hv
  refine Gives.ite (fun _ => ?_) (fun _ => Gives.ite (fun _ => ?_) (fun _ => ?_))
  · exact (imm_gives hb (by omega) (by omega) hk).bind fun u hu => Gives.ret ⟨hu.1, by omega, by omega⟩
  · exact (pick_gives hb (by omega) (by omega) (by decide) hk).bind fun u hu => Gives.ret ⟨⟨hu.1, by omega⟩, by omega, by omega⟩
  · refine (pick_gives hb (by omega) (by omega) (by decide) hk).bind fun u hu => ?_
    obtain ⟨hu0, hu1, hu2⟩ := hu
    refine (one_gives hb (by omega) (by omega) (by decide) hk).bind fun s hs => ?_
    obtain ⟨hs1, hs2⟩ := hs
    simp only [List.mem_cons, List.not_mem_nil, or_false] at hs1
    rw [if_pos (by omega)]
    refine Gives.ret ⟨?_, by omega, by omega⟩
    obtain ⟨a, ha⟩ := Int.eq_ofNat_of_zero_le hu0
    show N32 (shl .i64 u.1 s.1)
    rw [ha] at hu1 ⊢
    have ha' : a < 256 := by omega
    unfold N32
    rcases hs1 with h | h | h | h | h <;> rw [h]
    · have := shl_nat (a := a) (k := 0) (by decide) (by omega); rw [show (0 : Int) = ((0 : Nat) : Int) from rfl, this]; omega
    · have := shl_nat (a := a) (k := 4) (by decide) (by omega); rw [show (4 : Int) = ((4 : Nat) : Int) from rfl, this]; omega
    · have := shl_nat (a := a) (k := 8) (by decide) (by omega); rw [show (8 : Int) = ((8 : Nat) : Int) from rfl, this]; omega
    · have := shl_nat (a := a) (k := 16) (by decide) (by omega); rw [show (16 : Int) = ((16 : Nat) : Int) from rfl, this]; omega
    · have := shl_nat (a := a) (k := 24) (by decide) (by omega); rw [show (24 : Int) = ((24 : Nat) : Int) from rfl, this]; omega
theorem n32_R {a b c d : Int} (ha : N32 a) (hb : N32 b) (hc : N32 c) (hd : N32 d) : ∃ r : R, R32 r ∧ a = r.lo ∧ b = r.hi ∧ c = r.bt ∧ d = r.op := by
  unfold N32 at ha hb hc hd
  exact ⟨⟨a.toNat, b.toNat, c.toNat, d.toNat⟩, ⟨by show a.toNat < _; omega, by show b.toNat < _; omega, by show c.toNat < _; omega, by show d.toNat < _; omega⟩, by show a = (a.toNat : Int); omega, by show b = (b.toNat : Int); omega, by show c = (c.toNat : Int); omega, by show d = (d.toNat : Int); omega⟩
/-- Four numbers of 32 bits. -/
def N4 (v : Int × Int × Int × Int) : Prop := N32 v.1 ∧ N32 v.2.1 ∧ N32 v.2.2.1 ∧ N32 v.2.2.2
theorem ans_N4 {r : R} (h : R32 r) : N4 (ans r) := by
  obtain ⟨h1, h2, h3, h4⟩ := h
  refine ⟨⟨?_, ?_⟩, ⟨?_, ?_⟩, ⟨?_, ?_⟩, ⟨?_, ?_⟩⟩
  · show (0 : Int) ≤ (r.lo : Int); omega
  · show (r.lo : Int) ≤ 4294967295; omega
  · show (0 : Int) ≤ (r.hi : Int); omega
  · show (r.hi : Int) ≤ 4294967295; omega
  · show (0 : Int) ≤ (r.bt : Int); omega
  · show (r.bt : Int) ≤ 4294967295; omega
  · show (0 : Int) ≤ (r.op : Int); omega
  · show (r.op : Int) ≤ 4294967295; omega
theorem zero32 : N32 0 := by unfold N32; omega
theorem top32 : N32 4294967295 := by unfold N32; omega
theorem l2Tidy_gives {a b c d : Int} (ha : N32 a) (hb : N32 b) (hc : N32 c) (hd : N32 d) {k : Nat} (hk : 61 < k) : Gives (spec_l2Tidy.f k a b c d) N4 := by
  obtain ⟨r, hr, rfl, rfl, rfl, rfl⟩ := n32_R ha hb hc hd
  exact Gives.of_eq (l2Tidy_eq hr hk) (ans_N4 (tidy32 hr))
theorem l2Ends_gives {a b : Int} (ha : N32 a) (hb : N32 b) {k : Nat} (hk : 61 < k) : Gives (spec_l2Ends.f k a b) N4 := by
  unfold spec_l2Ends.f
  exact (l2Tidy_gives ha hb zero32 top32 hk).bind fun v hv => Gives.ret hv
theorem l2Join_gives {a b c d e f g h : Int} (ha : N32 a) (hb : N32 b) (hc : N32 c) (hd : N32 d) (he : N32 e) (hf : N32 f) (hg : N32 g) (hh : N32 h) {k : Nat} (hk : 70 < k) : Gives (spec_l2Join.f k a b c d e f g h) N4 := by
  obtain ⟨x, hx, rfl, rfl, rfl, rfl⟩ := n32_R ha hb hc hd
  obtain ⟨y, hy, rfl, rfl, rfl, rfl⟩ := n32_R he hf hg hh
  exact Gives.of_eq (l2Join_gen hx hy hk) (ans_N4 (tidy32 (joinR32 hx hy)))
/-- What a drawn range is: its four numbers, a number, and how far the reader is. -/
def Drawn6 (p c : Int) (v : Int × Int × Int × Int × Int × Int) : Prop := N32 v.1 ∧ N32 v.2.1 ∧ N32 v.2.2.1 ∧ N32 v.2.2.2.1 ∧ N32 v.2.2.2.2.1 ∧ 0 ≤ v.2.2.2.2.2 ∧ v.2.2.2.2.2 ≤ p + c
def Drawn5 (p c : Int) (v : Int × Int × Int × Int × Int) : Prop := N32 v.1 ∧ N32 v.2.1 ∧ N32 v.2.2.1 ∧ N32 v.2.2.2.1 ∧ 0 ≤ v.2.2.2.2 ∧ v.2.2.2.2 ≤ p + c
theorem range_loop {b : List Int} (hb : Bytes b) (d : Nat) : ∀ (k : Nat) (x n p r0 r1 r2 r3 : Int), N32 x → n = d → 0 ≤ p → p + 3 * d ≤ 9000 → N32 r0 → N32 r1 → N32 r2 → N32 r3 → d + 74 < k → d ≤ 10 →
    Gives (spec_l20Range.l0 k x n b p r0 r1 r2 r3) (Drawn6 p (3 * d + 4)) := by
  induction d with
  | zero =>
    intro k x n p r0 r1 r2 r3 hx hn hp0 hp1 h0 h1 h2 h3 hk _
    obtain ⟨k, rfl⟩ : ∃ m, k = m + 1 := ⟨k - 1, by omega⟩
    simp only [spec_l20Range.l0]
    rw [if_neg (by omega)]
    refine (pick_gives hb hp0 (by omega) (by decide) (by omega)).bind fun v hv => ?_
    obtain ⟨_, _, hv⟩ := hv
    refine Gives.ite (fun _ => ?_) (fun _ => Gives.ite (fun _ => ?_) (fun _ => Gives.ite (fun _ => ?_) (fun _ => ?_)))
    · exact Gives.ret ⟨zero32, top32, zero32, top32, hx, by show 0 ≤ v.2; omega, by show v.2 ≤ _; omega⟩
    · refine (number_gives hb (by omega) (by omega) (by omega)).bind fun u hu => ?_
      obtain ⟨hu0, hu1, hu2⟩ := hu
      refine Gives.ite (fun _ => ?_) (fun _ => ?_)
      · exact (l2Ends_gives hu0 hx (by omega)).bind fun t ht => Gives.ret ⟨ht.1, ht.2.1, ht.2.2.1, ht.2.2.2, hx, hu1, by show u.2 ≤ _; omega⟩
      · exact (l2Ends_gives hx hu0 (by omega)).bind fun t ht => Gives.ret ⟨ht.1, ht.2.1, ht.2.2.1, ht.2.2.2, hx, hu1, by show u.2 ≤ _; omega⟩
    · refine (imm_gives hb (by omega) (by omega) (by omega)).bind fun u hu => ?_
      obtain ⟨hu0, hu1⟩ := hu
      have hbits : N32 (Go.bits .and .i64 x (Go.bits .xor .i64 4294967295 u.1)) := by
        obtain ⟨m, hm⟩ := Int.eq_ofNat_of_zero_le hx.1
        obtain ⟨s, hs⟩ := Int.eq_ofNat_of_zero_le hu0.1
        have hx2 := hx.2
        have hu2 := hu0.2
        rw [hm] at hx2
        rw [hs] at hu2
        have m32 : m < 2 ^ 32 := by omega
        have s32 : s < 2 ^ 32 := by omega
        rw [hm, hs, show (4294967295 : Int) = ((4294967295 : Nat) : Int) from rfl, bxor (by decide) (i32 s32), band (i32 m32) (flip63 (i32 s32)), flip_and m32]
        have := Nat.lt_of_le_of_lt (andn_le m s) m32
        unfold N32
        omega
      exact (l2Tidy_gives zero32 top32 hbits hu0 (by omega)).bind fun t ht => Gives.ret ⟨ht.1, ht.2.1, ht.2.2.1, ht.2.2.2, hx, by show 0 ≤ u.2; omega, by show u.2 ≤ _; omega⟩
    · exact Gives.ret ⟨h0, h1, h2, h3, hx, by show 0 ≤ v.2; omega, by show v.2 ≤ _; omega⟩
  | succ d ih =>
    intro k x n p r0 r1 r2 r3 hx hn hp0 hp1 h0 h1 h2 h3 hk hd
    obtain ⟨k, rfl⟩ : ∃ m, k = m + 1 := ⟨k - 1, by omega⟩
    simp only [spec_l20Range.l0]
    rw [if_pos (by omega)]
    refine (number_gives hb hp0 (by omega) (by omega)).bind fun u hu => ?_
    obtain ⟨hu0, hu1, hu2⟩ := hu
    unfold spec_l2One.f
    try simp only [Option.bind_some]
    refine (l2Join_gives h0 h1 h2 h3 hu0 hu0 hu0 zero32 (by omega)).bind fun t ht => ?_
    rw [wrap64_id (n := n - 1) (by omega) (by omega)]
    refine (ih k x (n - 1) u.2 t.1 t.2.1 t.2.2.1 t.2.2.2 hx (by omega) hu1 (by omega) ht.1 ht.2.1 ht.2.2.1 ht.2.2.2 (by omega) (by omega)).mono fun v hv => ?_
    obtain ⟨q1, q2, q3, q4, q5, q6, q7⟩ := hv
    exact ⟨q1, q2, q3, q4, q5, q6, by omega⟩
theorem range_gives {k : Nat} {b : List Int} (hb : Bytes b) {p : Int} (h0 : 0 ≤ p) (h1 : p ≤ 8000) (hk : 90 < k) : Gives (spec_l20Range.f k b p) (Drawn6 p 17) := by
  unfold spec_l20Range.f spec_l2One.f
  refine (number_gives hb h0 (by omega) (by omega)).bind fun u hu => ?_
  obtain ⟨hu0, hu1, hu2⟩ := hu
  try simp only [Option.bind_some]
  refine (pick_gives hb hu1 (by omega) (by decide) (by omega)).bind fun v hv => ?_
  obtain ⟨hv0, hv1, hv2⟩ := hv
  obtain ⟨d, hd⟩ := Int.eq_ofNat_of_zero_le hv0
  refine (range_loop hb d k u.1 v.1 v.2 u.1 u.1 u.1 0 hu0 hd (by omega) (by omega) hu0 hu0 hu0 zero32 (by omega) (by omega)).mono fun w hw => ?_
  obtain ⟨q1, q2, q3, q4, q5, q6, q7⟩ := hw
  exact ⟨q1, q2, q3, q4, q5, q6, by omega⟩
theorem anyRange_gives {k : Nat} {b : List Int} (hb : Bytes b) {p : Int} (h0 : 0 ≤ p) (h1 : p ≤ 7000) (hk : 90 < k) : Gives (spec_l20AnyRange.f k b p) (Drawn5 p 30) := by
  unfold spec_l20AnyRange.f
  refine (range_gives hb h0 (by omega) hk).bind fun u hu => ?_
  obtain ⟨q1, q2, q3, q4, q5, q6, q7⟩ := hu
  refine (pick_gives hb q6 (by omega) (by decide) (by omega)).bind fun v hv => ?_
  obtain ⟨hv0, hv1, hv2⟩ := hv
  have hn := number_gives (k := k) hb (p := v.2) (by omega) (by omega) (by omega)
  refine Gives.ite (fun _ => ?_) (fun _ => Gives.ite (fun _ => ?_) (fun _ => Gives.ite (fun _ => ?_) (fun _ => Gives.ite (fun _ => ?_) (fun _ => ?_))))
  · exact hn.bind fun t ht => Gives.ret ⟨ht.1, q2, q3, q4, ht.2.1, by have := ht.2.2; show t.2 ≤ _; omega⟩
  · exact hn.bind fun t ht => Gives.ret ⟨q1, ht.1, q3, q4, ht.2.1, by have := ht.2.2; show t.2 ≤ _; omega⟩
  · exact hn.bind fun t ht => Gives.ret ⟨q1, q2, ht.1, q4, ht.2.1, by have := ht.2.2; show t.2 ≤ _; omega⟩
  · exact hn.bind fun t ht => Gives.ret ⟨q1, q2, q3, ht.1, ht.2.1, by have := ht.2.2; show t.2 ≤ _; omega⟩
  · exact Gives.ret ⟨q1, q2, q3, q4, by show 0 ≤ v.2; omega, by show v.2 ≤ _; omega⟩
/-- The least number of the range that came in. -/
def leastO (o : Option R) : Int := match o with
  | some r => num r.least
  | none => -1
/-- The range of one number. -/
def oneO (n : Int) : Option R := if 0 ≤ n ∧ n ≤ 4294967295 then some (R.one n.toNat) else none
theorem ok_dec (a b c d : Int) : decide (okI a b c d) = (toR a b c d).isSome := by
  rw [Bool.eq_iff_iff, decide_eq_true_eq]; exact okI_toR
theorem implOk_sem (a b c d : Int) : impl_RangeOk.f a b c d = some (toR a b c d).isSome := by rw [implOk_eq, ok_dec]
theorem implLeast_sem (a b c d : Int) {k : Nat} (hk : 65 < k) : impl_RangeLeast.f k a b c d = some (leastO (toR a b c d)) := by
  unfold impl_RangeLeast.f
  simp only [implOk_eq, Option.bind_some, decide_eq_true_eq]
  cases h : toR a b c d with
  | none => rw [if_neg (toR_none h)]; rfl
  | some r =>
    obtain ⟨hr, rfl, rfl, rfl, rfl⟩ := toR_some h
    rw [if_pos (okI_nat.2 hr), least_eq hr hk]; rfl
theorem implOne_sem (n : Int) : impl_RangeOne.f n = some (ans4 (oneO n)) := by
  unfold impl_RangeOne.f impl_noRange.f oneO
  simp only [numOk_eq, Option.bind_some, decide_eq_true_eq]
  by_cases h : 0 ≤ n ∧ n ≤ 4294967295
  · rw [if_pos h, if_pos h]
    obtain ⟨m, rfl⟩ := Int.eq_ofNat_of_zero_le h.1
    simp [ans4, ans, R.one]
  · rw [if_neg h, if_neg h]; rfl
theorem some_eq_dec {b : Bool} {p : Prop} [Decidable p] (h : b = true ↔ p) : some b = some (decide p) := by
  congr 1
  rw [Bool.eq_iff_iff, h, decide_eq_true_eq]
theorem bind_ans (r : R) : ((some (ans r)).bind fun bt => some (bt.1, bt.2.1, bt.2.2.1, bt.2.2.2)) = some (ans r) := rfl
theorem specTidy4 {x y b o : Nat} (h1 : x < 2 ^ 32) (h2 : y < 2 ^ 32) (h3 : b < 2 ^ 32) (h4 : o < 2 ^ 32) {k : Nat} (hk : 61 < k) : spec_l2Tidy.f k (x : Int) (y : Int) (b : Int) (o : Int) = some (ans (R.tidy ⟨x, y, b, o⟩)) := l2Tidy_eq (r := ⟨x, y, b, o⟩) ⟨h1, h2, h3, h4⟩ hk
theorem implTidy4 {x y b o : Nat} (h1 : x < 2 ^ 32) (h2 : y < 2 ^ 32) (h3 : b < 2 ^ 32) (h4 : o < 2 ^ 32) : impl_Range_tidy.f (x : Int) (y : Int) (b : Int) (o : Int) = some (ans (R.tidy ⟨x, y, b, o⟩)) := implTidy_eq (r := ⟨x, y, b, o⟩) ⟨h1, h2, h3, h4⟩
theorem specEnds_eq {x y : Nat} (h1 : x < 2 ^ 32) (h2 : y < 2 ^ 32) {k : Nat} (hk : 61 < k) : spec_l2Ends.f k (x : Int) (y : Int) = some (ans (endsR x y)) := by
  unfold spec_l2Ends.f
  have h : spec_l2Tidy.f k (x : Int) (y : Int) 0 4294967295 = some (ans (endsR x y)) := specTidy4 (b := 0) (o := 4294967295) h1 h2 (by decide) (by decide) hk
  rw [h]; exact bind_ans _
theorem implFromTo_eq {x y : Nat} (h1 : x < 2 ^ 32) (h2 : y < 2 ^ 32) : impl_fromTo.f (x : Int) (y : Int) = some (ans (endsR x y)) := by
  unfold impl_fromTo.f
  have h : impl_Range_tidy.f (x : Int) (y : Int) 0 4294967295 = some (ans (endsR x y)) := implTidy4 (b := 0) (o := 4294967295) h1 h2 (by decide) (by decide)
  rw [h]; exact bind_ans _
theorem w_add {a b : Nat} (h : a + b < 2 ^ 63) : wrap64 ((a : Int) + (b : Int)) = ((a + b : Nat) : Int) := by rw [wrap64_id (by omega) (by omega)]; omega
theorem w_sub {a b : Nat} (h : b ≤ a) (ha : a < 2 ^ 63) : wrap64 ((a : Int) - (b : Int)) = ((a - b : Nat) : Int) := by rw [wrap64_id (by omega) (by omega)]; omega
theorem w_mul {a b : Nat} (_ha : a < 2 ^ 32) (_hb : b < 2 ^ 32) (h : a * b < 2 ^ 63) : wrap64 ((a : Int) * (b : Int)) = ((a * b : Nat) : Int) := by rw [← Int.natCast_mul, wrap64_nat h]
theorem mul_lt {a b : Nat} (ha : a < 2 ^ 32) (hb : b < 2 ^ 32) : a * b < 2 ^ 64 := by
  have : a * b ≤ 4294967295 * 4294967295 := Nat.mul_le_mul (by omega) (by omega)
  omega
theorem addB_lt (a b : R) : addB a b < 2 ^ 32 := Nat.mod_lt _ (by decide)
theorem addK_lt (a b : R) : addK a b < 2 ^ 32 := Nat.mod_lt _ (by decide)
/-- The sums that both make of the bits. -/
theorem sums {a b : R} (ha : R32 a) (hb : R32 b) : wrap64 ((a.bt : Int) + b.bt) = ((a.bt + b.bt : Nat) : Int) ∧ wrap64 (((a.bt + b.bt : Nat) : Int) + a.op) = ((a.bt + b.bt + a.op : Nat) : Int) ∧ wrap64 (((a.bt + b.bt + a.op : Nat) : Int) + b.op) = ((a.bt + b.bt + a.op + b.op : Nat) : Int) := by
  obtain ⟨_, _, h3, h4⟩ := ha
  obtain ⟨_, _, h7, h8⟩ := hb
  exact ⟨w_add (by omega), w_add (by omega), w_add (by omega)⟩
theorem addB_int {a b : R} (ha : R32 a) (hb : R32 b) : Go.bits .or .i64 (Go.bits .or .i64 (Go.bits .xor .i64 ((a.bt + b.bt : Nat) : Int) ((a.bt + b.bt + a.op + b.op : Nat) : Int)) a.op) b.op % 4294967296 = (addB a b : Int) := by
  obtain ⟨_, _, h3, h4⟩ := ha
  obtain ⟨_, _, h7, h8⟩ := hb
  have hx : a.bt + b.bt ^^^ (a.bt + b.bt + a.op + b.op) < 2 ^ 63 := Nat.xor_lt_two_pow (by omega) (by omega)
  unfold addB
  rw [bxor (by omega) (by omega), bor hx (i32 h4), bor (Nat.or_lt_two_pow hx (i32 h4)) (i32 h8), mod_top]
theorem specAdd_eq {a b : R} (ha : R32 a) (hb : R32 b) : spec_l2Add.f a.lo a.hi a.bt a.op b.lo b.hi b.bt b.op = some ((addK a b : Int), (addB a b : Int)) := by
  obtain ⟨e1, e2, e3⟩ := sums ha hb
  unfold spec_l2Add.f spec_l2Wrap.f
  rw [e1, e2, e3]
  simp only [Option.bind_some, and_top]
  have h63 : (a.bt + b.bt) % 2 ^ 32 < 2 ^ 32 := Nat.mod_lt _ (by decide)
  rw [addB_int ha hb, mod_top, show (4294967295 : Int) = ((4294967295 : Nat) : Int) from rfl, bxor (by decide) (i32 (addB_lt a b)), band (i32 h63) (flip63 (i32 (addB_lt a b))), flip_and h63, addK_eq]
theorem specAdd_ex {a b : R} (ha : R32 a) (hb : R32 b) : ∃ K B : Nat, spec_l2Add.f a.lo a.hi a.bt a.op b.lo b.hi b.bt b.op = some ((K : Int), (B : Int)) ∧ K = addK a b ∧ B = addB a b := ⟨addK a b, addB a b, specAdd_eq ha hb, rfl, rfl⟩
theorem specSum_any {a b : R} (ha : a.ok) (hb : b.ok) {K B : Nat} (hK : K < 2 ^ 32) (hB : B < 2 ^ 32) (e : spec_l2Add.f a.lo a.hi a.bt a.op b.lo b.hi b.bt b.op = some ((K : Int), (B : Int))) {k : Nat} (hk : 62 < k) :
    spec_l2Sum.f k a.lo a.hi a.bt a.op b.lo b.hi b.bt b.op = some (ans (R.tidy (if a.hi + b.hi < 2 ^ 32 then ⟨a.lo + b.lo, a.hi + b.hi, K, B⟩ else ⟨0, 4294967295, K, B⟩))) := by
  obtain ⟨k, rfl⟩ : ∃ m, k = m + 1 := ⟨k - 1, by omega⟩
  have h1 := ha.1
  have h2 := ha.2.1
  have h5 := hb.1
  have h6 := hb.2.1
  unfold spec_l2Sum.f
  rw [e, Option.bind_some, w_add (by omega), w_add (by omega), spec_l2Sum.j0, spec_l2Sum.j0]
  by_cases c : a.hi + b.hi < 2 ^ 32
  · rw [if_pos (by omega), if_pos c, specTidy4 (by omega) c hK hB (by omega)]; exact bind_ans _
  · rw [if_neg (by omega), if_neg c]
    have h : spec_l2Tidy.f k 0 4294967295 K B = some (ans (R.tidy ⟨0, 4294967295, K, B⟩)) := specTidy4 (x := 0) (y := 4294967295) (by decide) (by decide) hK hB (by omega)
    rw [h]; exact bind_ans _
theorem specSum_eq {a b : R} (ha : a.ok) (hb : b.ok) {k : Nat} (hk : 62 < k) : spec_l2Sum.f k a.lo a.hi a.bt a.op b.lo b.hi b.bt b.op = some (ans (addR a b)) := by
  obtain ⟨K, B, e, hK, hB⟩ := specAdd_ex (ok32 ha) (ok32 hb)
  have h := specSum_any ha hb (by rw [hK]; exact addK_lt a b) (by rw [hB]; exact addB_lt a b) e hk
  rw [h, hK, hB]
  unfold addR
  exact Eq.refl _
theorem implAdded_eq {a b : R} (ha : a.ok) (hb : b.ok) {k : Nat} (hk : 0 < k) : impl_added.f k a.lo a.hi a.bt a.op b.lo b.hi b.bt b.op = some (ans (addR a b)) := by
  obtain ⟨k, rfl⟩ : ∃ m, k = m + 1 := ⟨k - 1, by omega⟩
  unfold impl_added.f
  obtain ⟨e1, e2, e3⟩ := sums (ok32 ha) (ok32 hb)
  rw [e1, e2, e3]
  simp only [impl_added.j0, and_top]
  have h1 := ha.1
  have h2 := ha.2.1
  have h3 := ha.2.2.1
  have h5 := hb.1
  have h6 := hb.2.1
  have h7 := hb.2.2.1
  rw [addB_int (ok32 ha) (ok32 hb), bandn (by omega) (i32 (addB_lt a b)), mod_top, w_add (by omega), w_add (by omega)]
  show (if _ then (impl_Range_tidy.f _ _ (addK a b : Nat) _).bind _ else (impl_Range_tidy.f _ _ (addK a b : Nat) _).bind _) = _
  unfold addR
  by_cases c : a.hi + b.hi < 2 ^ 32
  · rw [if_pos (by omega), if_pos c, implTidy4 (by omega) c (addK_lt a b) (addB_lt a b)]; exact bind_ans _
  · rw [if_neg (by omega), if_neg c]
    have h : impl_Range_tidy.f 0 4294967295 (addK a b) (addB a b) = some (ans (R.tidy ⟨0, 4294967295, addK a b, addB a b⟩)) := implTidy4 (by decide) (by decide) (addK_lt a b) (addB_lt a b)
    rw [h]; exact bind_ans _
theorem specLess_eq {a b : R} (ha : a.ok) (hb : b.ok) {k : Nat} (hk : 62 < k) : spec_l2Less.f k a.lo a.hi a.bt a.op b.lo b.hi b.bt b.op = some (ans (subR a b)) := by
  have h1 := ha.1
  have h2 := ha.2.1
  have h5 := hb.1
  have h6 := hb.2.1
  unfold spec_l2Less.f subR
  by_cases c : a.lo < b.hi
  · rw [if_neg (by omega), if_pos c]; rfl
  · rw [if_pos (by omega), if_neg c, w_sub (by omega) (by omega), w_sub (by omega) (by omega), specEnds_eq (by omega) (by omega) (by omega)]; exact bind_ans _
theorem u64_id {n : Int} (h0 : 0 ≤ n) (h1 : n < 18446744073709551616) : IntKind.u64.wrap n = n := by
  have e : IntKind.u64.wrap n = n % 18446744073709551616 := rfl
  rw [e]; omega
theorem and_top_u {n : Int} (h0 : 0 ≤ n) (h1 : n < 18446744073709551616) : Go.bits .and .u64 n 4294967295 = n % 4294967296 := by
  show IntKind.u64.wrap ((BitVec.ofInt 64 n &&& BitVec.ofInt 64 4294967295).toNat : Int) = _
  have e : (BitVec.ofInt 64 n &&& BitVec.ofInt 64 4294967295).toNat = (n % 4294967296).toNat := by
    rw [BitVec.toNat_and, show (BitVec.ofInt 64 4294967295).toNat = 2 ^ 32 - 1 from by decide, Nat.and_two_pow_sub_one_eq_mod, BitVec.toNat_ofInt]
    omega
  rw [e, u64_id (by omega) (by omega)]
  omega
theorem mul64_eq {x y : Nat} (hx : x < 2 ^ 32) (hy : y < 2 ^ 32) : bits_Mul64.f (x : Int) (y : Int) = some (0, ((x * y : Nat) : Int)) := by
  have hm := mul_lt hx hy
  have d1 : (x : Int) / 4294967296 = 0 := by omega
  have d2 : (y : Int) / 4294967296 = 0 := by omega
  have m1 : (x : Int) % 4294967296 = x := by omega
  have m2 : (y : Int) % 4294967296 = y := by omega
  have u0 : IntKind.u64.wrap 0 = 0 := rfl
  unfold bits_Mul64.f
  rw [and_top_u (n := (x : Int)) (by omega) (by omega), and_top_u (n := (y : Int)) (by omega) (by omega), d1, d2, m1, m2, ← Int.natCast_mul]
  generalize x * y = p at *
  simp only [Int.zero_mul, Int.mul_zero, u0, Int.zero_add, Int.add_zero]
  rw [u64_id (n := (p : Int)) (by omega) (by omega), u64_id (n := (p : Int) / 4294967296) (by omega) (by omega)]
  rw [and_top_u (n := (p : Int) / 4294967296) (by omega) (by omega), u64_id (n := (p : Int) / 4294967296 / 4294967296) (by omega) (by omega), u64_id (n := (p : Int) / 4294967296 % 4294967296) (by omega) (by omega)]
  have q1 : (p : Int) / 4294967296 / 4294967296 = 0 := by omega
  have q2 : (p : Int) / 4294967296 % 4294967296 / 4294967296 = 0 := by omega
  rw [q1, q2]; rfl
theorem implTimes_eq {a b : R} (ha : a.ok) (hb : b.ok) {k : Nat} (hk : 0 < k) : impl_times.f k a.lo a.hi a.bt a.op b.lo b.hi b.bt b.op = some (ans (mulR a b)) := by
  obtain ⟨k, rfl⟩ : ∃ m, k = m + 1 := ⟨k - 1, by omega⟩
  have h1 := ha.1
  have h2 := ha.2.1
  have h5 := hb.1
  have h6 := hb.2.1
  unfold impl_times.f
  rw [u64_id (by omega) (by omega), u64_id (by omega) (by omega), mul64_eq h2 h6]
  simp only [Option.bind_some]
  rw [if_neg (by decide)]
  simp only [impl_times.j0, decide_eq_true_eq]
  unfold mulR
  have hle := Nat.mul_le_mul h1 h5
  by_cases c : a.hi * b.hi < 2 ^ 32
  · rw [if_neg (by omega), if_pos c, w_mul (by omega) (by omega) (by omega), w_mul h2 h6 (by omega), implFromTo_eq (by omega) c]; rfl
  · rw [if_pos (by omega), if_neg c]; rfl
theorem specMul_eq {a b : R} (ha : a.ok) (hb : b.ok) {k : Nat} (hk : 62 < k) (t : Bool) (ht : t = true ↔ a.hi * b.hi < 2 ^ 32) : spec_l2Of.j1 k t a.lo a.hi a.bt a.op b.lo b.hi b.bt b.op = some (ans (mulR a b)) := by
  obtain ⟨k, rfl⟩ : ∃ m, k = m + 1 := ⟨k - 1, by omega⟩
  have h1 := ha.1
  have h2 := ha.2.1
  have h5 := hb.1
  have h6 := hb.2.1
  simp only [spec_l2Of.j1]
  unfold mulR
  have hle := Nat.mul_le_mul h1 h5
  by_cases c : a.hi * b.hi < 2 ^ 32
  · rw [if_pos (ht.2 c), if_pos c, w_mul (by omega) (by omega) (by omega), w_mul h2 h6 (by omega), specEnds_eq (by omega) c (by omega)]; exact bind_ans _
  · rw [if_neg (fun x => c (ht.1 x)), if_neg c]; rfl
theorem specBitwise_eq {op : Nat} (h1 : 5 ≤ op) (h2 : op ≤ 7) {a b : R} (ha : a.ok) (hb : b.ok) {k : Nat} (hk : 62 < k) : spec_l2Bitwise.f k op a.lo a.hi a.bt a.op b.lo b.hi b.bt b.op = some (ans (if op = 5 then andR a b else if op = 6 then orR a b else xorR a b)) := by
  obtain ⟨k, rfl⟩ : ∃ m, k = m + 1 := ⟨k - 1, by omega⟩
  obtain ⟨_, a2, a3, a4, _⟩ := ha
  obtain ⟨_, b2, b3, b4, _⟩ := hb
  have n1 : a.bt &&& b.bt < 2 ^ 32 := Nat.lt_of_le_of_lt Nat.and_le_left a3
  have n2 : a.bt ||| a.op < 2 ^ 32 := Nat.or_lt_two_pow a3 a4
  have n3 : b.bt ||| b.op < 2 ^ 32 := Nat.or_lt_two_pow b3 b4
  have n4 : (a.bt ||| a.op) &&& (b.bt ||| b.op) < 2 ^ 32 := Nat.lt_of_le_of_lt Nat.and_le_left n2
  have n5 : a.op ||| b.op < 2 ^ 32 := Nat.or_lt_two_pow a4 b4
  have n6 : a.bt ||| b.bt < 2 ^ 32 := Nat.or_lt_two_pow a3 b3
  have n7 : a.bt ^^^ b.bt < 2 ^ 32 := Nat.xor_lt_two_pow a3 b3
  have cst : (4294967295 : Int) = ((4294967295 : Nat) : Int) := rfl
  unfold spec_l2Bitwise.f
  simp only [spec_l2Bitwise.j0]
  rw [band (i32 a3) (i32 b3), bor (i32 a3) (i32 a4), bor (i32 b3) (i32 b4), band (i32 n2) (i32 n3), bor (i32 a4) (i32 b4), bor (i32 a3) (i32 b3), bxor (i32 a3) (i32 b3)]
  rw [cst, bxor (by decide) (i32 n1), bxor (by decide) (i32 n6), bxor (by decide) (i32 n5), band (i32 n4) (flip63 (i32 n1)), band (i32 n5) (flip63 (i32 n6)), band (i32 n7) (flip63 (i32 n5)), flip_and n4, flip_and n5, flip_and n7]
  obtain rfl | rfl | rfl : op = 5 ∨ op = 6 ∨ op = 7 := by omega
  · rw [if_pos (by decide), if_pos rfl]
    have hz : ∀ m : Nat, m < 2 ^ 32 → spec_l2Tidy.f k 0 (m : Int) ((a.bt &&& b.bt : Nat) : Int) ((andn ((a.bt ||| a.op) &&& (b.bt ||| b.op)) (a.bt &&& b.bt) : Nat) : Int) = some (ans (R.tidy ⟨0, m, a.bt &&& b.bt, andn ((a.bt ||| a.op) &&& (b.bt ||| b.op)) (a.bt &&& b.bt)⟩)) :=
      fun m hm => specTidy4 (x := 0) (by decide) hm n1 (Nat.lt_of_le_of_lt (andn_le _ _) n4) (by omega)
    unfold andR
    by_cases c : b.hi < a.hi
    · rw [if_pos (by omega), hz _ b2, Nat.min_eq_right (by omega)]; rfl
    · rw [if_neg (by omega), hz _ a2, Nat.min_eq_left (by omega)]; rfl
  · rw [if_neg (by decide), if_pos (by decide), if_neg (show ¬ (6 : Nat) = 5 by decide), if_pos (show (6 : Nat) = 6 from rfl)]
    have hz : ∀ m : Nat, m < 2 ^ 32 → spec_l2Tidy.f k (m : Int) ((4294967295 : Nat) : Int) ((a.bt ||| b.bt : Nat) : Int) ((andn (a.op ||| b.op) (a.bt ||| b.bt) : Nat) : Int) = some (ans (R.tidy ⟨m, 4294967295, a.bt ||| b.bt, andn (a.op ||| b.op) (a.bt ||| b.bt)⟩)) :=
      fun m hm => specTidy4 hm (by decide) n6 (Nat.lt_of_le_of_lt (andn_le _ _) n5) (by omega)
    unfold orR
    by_cases c : b.lo > a.lo
    · rw [if_pos (by omega), hz _ (by omega), Nat.max_eq_right (by omega)]; rfl
    · rw [if_neg (by omega), hz _ (by omega), Nat.max_eq_left (by omega)]; rfl
  · rw [if_neg (by decide), if_neg (by decide), if_neg (by decide), if_neg (by decide)]
    have hz : spec_l2Tidy.f k 0 ((4294967295 : Nat) : Int) ((andn (a.bt ^^^ b.bt) (a.op ||| b.op) : Nat) : Int) ((a.op ||| b.op : Nat) : Int) = some (ans (xorR a b)) := specTidy4 (x := 0) (by decide) (by decide) (Nat.lt_of_le_of_lt (andn_le _ _) n7) n5 (by omega)
    rw [hz]; exact bind_ans _
theorem implBitwise_eq {op : Nat} (h1 : 5 ≤ op) (h2 : op ≤ 7) {a b : R} (ha : a.ok) (hb : b.ok) {k : Nat} (hk : 0 < k) : impl_bitwise.f k op a.lo a.hi a.bt a.op b.lo b.hi b.bt b.op = some (ans (if op = 5 then andR a b else if op = 6 then orR a b else xorR a b)) := by
  obtain ⟨k, rfl⟩ : ∃ m, k = m + 1 := ⟨k - 1, by omega⟩
  obtain ⟨a0, a2, a3, a4, _⟩ := ha
  obtain ⟨b0, b2, b3, b4, _⟩ := hb
  have n1 : a.bt &&& b.bt < 2 ^ 32 := Nat.lt_of_le_of_lt Nat.and_le_left a3
  have n2 : a.bt ||| a.op < 2 ^ 32 := Nat.or_lt_two_pow a3 a4
  have n3 : b.bt ||| b.op < 2 ^ 32 := Nat.or_lt_two_pow b3 b4
  have n4 : (a.bt ||| a.op) &&& (b.bt ||| b.op) < 2 ^ 32 := Nat.lt_of_le_of_lt Nat.and_le_left n2
  have n5 : a.op ||| b.op < 2 ^ 32 := Nat.or_lt_two_pow a4 b4
  have n6 : a.bt ||| b.bt < 2 ^ 32 := Nat.or_lt_two_pow a3 b3
  have n7 : a.bt ^^^ b.bt < 2 ^ 32 := Nat.xor_lt_two_pow a3 b3
  unfold impl_bitwise.f
  simp only [impl_bitwise.j0, mn_nat, mx_nat]
  rw [band (i32 a3) (i32 b3), bor (i32 a3) (i32 a4), bor (i32 b3) (i32 b4), band (i32 n2) (i32 n3), bor (i32 a4) (i32 b4), bor (i32 a3) (i32 b3), bxor (i32 a3) (i32 b3), bandn (i32 n4) (i32 n1), bandn (i32 n5) (i32 n6), bandn (i32 n7) (i32 n5)]
  obtain rfl | rfl | rfl : op = 5 ∨ op = 6 ∨ op = 7 := by omega
  · rw [if_pos (by decide), if_pos rfl]
    have hz : impl_Range_tidy.f 0 ((min a.hi b.hi : Nat) : Int) ((a.bt &&& b.bt : Nat) : Int) ((andn ((a.bt ||| a.op) &&& (b.bt ||| b.op)) (a.bt &&& b.bt) : Nat) : Int) = some (ans (andR a b)) :=
      implTidy4 (x := 0) (by decide) (by omega) n1 (Nat.lt_of_le_of_lt (andn_le _ _) n4)
    rw [hz]; exact bind_ans _
  · rw [if_neg (by decide), if_pos (by decide), if_neg (by decide), if_pos rfl]
    have hz : impl_Range_tidy.f ((max a.lo b.lo : Nat) : Int) 4294967295 ((a.bt ||| b.bt : Nat) : Int) ((andn (a.op ||| b.op) (a.bt ||| b.bt) : Nat) : Int) = some (ans (orR a b)) :=
      implTidy4 (y := 4294967295) (by omega) (by decide) n6 (Nat.lt_of_le_of_lt (andn_le _ _) n5)
    rw [hz]; exact bind_ans _
  · rw [if_neg (by decide), if_neg (by decide), if_neg (by decide), if_neg (by decide)]
    have hz : impl_Range_tidy.f 0 4294967295 ((andn (a.bt ^^^ b.bt) (a.op ||| b.op) : Nat) : Int) ((a.op ||| b.op : Nat) : Int) = some (ans (xorR a b)) := implTidy4 (x := 0) (y := 4294967295) (by decide) (by decide) (Nat.lt_of_le_of_lt (andn_le _ _) n7) n5
    rw [hz]; exact bind_ans _
theorem shl63 {a k : Nat} (ha : a < 2 ^ 32) (hk : k < 32) : a * 2 ^ k < 2 ^ 63 := by
  have h1 := Nat.pow_le_pow_right (n := 2) (by decide) (show k ≤ 31 by omega)
  have h2 : a * 2 ^ k ≤ 4294967295 * 2 ^ 31 := Nat.mul_le_mul (by omega) h1
  omega
theorem shr32 {a : Nat} (ha : a < 2 ^ 32) (k : Nat) : a / 2 ^ k < 2 ^ 32 := Nat.lt_of_le_of_lt (Nat.div_le_self _ _) ha
theorem m32 (n : Nat) : n % 2 ^ 32 < 2 ^ 32 := Nat.mod_lt _ (by decide)
theorem shl_test {a k : Nat} (h : a * 2 ^ k < 2 ^ 63) : (((a * 2 ^ k : Nat) : Int) ≤ 4294967295) ↔ a * 2 ^ k < 2 ^ 32 := by
  generalize a * 2 ^ k = z at *
  omega
theorem specShl_eq {a : R} (ha : a.ok) {s : Nat} (hs : s < 32) {k : Nat} (hk : 62 < k) : spec_l2Shift.f k 8 a.lo a.hi a.bt a.op s = some (ans (shlK a s)) := by
  obtain ⟨k, rfl⟩ : ∃ m, k = m + 1 := ⟨k - 1, by omega⟩
  obtain ⟨a0, a2, a3, a4, _⟩ := ha
  have a1 : a.lo < 2 ^ 32 := Nat.lt_of_le_of_lt a0 a2
  unfold spec_l2Shift.f spec_l2Wrap.f
  rw [if_neg (by decide), if_pos (by omega)]
  simp only [spec_l2Shift.j0, and_top, Option.bind_some]
  rw [shl_mod a3 hs, shl_mod a4 hs, shl_nat (by omega) (shl63 a1 hs), shl_nat (by omega) (shl63 a2 hs)]
  have hle := Nat.mul_le_mul_right (2 ^ s) a0
  have ht := shl_test (shl63 a2 hs)
  unfold shlK
  by_cases c : a.hi * 2 ^ s < 2 ^ 32
  · rw [if_pos (ht.2 c), if_pos c, specTidy4 (Nat.lt_of_le_of_lt hle c) c (m32 _) (m32 _) (by omega)]; exact bind_ans _
  · rw [if_neg (fun x => c (ht.1 x)), if_neg c]
    have hz : spec_l2Tidy.f k 0 4294967295 ((a.bt * 2 ^ s % 2 ^ 32 : Nat) : Int) ((a.op * 2 ^ s % 2 ^ 32 : Nat) : Int) = some (ans (R.tidy ⟨0, 4294967295, a.bt * 2 ^ s % 2 ^ 32, a.op * 2 ^ s % 2 ^ 32⟩)) := specTidy4 (x := 0) (y := 4294967295) (by decide) (by decide) (m32 _) (m32 _) (by omega)
    rw [hz]; exact bind_ans _
theorem specShr_eq {a : R} (ha : a.ok) {s : Nat} (hs : s < 32) {k : Nat} (hk : 62 < k) : spec_l2Shift.f k 9 a.lo a.hi a.bt a.op s = some (ans (shrK a s)) := by
  obtain ⟨k, rfl⟩ : ∃ m, k = m + 1 := ⟨k - 1, by omega⟩
  obtain ⟨a0, a2, a3, a4, _⟩ := ha
  have a1 : a.lo < 2 ^ 32 := Nat.lt_of_le_of_lt a0 a2
  unfold spec_l2Shift.f
  rw [if_pos rfl, if_pos (by omega), shr_nat _ (by omega), shr_nat _ (by omega), shr_nat _ (by omega), shr_nat _ (by omega), specTidy4 (shr32 a1 s) (shr32 a2 s) (shr32 a3 s) (shr32 a4 s) (by omega)]; exact bind_ans _
theorem zero_cast : (0 : Int) = ((0 : Nat) : Int) := rfl
theorem implShifted_eq {op : Nat} (h1 : 8 ≤ op) (h2 : op ≤ 9) {a b : R} (ha : a.ok) (_hb : b.ok) {k : Nat} (hk : 1 < k) : impl_shifted.f k op a.lo a.hi a.bt a.op b.lo b.hi b.bt b.op = some (ans (if op = 8 then shlR a b else shrR a b)) := by
  obtain ⟨k, rfl⟩ : ∃ m, k = m + 2 := ⟨k - 2, by omega⟩
  obtain ⟨a0, a2, a3, a4, _⟩ := ha
  have a1 : a.lo < 2 ^ 32 := Nat.lt_of_le_of_lt a0 a2
  have hs : b.lo % 32 < 32 := Nat.mod_lt _ (by decide)
  have fin : ∀ t : Bool, (t = true ↔ (op = 9 ∧ b.lo ≠ b.hi)) → impl_shifted.j0 (k + 2) op ((b.lo % 32 : Nat) : Int) t a.lo a.hi a.bt a.op b.lo b.hi b.bt b.op = some (ans (if op = 8 then shlR a b else shrR a b)) := by
    intro t ht
    simp only [impl_shifted.j0, impl_shifted.j1]
    cases t with
    | true =>
      obtain ⟨e, c⟩ := ht.1 rfl
      subst e
      rw [if_pos rfl, if_neg (by decide)]
      unfold shrR
      rw [if_neg c, zero_cast, implFromTo_eq (by decide) a2]; rfl
    | false =>
      rw [if_neg (by decide)]
      by_cases c : b.lo = b.hi
      · rw [if_pos (by omega)]
        obtain rfl | rfl : op = 8 ∨ op = 9 := by omega
        · have hle := Nat.mul_le_mul_right (2 ^ (b.lo % 32)) a0
          have ht := shl_test (shl63 a2 hs)
          rw [if_neg (by decide), if_pos (by omega), if_pos rfl, and_top, and_top, shl_mod a3 hs, shl_mod a4 hs, shl_nat (by omega) (shl63 a1 hs), shl_nat (by omega) (shl63 a2 hs)]
          unfold shlR shlK
          rw [if_pos c]
          by_cases c2 : a.hi * 2 ^ (b.lo % 32) < 2 ^ 32
          · rw [if_pos (ht.2 c2), if_pos c2, implTidy4 (Nat.lt_of_le_of_lt hle c2) c2 (m32 _) (m32 _)]; exact bind_ans _
          · rw [if_neg (fun x => c2 (ht.1 x)), if_neg c2]
            have hz : impl_Range_tidy.f 0 4294967295 ((a.bt * 2 ^ (b.lo % 32) % 2 ^ 32 : Nat) : Int) ((a.op * 2 ^ (b.lo % 32) % 2 ^ 32 : Nat) : Int) = some (ans (R.tidy ⟨0, 4294967295, a.bt * 2 ^ (b.lo % 32) % 2 ^ 32, a.op * 2 ^ (b.lo % 32) % 2 ^ 32⟩)) := implTidy4 (x := 0) (y := 4294967295) (by decide) (by decide) (m32 _) (m32 _)
            rw [hz]; exact bind_ans _
        · rw [if_pos (by decide), if_pos (by omega), if_neg (by decide), shr_nat _ (by omega), shr_nat _ (by omega), shr_nat _ (by omega), shr_nat _ (by omega), implTidy4 (shr32 a1 _) (shr32 a2 _) (shr32 a3 _) (shr32 a4 _)]
          unfold shrR shrK
          rw [if_pos c]; rfl
      · have h8 : op = 8 := by
          rcases Nat.lt_or_ge op 9 with h | h
          · omega
          · have := ht.2 ⟨by omega, c⟩; cases this
        subst h8
        rw [if_neg (by omega), if_pos rfl]
        unfold shlR
        rw [if_neg c]; rfl
  unfold impl_shifted.f
  rw [show Int.tmod (b.lo : Int) 32 = ((b.lo % 32 : Nat) : Int) from rfl]
  by_cases c : b.lo = b.hi
  · rw [if_pos (by omega)]
    exact fin _ ⟨fun x => (by cases x), fun x => absurd c x.2⟩
  · rw [if_neg (by omega)]
    refine fin _ ?_
    rw [beq_iff_eq]
    omega
theorem specParts_eq {op : Nat} (h1 : 10 ≤ op) (h2 : op ≤ 11) {a b : R} (ha : a.ok) (hb : b.ok) {k : Nat} (hk : 66 < k) : spec_l2Parts.f k op a.lo a.hi a.bt a.op b.lo b.hi b.bt b.op = some (ans (if op = 10 then divR a b else modR a b)) := by
  obtain ⟨k, rfl⟩ : ∃ m, k = m + 2 := ⟨k - 2, by omega⟩
  obtain ⟨a0, a2, _⟩ := ha
  obtain ⟨b0, b2, _⟩ := hb
  unfold spec_l2Parts.f
  have e0 : spec_l2Ends.f (k + 2) 0 a.hi = some (ans (endsR 0 a.hi)) := specEnds_eq (x := 0) (by decide) a2 (by omega)
  have e1 : spec_l2Ends.f k 0 a.hi = some (ans (endsR 0 a.hi)) := specEnds_eq (x := 0) (by decide) a2 (by omega)
  obtain rfl | rfl : op = 10 ∨ op = 11 := by omega
  · rw [if_pos (by decide), if_pos rfl]
    unfold divR
    by_cases c : 0 < b.lo
    · have q1 : a.lo / b.hi < 2 ^ 32 := Nat.lt_of_le_of_lt (Nat.div_le_self _ _) (by omega)
      have q2 : a.hi / b.lo < 2 ^ 32 := Nat.lt_of_le_of_lt (Nat.div_le_self _ _) a2
      rw [if_pos (by omega), if_pos c, if_neg (by omega), if_neg (by omega), tdiv_nat, tdiv_nat, wrap64_nat (i32 q1), wrap64_nat (i32 q2), specEnds_eq q1 q2 (by omega)]; exact bind_ans _
    · rw [if_neg (by omega), if_neg c, e0]; exact bind_ans _
  · rw [if_neg (show ¬ ((11 : Nat) : Int) = 10 by decide), if_neg (show ¬ (11 : Nat) = 10 by decide)]
    simp only [spec_l2Parts.j0, spec_l2Parts.j1]
    unfold modR
    by_cases c : 0 < b.lo
    · rw [if_pos (by omega)]
      by_cases c1 : a.hi < b.lo
      · rw [if_pos c1, if_pos (decide_eq_true (by omega))]; rfl
      · have hp : wrap64 ((b.hi : Int) - 1) = ((b.hi - 1 : Nat) : Int) := by rw [wrap64_id (by omega) (by omega)]; omega
        rw [if_neg c1, if_neg (by rw [decide_eq_false (by omega)]; decide), if_pos (by omega), hp]
        by_cases c2 : b.hi - 1 < a.hi
        · have e2 : spec_l2Ends.f k 0 ((b.hi - 1 : Nat) : Int) = some (ans (endsR 0 (b.hi - 1))) := specEnds_eq (x := 0) (by decide) (by omega) (by omega)
          rw [if_pos (decide_eq_true (by omega)), if_pos ⟨c, c2⟩, e2]; exact bind_ans _
        · rw [if_neg (by rw [decide_eq_false (by omega)]; decide), if_neg (fun x => c2 x.2), e1]; exact bind_ans _
    · rw [if_neg (by omega), if_neg (by decide), if_neg (by omega), if_neg (by decide), if_neg (by omega), if_neg (fun x => c x.1), e1]; exact bind_ans _
theorem implParted_eq {op : Nat} (h1 : 10 ≤ op) (h2 : op ≤ 11) {a b : R} (ha : a.ok) (hb : b.ok) {k : Nat} (hk : 2 < k) : impl_parted.f k op a.lo a.hi a.bt a.op b.lo b.hi b.bt b.op = some (ans (if op = 10 then divR a b else modR a b)) := by
  obtain ⟨k, rfl⟩ : ∃ m, k = m + 3 := ⟨k - 3, by omega⟩
  obtain ⟨a0, a2, _⟩ := ha
  obtain ⟨b0, b2, _⟩ := hb
  unfold impl_parted.f
  have e0 : impl_fromTo.f 0 a.hi = some (ans (endsR 0 a.hi)) := implFromTo_eq (x := 0) (by decide) a2
  obtain rfl | rfl : op = 10 ∨ op = 11 := by omega
  · rw [if_pos (by decide), if_pos rfl]
    simp only [impl_parted.j0, impl_parted.j1, impl_parted.j2]
    unfold divR
    by_cases c : 0 < b.lo
    · have q1 : a.lo / b.hi < 2 ^ 32 := Nat.lt_of_le_of_lt (Nat.div_le_self _ _) (by omega)
      have q2 : a.hi / b.lo < 2 ^ 32 := Nat.lt_of_le_of_lt (Nat.div_le_self _ _) a2
      rw [if_pos (decide_eq_true (by omega)), if_pos c, if_neg (by omega), if_neg (by omega), tdiv_nat, tdiv_nat, wrap64_nat (i32 q1), wrap64_nat (i32 q2), implFromTo_eq q1 q2]; rfl
    · rw [if_neg (by rw [decide_eq_false (by omega)]; decide), if_neg c, if_neg (by decide), if_neg (by decide), if_neg (by decide), if_neg (by decide), e0]; exact bind_ans _
  · rw [if_neg (show ¬ ((11 : Nat) : Int) = 10 by decide), if_neg (show ¬ (11 : Nat) = 10 by decide)]
    simp only [impl_parted.j0, impl_parted.j1, impl_parted.j2]
    unfold modR
    rw [if_neg (by decide), if_pos (by decide)]
    by_cases c1 : a.hi < b.lo
    · rw [if_pos c1, if_pos (decide_eq_true (by omega))]; rfl
    · rw [if_neg c1, if_neg (by rw [decide_eq_false (by omega)]; decide), if_pos (by decide)]
      by_cases c : 0 < b.lo
      · have hp : wrap64 ((b.hi : Int) - 1) = ((b.hi - 1 : Nat) : Int) := by rw [wrap64_id (by omega) (by omega)]; omega
        rw [if_pos (by omega), hp]
        by_cases c2 : b.hi - 1 < a.hi
        · have e2 : impl_fromTo.f 0 ((b.hi - 1 : Nat) : Int) = some (ans (endsR 0 (b.hi - 1))) := implFromTo_eq (x := 0) (by decide) (by omega)
          rw [if_pos (decide_eq_true (by omega)), if_pos ⟨c, c2⟩, e2]; exact bind_ans _
        · rw [if_neg (by rw [decide_eq_false (by omega)]; decide), if_neg (fun x => c2 x.2), e0]; exact bind_ans _
      · rw [if_neg (by omega), if_neg (by decide), if_neg (fun x => c x.1), e0]; exact bind_ans _
theorem specOf_eq {op : Nat} (h1 : 1 ≤ op) (h2 : op ≤ 11) {a b : R} (ha : a.ok) (hb : b.ok) {k : Nat} (hk : 70 < k) : spec_l2Of.f k op a.lo a.hi a.bt a.op b.lo b.hi b.bt b.op = some (ans (ofT op a b)) := by
  obtain ⟨k, rfl⟩ : ∃ m, k = m + 1 := ⟨k - 1, by omega⟩
  have a1 := R.lo_lt ha
  have a2 := ha.2.1
  have b1 := R.lo_lt hb
  have fin : ∀ t : Bool, (t = true ↔ (a.lo = a.hi ∧ b.lo = b.hi)) → spec_l2Of.j0 (k + 1) op t a.lo a.hi a.bt a.op b.lo b.hi b.bt b.op = some (ans (ofT op a b)) := by
    intro t ht
    simp only [spec_l2Of.j0, l1In_eq, Option.bind_some, decide_eq_true_eq]
    unfold ofT
    by_cases c : a.lo = a.hi ∧ b.lo = b.hi
    · rw [if_pos c, if_pos (ht.2 c), l2Do_eq h1 h2 a1 b1]; rfl
    · rw [if_neg c, if_neg (fun x => c (ht.1 x))]
      by_cases o1 : op = 1
      · subst o1; rw [if_pos (by decide), if_pos rfl]; rfl
      rw [if_neg (by omega), if_neg o1]
      by_cases o2 : op = 2
      · subst o2; rw [if_pos (by decide), if_pos rfl, specSum_eq ha hb (by omega)]; rfl
      rw [if_neg (by omega), if_neg o2]
      by_cases o3 : op = 3
      · subst o3; rw [if_pos (by decide), if_pos rfl, specLess_eq ha hb (by omega)]; rfl
      rw [if_neg (by omega), if_neg o3]
      by_cases o4 : op = 4
      · subst o4
        rw [if_pos (by decide), if_pos rfl]
        by_cases z : a.hi = 0
        · rw [if_pos (by omega), specMul_eq ha hb (by omega)]
          rw [z, Nat.zero_mul]; decide
        · rw [if_neg (by omega), show (4294967295 : Int) = ((4294967295 : Nat) : Int) from rfl, tdiv_nat, wrap64_nat (Nat.lt_of_le_of_lt (Nat.div_le_self _ _) (by decide)), specMul_eq ha hb (by omega)]
          rw [decide_eq_true_eq, Int.ofNat_le, Nat.le_div_iff_mul_le (by omega), Nat.mul_comm]
          omega
      rw [if_neg (by omega), if_neg o4]
      by_cases o7 : 5 ≤ op ∧ op ≤ 7
      · rw [if_pos (by omega), specBitwise_eq o7.1 o7.2 ha hb (by omega)]
        obtain rfl | rfl | rfl : op = 5 ∨ op = 6 ∨ op = 7 := by omega
        · rfl
        · rfl
        · rfl
      rw [if_neg (show ¬ (5 ≤ (op : Int) ∧ (op : Int) ≤ 7) by omega), if_neg (show ¬ op = 5 by omega), if_neg (show ¬ op = 6 by omega), if_neg (show ¬ op = 7 by omega)]
      by_cases o9 : 8 ≤ op ∧ op ≤ 9
      · rw [if_pos (by omega), and_31 b1]
        obtain rfl | rfl : op = 8 ∨ op = 9 := by omega
        · rw [if_pos rfl]
          unfold shlR
          by_cases e : b.lo = b.hi
          · rw [if_pos (by omega), if_pos e]
            have := specShl_eq ha (s := b.lo % 32) (Nat.mod_lt _ (by decide)) (k := k) (by omega)
            show (spec_l2Shift.f k 8 _ _ _ _ _).bind _ = _
            rw [this]; exact bind_ans _
          · rw [if_neg (by omega), if_neg e, if_neg (by decide)]; rfl
        · rw [if_neg (show ¬ (9 : Nat) = 8 by decide), if_pos (show (9 : Nat) = 9 from rfl)]
          unfold shrR
          by_cases e : b.lo = b.hi
          · rw [if_pos (by omega), if_pos e]
            have := specShr_eq ha (s := b.lo % 32) (Nat.mod_lt _ (by decide)) (k := k) (by omega)
            show (spec_l2Shift.f k 9 _ _ _ _ _).bind _ = _
            rw [this]; exact bind_ans _
          · have e0 : spec_l2Ends.f k 0 a.hi = some (ans (endsR 0 a.hi)) := specEnds_eq (x := 0) (by decide) a2 (by omega)
            rw [if_neg (by omega), if_neg e, if_pos (by decide), e0]; exact bind_ans _
      rw [if_neg (show ¬ (8 ≤ (op : Int) ∧ (op : Int) ≤ 9) by omega), if_neg (show ¬ op = 8 by omega), if_neg (show ¬ op = 9 by omega), specParts_eq (by omega) (by omega) ha hb (by omega)]; exact bind_ans _
  unfold spec_l2Of.f
  by_cases c : a.lo = a.hi
  · rw [if_pos (by omega)]
    refine fin _ ?_
    rw [beq_iff_eq]
    omega
  · rw [if_neg (by omega)]
    exact fin _ ⟨fun x => (by cases x), fun x => absurd x.1 c⟩
theorem one_ans {n : Nat} (h : n < 2 ^ 32) : impl_RangeOne.f (n : Int) = some (ans (R.one n)) := by
  rw [implOne_sem]
  unfold oneO
  rw [if_pos (by omega)]; rfl
theorem implRangeOf_eq {op : Nat} (h1 : 1 ≤ op) (h2 : op ≤ 11) {x y : R} {u v : Nat} (hx : x.ok) (hy : y.ok) (hu : x.has u) (hv : y.has v) {k : Nat} (hk : 10 < k) : impl_rangeOf.f k op x.lo x.hi x.bt x.op y.lo y.hi y.bt y.op = some (ans (ofR op x y)) := by
  obtain ⟨k, rfl⟩ : ∃ m, k = m + 8 := ⟨k - 8, by omega⟩
  have ha := R.tidy_ok hx hu
  have hb := R.tidy_ok hy hv
  unfold impl_rangeOf.f
  rw [implTidy_eq (ok32 hx), implTidy_eq (ok32 hy)]
  simp only [Option.bind_some]
  unfold ofR
  generalize x.tidy = a at *
  generalize y.tidy = b at *
  have a1 := R.lo_lt ha
  have a2 := ha.2.1
  have b1 := R.lo_lt hb
  show (if (a.lo : Int) = a.hi then impl_rangeOf.j0 (k + 8) op ((b.lo : Int) == b.hi) a.lo a.hi a.bt a.op b.lo b.hi b.bt b.op else impl_rangeOf.j0 (k + 8) op false a.lo a.hi a.bt a.op b.lo b.hi b.bt b.op) = _
  have fin : ∀ t : Bool, (t = true ↔ (a.lo = a.hi ∧ b.lo = b.hi)) → impl_rangeOf.j0 (k + 8) op t a.lo a.hi a.bt a.op b.lo b.hi b.bt b.op = some (ans (ofT op a b)) := by
    intro t ht
    simp only [impl_rangeOf.j0]
    unfold ofT
    by_cases c : a.lo = a.hi ∧ b.lo = b.hi
    · rw [if_pos c, if_pos (ht.2 c), reckon_eq h1 h2 a1 b1]
      simp only [Option.bind_some]
      rw [one_ans (doR_lt a1 b1)]; rfl
    · rw [if_neg c, if_neg (fun x => c (ht.1 x))]
      by_cases o1 : op = 1
      · subst o1; rw [if_pos (by decide), if_pos rfl]; rfl
      rw [if_neg (by omega), if_neg o1]
      by_cases o2 : op = 2
      · subst o2; rw [if_pos (by decide), if_pos rfl, implAdded_eq ha hb (by omega)]; rfl
      rw [if_neg (by omega), if_neg o2]
      by_cases o3 : op = 3
      · subst o3
        rw [if_pos (by decide), if_pos rfl]
        unfold subR
        have h5 := ha.1
        have h6 := hb.1
        have h7 := hb.2.1
        by_cases e : a.lo < b.hi
        · rw [if_pos (by omega), if_pos e]; rfl
        · rw [if_neg (by omega), if_neg e, w_sub (by omega) (by omega), w_sub (by omega) (by omega), implFromTo_eq (by omega) (by omega)]; exact bind_ans _
      rw [if_neg (by omega), if_neg o3]
      by_cases o4 : op = 4
      · subst o4; rw [if_pos (by decide), if_pos rfl, implTimes_eq ha hb (by omega)]; rfl
      rw [if_neg (by omega), if_neg o4]
      have tail : ∀ s : Bool, (s = true ↔ (5 ≤ op ∧ op ≤ 7)) → impl_rangeOf.j1 (k + 7) op op s a.lo a.hi a.bt a.op b.lo b.hi b.bt b.op = some (ans (if op = 5 then andR a b else if op = 6 then orR a b else if op = 7 then xorR a b else if op = 8 then shlR a b else if op = 9 then shrR a b else if op = 10 then divR a b else modR a b)) := by
        intro s hs
        simp only [impl_rangeOf.j1, impl_rangeOf.j2]
        by_cases o7 : 5 ≤ op ∧ op ≤ 7
        · rw [if_pos (hs.2 o7), implBitwise_eq o7.1 o7.2 ha hb (by omega)]
          obtain rfl | rfl | rfl : op = 5 ∨ op = 6 ∨ op = 7 := by omega
          · rfl
          · rfl
          · rfl
        · rw [if_neg (fun z => o7 (hs.1 z)), if_neg (show ¬ op = 5 by omega), if_neg (show ¬ op = 6 by omega), if_neg (show ¬ op = 7 by omega)]
          by_cases o8 : op = 8
          · subst o8
            rw [if_pos (by decide), if_pos (by decide), if_pos rfl]
            have := implShifted_eq (op := 8) (by omega) (by omega) ha hb (k := k + 5) (by omega)
            show (impl_shifted.f (k + 5) ((8 : Nat) : Int) a.lo a.hi a.bt a.op b.lo b.hi b.bt b.op).bind _ = _
            rw [this]; exact bind_ans _
          · rw [if_neg (show ¬ (op : Int) = 8 by omega), if_neg o8]
            by_cases o9 : op = 9
            · subst o9
              rw [if_pos (by decide), if_pos rfl]
              have := implShifted_eq (op := 9) (by omega) (by omega) ha hb (k := k + 5) (by omega)
              show (impl_shifted.f (k + 5) ((9 : Nat) : Int) a.lo a.hi a.bt a.op b.lo b.hi b.bt b.op).bind _ = _
              rw [this]; exact bind_ans _
            · rw [if_neg (by rw [beq_iff_eq]; omega), if_neg o9, implParted_eq (by omega) (by omega) ha hb (by omega)]; rfl
      by_cases o5 : op = 5
      · subst o5; rw [if_pos (by decide)]; exact tail _ (by decide)
      rw [if_neg (by omega)]
      by_cases o6 : op = 6
      · subst o6; rw [if_pos (by decide)]; exact tail _ (by decide)
      rw [if_neg (by omega)]
      refine tail _ ?_
      rw [beq_iff_eq]
      omega
  by_cases c : a.lo = a.hi
  · rw [if_pos (by omega)]
    refine fin _ ?_
    rw [beq_iff_eq]
    omega
  · rw [if_neg (by omega)]
    exact fin _ ⟨fun x => (by cases x), fun x => absurd x.1 c⟩
/-- What RangeOf answers of two ranges that came in. -/
def ofI (op : Int) (oa ob : Option R) : Int × Int × Int × Int := match oa, ob with
  | some x, some y => if 1 ≤ op ∧ op ≤ 11 then ans (ofR op.toNat x y) else (1, 0, 0, 0)
  | _, _ => (1, 0, 0, 0)
theorem ofI_none (op : Int) (o : Option R) : ofI op none o = (1, 0, 0, 0) := by cases o <;> rfl
theorem ofI_none' (op : Int) (o : Option R) : ofI op o none = (1, 0, 0, 0) := by cases o <;> rfl
theorem ofI_bad {op : Int} (h : ¬ (1 ≤ op ∧ op ≤ 11)) (o p : Option R) : ofI op o p = (1, 0, 0, 0) := by
  cases o with
  | none => exact ofI_none op p
  | some x =>
    cases p with
    | none => rfl
    | some y => show (if _ then _ else _) = _; rw [if_neg h]
theorem ofI_nat {o : Nat} (h1 : 1 ≤ o) (h2 : o ≤ 11) (x y : R) : ofI o (some x) (some y) = ans (ofR o x y) := by
  show (if _ then _ else _) = _
  rw [if_pos (by omega), Int.toNat_natCast]
theorem least_wit {r : R} (h : r.ok) (e : r.least.isSome = true) : ∃ y, r.least = some y ∧ r.has y := by
  obtain ⟨y, hy⟩ := Option.isSome_iff_exists.1 e
  exact ⟨y, hy, (R.least_some h hy).1⟩
theorem implRangeOf_sem (op a b c d e f g h : Int) {k : Nat} (hk : 80 < k) : impl_RangeOf.f k op a b c d e f g h = some (ofI op (someR a b c d) (someR e f g h)) := by
  obtain ⟨k, rfl⟩ : ∃ m, k = m + 1 := ⟨k - 1, by omega⟩
  unfold impl_RangeOf.f impl_kind_reckons.f
  simp only [within_eq, some_any _ _ _ _ (show 66 < k + 1 by omega), Option.bind_some, decide_eq_true_eq, impl_RangeOf.j0]
  by_cases h1 : 1 ≤ op ∧ op ≤ 11
  · rw [if_pos h1]
    cases hx : someR a b c d with
    | none => rw [ofI_none]; rfl
    | some x =>
      cases hy : someR e f g h with
      | none => rw [ofI_none']; rfl
      | some y =>
        obtain ⟨⟨ox, rfl, rfl, rfl, rfl⟩, sx⟩ := someR_some hx
        obtain ⟨⟨oy, rfl, rfl, rfl, rfl⟩, sy⟩ := someR_some hy
        obtain ⟨u, _, hu⟩ := least_wit ox sx
        obtain ⟨v, _, hv⟩ := least_wit oy sy
        obtain ⟨o, rfl⟩ := Int.eq_ofNat_of_zero_le (show 0 ≤ op by omega)
        have e1 := implRangeOf_eq (op := o) (by omega) (by omega) ox oy hu hv (k := k) (by omega)
        rw [ofI_nat (by omega) (by omega)]
        show (impl_rangeOf.f k o x.lo x.hi x.bt x.op y.lo y.hi y.bt y.op).bind _ = _
        rw [e1]; exact bind_ans _
  · rw [if_neg h1, ofI_bad h1]; rfl
theorem specRangeOf_sem (op a b c d e f g h : Int) {k : Nat} (hk : 150 < k) : spec_RangeOf.f k op a b c d e f g h = some (ofI op (someR a b c d) (someR e f g h)) := by
  obtain ⟨k, rfl⟩ : ∃ m, k = m + 1 := ⟨k - 1, by omega⟩
  unfold spec_RangeOf.f spec_l1Alu.f
  simp only [l1In_eq, l2Ok_eq, Option.bind_some, decide_eq_true_eq, spec_RangeOf.j0]
  by_cases h1 : 1 ≤ op ∧ op ≤ 11
  · rw [if_pos h1]
    cases hx : toR a b c d with
    | none => rw [if_neg (toR_none hx), someR_bad hx, ofI_none]; rfl
    | some x =>
      obtain ⟨ox, rfl, rfl, rfl, rfl⟩ := toR_some hx
      rw [if_pos (okI_nat.2 ox)]
      cases hy : toR e f g h with
      | none => rw [if_neg (toR_none hy), someR_bad hy, ofI_none']; rfl
      | some y =>
        obtain ⟨oy, rfl, rfl, rfl, rfl⟩ := toR_some hy
        rw [if_pos (okI_nat.2 oy), l2Some_eq ox (by omega), l2Some_eq oy (by omega)]
        simp only [Option.bind_some]
        by_cases sx : x.least.isSome = true
        · rw [if_pos sx, someR_ok ox sx]
          by_cases sy : y.least.isSome = true
          · obtain ⟨u, _, hu⟩ := least_wit ox sx
            obtain ⟨v, _, hv⟩ := least_wit oy sy
            obtain ⟨o, rfl⟩ := Int.eq_ofNat_of_zero_le (show 0 ≤ op by omega)
            rw [someR_ok oy sy, sy, if_neg (by decide), l2Tidy_eq (ok32 ox) (by omega), l2Tidy_eq (ok32 oy) (by omega), ofI_nat (by omega) (by omega)]
            have e1 := specOf_eq (op := o) (by omega) (by omega) (R.tidy_ok ox hu) (R.tidy_ok oy hv) (k := k) (by omega)
            show (spec_l2Of.f k o x.tidy.lo x.tidy.hi x.tidy.bt x.tidy.op y.tidy.lo y.tidy.hi y.tidy.bt y.tidy.op).bind _ = _
            rw [e1]; exact bind_ans _
          · rw [someR_empty oy sy, ofI_none', if_pos (by simpa using sy)]
        · rw [if_neg sx, someR_empty ox sx, ofI_none, if_pos trivial]
  · rw [if_neg h1, ofI_bad h1]; rfl
theorem drawOf_gives {k : Nat} {l : List Int} (hl : ∀ x ∈ l, (Lit.int .u8 x).wf = true) (hk : 100 < k) : Gives (spec_DrawRangeOf.f k l) (fun _ => True) := by
  obtain ⟨k, rfl⟩ : ∃ m, k = m + 1 := ⟨k - 1, by omega⟩
  unfold spec_DrawRangeOf.f
  refine (open_gives hl).bind fun b hb => ?_
  obtain ⟨hb, h0⟩ := hb
  refine (range_gives hb (by omega) (by omega) (by omega)).bind fun r hr => ?_
  obtain ⟨_, _, _, _, _, q6, q7⟩ := hr
  refine (range_gives hb q6 (by omega) (by omega)).bind fun s hs => ?_
  obtain ⟨_, _, _, _, _, r6, r7⟩ := hs
  refine (pick_gives hb r6 (by omega) (by decide) (by omega)).bind fun v hv => ?_
  simp only [spec_DrawRangeOf.j0]
  refine Gives.ite (fun _ => ?_) (fun _ => ?_)
  · refine (anyRange_gives hb (by have := hv; omega) (by omega) (by omega)).bind fun s hs => ?_
    obtain ⟨_, _, _, _, t5, t6⟩ := hs
    exact (one_gives hb t5 (by omega) (by decide) (by omega)).bind fun s hs => Gives.ret trivial
  · exact (one_gives hb (by have := hv; omega) (by omega) (by decide) (by omega)).bind fun s hs => Gives.ret trivial
/-- What holds of an answer that is a range: of what it was made. -/
theorem ofI_some {op : Int} {oa ob : Option R} {q : R} (h : toR (ofI op oa ob).1 (ofI op oa ob).2.1 (ofI op oa ob).2.2.1 (ofI op oa ob).2.2.2 = some q) : ∃ (o : Nat) (x y : R), 1 ≤ o ∧ o ≤ 11 ∧ op = o ∧ oa = some x ∧ ob = some y ∧ q = ofR o x y := by
  have bad : toR 1 0 0 0 = none := by decide
  cases oa with
  | none => rw [ofI_none] at h; rw [bad] at h; cases h
  | some x =>
    cases ob with
    | none => rw [ofI_none'] at h; rw [bad] at h; cases h
    | some y =>
      by_cases h1 : 1 ≤ op ∧ op ≤ 11
      · obtain ⟨o, rfl⟩ := Int.eq_ofNat_of_zero_le (show 0 ≤ op by omega)
        rw [ofI_nat (by omega) (by omega)] at h
        refine ⟨o, x, y, by omega, by omega, rfl, rfl, rfl, ?_⟩
        obtain ⟨_, e1, e2, e3, e4⟩ := toR_some h
        generalize ofR o x y = z at *
        have e1 : (z.lo : Int) = q.lo := e1
        have e2 : (z.hi : Int) = q.hi := e2
        have e3 : (z.bt : Int) = q.bt := e3
        have e4 : (z.op : Int) = q.op := e4
        cases z; cases q
        simp only [R.mk.injEq] at *
        omega
      · rw [ofI_bad h1] at h; rw [bad] at h; cases h
theorem doI_nat {o u v : Nat} (h1 : 1 ≤ o) (h2 : o ≤ 11) (hu : u < 2 ^ 32) (hv : v < 2 ^ 32) : doI o u v = ((doR o u v : Nat) : Int) := by
  unfold doI
  rw [if_pos (by omega)]
  simp only [Int.toNat_natCast]

theorem one_some {n : Nat} (h : n < 2 ^ 32) : someR (ans (R.one n)).1 (ans (R.one n)).2.1 (ans (R.one n)).2.2.1 (ans (R.one n)).2.2.2 = some (R.one n) :=
  someR_ok (one_ok h) (by rw [one_least h]; rfl)
theorem ofR_one {o u v : Nat} : ofR o (R.one u) (R.one v) = R.one (doR o u v) := by
  unfold ofR ofT
  rw [one_tidy, one_tidy, if_pos ⟨rfl, rfl⟩]
  rfl
theorem FnOfOne : laws_FnOfOne.Pure := by
  intro l0 _ _ hl0
  refine ⟨300, ?_⟩
  unfold laws_FnOfOne.f
  split
  · rfl
  obtain ⟨v, hv, _⟩ := drawOf_gives (k := 300) hl0 (by decide)
  obtain ⟨op, a, b, c, d, e, f, g, h⟩ := v
  rw [hv]
  simp only [Option.bind_some, implRangeOf_sem _ _ _ _ _ _ _ _ _ (show 80 < 300 by decide), specRangeOf_sem _ _ _ _ _ _ _ _ _ (show 150 < 300 by decide), beq_self_eq_true, Bool.not_true, Bool.or_self, Bool.false_eq_true, if_false, implOk_sem, laws_FnOfOne.j0]
  cases hq : toR (ofI op (someR a b c d) (someR e f g h)).1 (ofI op (someR a b c d) (someR e f g h)).2.1 (ofI op (someR a b c d) (someR e f g h)).2.2.1 (ofI op (someR a b c d) (someR e f g h)).2.2.2 with
  | none =>
    rw [if_pos (by rfl), specRangeOf_sem _ _ _ _ _ _ _ _ _ (show 150 < 299 by decide)]
    simp only [Option.bind_some, beq_self_eq_true, Bool.and_self]
  | some q =>
    rw [if_neg (show ¬ ((!(some q).isSome) = true) by simp)]
    obtain ⟨o, x, y, h1, h2, rfl, hx, hy, rfl⟩ := ofI_some hq
    obtain ⟨⟨ox, ea, eb, ec, ed⟩, sx⟩ := someR_some hx
    obtain ⟨⟨oy, ee, ef, eg, eh⟩, sy⟩ := someR_some hy
    obtain ⟨p, hp, hpx⟩ := least_wit ox sx
    obtain ⟨r, hr, hry⟩ := least_wit oy sy
    have px := Nat.lt_of_le_of_lt hpx.2.1 ox.2.1
    have ry := Nat.lt_of_le_of_lt hry.2.1 oy.2.1
    have tx : toR a b c d = some x := by rw [ea, eb, ec, ed]; exact toR_ok ox
    have ty : toR e f g h = some y := by rw [ee, ef, eg, eh]; exact toR_ok oy
    have l1 : leastO (some x) = (p : Int) := by show num x.least = _; rw [hp]; rfl
    have l2 : leastO (some y) = (r : Int) := by show num y.least = _; rw [hr]; rfl
    have hd : doR o p r < 2 ^ 32 := doR_lt px ry
    simp only [implLeast_sem _ _ _ _ (show 65 < 299 by decide), tx, ty, l1, l2, Option.bind_some, one_ans px, one_ans ry, implRangeOf_sem _ _ _ _ _ _ _ _ _ (show 80 < 299 by decide), one_some px, one_some ry, ofI_nat h1 h2, ofR_one, implDo_eq _ _ _ (show 1 < 299 by decide), doI_nat h1 h2 px ry, one_ans hd, beq_self_eq_true, Bool.and_self]

end Go.Proofs.Ytdhijcfohbkpoaa.Pure
