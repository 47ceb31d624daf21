/- The law FnExactRangeBranch, as a statement about numbers and lists alone: the program and the reference part two ranges alike. It holds at every input. -/
import Derived.Test.YtjengfiaphgjbaaQ12
import Derived.Test.YtjengfiaphgjbaaMath
namespace Go.Proofs.Ytjengfiaphgjbaa.Pure
open Go Go.RowKit Go.Proofs.Ytjengfiaphgjbaa.Q Go.Proofs.YtjengfiaphgjbaaW.PrintWords Go.Proofs.YtjengfiaphgjbaaW.PrintLast Go.Proofs.YtjengfiaphgjbaaW.PrintMore Rg

theorem l1In_eq (a b c : Int) : spec_l1In.f a b c = some (decide (b ≤ a ∧ a ≤ c)) := by
  unfold spec_l1In.f
  by_cases h : a ≥ b
  · rw [if_pos h]; simp [show b ≤ a from h]
  · rw [if_neg h]; simp [show ¬ b ≤ a from h]
theorem within_eq (a b c : Int) : impl_within.f a b c = some (decide (b ≤ a ∧ a ≤ c)) := by
  unfold impl_within.f
  by_cases h : a ≥ b
  · rw [if_pos h]; simp [show b ≤ a from h]
  · rw [if_neg h]; simp [show ¬ b ≤ a from h]
theorem numOk_eq (a : Int) : impl_numOk.f a = some (decide (0 ≤ a ∧ a ≤ 4294967295)) := by
  unfold impl_numOk.f
  rw [within_eq]; rfl
theorem l2Ok_eq (a b c d : Int) : spec_l2Ok.f a b c d = some (decide (okI a b c d)) := by
  unfold spec_l2Ok.f
  simp only [l1In_eq, Option.bind_some, decide_eq_true_eq]
  by_cases h : okI a b c d
  · have h' := h
    obtain ⟨h1, h2, h3, h4, h5, h6, h7, h8⟩ := h'
    rw [if_pos ⟨h1, h2⟩, if_pos h3, if_pos ⟨h4, h5⟩, if_pos ⟨h6, h7⟩, and_zero_i h4 h5 h6 h7, decide_eq_true h8, decide_eq_true h]
  · rw [decide_eq_false h]
    by_cases c1 : 0 ≤ a ∧ a ≤ b
    · rw [if_pos c1]
      by_cases c2 : b ≤ 4294967295
      · rw [if_pos c2]
        by_cases c3 : 0 ≤ c ∧ c ≤ 4294967295
        · rw [if_pos c3]
          by_cases c4 : 0 ≤ d ∧ d ≤ 4294967295
          · rw [if_pos c4, and_zero_i c3.1 c3.2 c4.1 c4.2]
            rw [decide_eq_false]
            intro e
            exact h ⟨c1.1, c1.2, c2, c3.1, c3.2, c4.1, c4.2, e⟩
          · rw [if_neg c4]
        · rw [if_neg c3]
      · rw [if_neg c2]
    · rw [if_neg c1]
theorem implOk_eq (a b c d : Int) : impl_RangeOk.f a b c d = some (decide (okI a b c d)) := by
  unfold impl_RangeOk.f
  simp only [numOk_eq, within_eq, Option.bind_some, decide_eq_true_eq]
  by_cases h : okI a b c d
  · have h' := h
    obtain ⟨h1, h2, h3, h4, h5, h6, h7, h8⟩ := h'
    rw [if_pos ⟨h1, by omega⟩, if_pos ⟨h2, h3⟩, if_pos ⟨h4, h5⟩, if_pos ⟨h6, h7⟩, and_zero_i h4 h5 h6 h7, decide_eq_true h8, decide_eq_true h]
  · rw [decide_eq_false h]
    by_cases c1 : 0 ≤ a ∧ a ≤ 4294967295
    · rw [if_pos c1]
      by_cases c2 : a ≤ b ∧ b ≤ 4294967295
      · rw [if_pos c2]
        by_cases c3 : 0 ≤ c ∧ c ≤ 4294967295
        · rw [if_pos c3]
          by_cases c4 : 0 ≤ d ∧ d ≤ 4294967295
          · rw [if_pos c4, and_zero_i c3.1 c3.2 c4.1 c4.2]
            rw [decide_eq_false]
            intro e
            exact h ⟨c1.1, c2.1, c2.2, c3.1, c3.2, c4.1, c4.2, e⟩
          · rw [if_neg c4]
        · rw [if_neg c3]
      · rw [if_neg c2]
    · rw [if_neg c1]
theorem has_iff {r : R} {m : Nat} : r.has m ↔ ((r.lo : Int) ≤ m ∧ (m : Int) ≤ r.hi) ∧ andn m r.op = r.bt := by
  unfold R.has
  constructor
  · rintro ⟨h1, h2, h3⟩; exact ⟨⟨by omega, by omega⟩, h3⟩
  · rintro ⟨⟨h1, h2⟩, h3⟩; exact ⟨by omega, by omega, h3⟩
theorem implHas_eq {r : R} (h : r.ok) (m : Nat) : impl_Range_has.f r.lo r.hi r.bt r.op m = some (decide (r.has m)) := by
  unfold impl_Range_has.f
  simp only [within_eq, Option.bind_some, decide_eq_true_eq]
  obtain ⟨h1, h2, h3, h4, h5⟩ := h
  by_cases c : (r.lo : Int) ≤ m ∧ (m : Int) ≤ r.hi
  · rw [if_pos c, bandn (by omega) (by omega)]
    by_cases e : andn m r.op = r.bt
    · rw [e, decide_eq_true (has_iff.2 ⟨c, e⟩)]; simp
    · have : ¬ r.has m := fun x => e (has_iff.1 x).2
      rw [decide_eq_false this]; simp; omega
  · have : ¬ r.has m := fun x => c (has_iff.1 x).1
    rw [if_neg c, decide_eq_false this]
theorem above_from {r : R} (h : r.ok) (d : Nat) : ∀ (k i : Nat), i + d = 32 → 2 * d < k →
    impl_Range_above.l0 k i r.lo r.hi r.bt r.op = some (num ((firstFrom (cand r.bt r.op r.lo) d i).map (val r.bt r.lo))) := by
  obtain ⟨h1, h2, h3, h4, h5⟩ := h
  induction d with
  | zero =>
    intro k i hi hk
    obtain ⟨k, rfl⟩ : ∃ m, k = m + 1 := ⟨k - 1, by omega⟩
    simp only [impl_Range_above.l0]
    rw [if_neg (by omega)]; rfl
  | succ d ih =>
    intro k i hi hk
    obtain ⟨k, rfl⟩ : ∃ m, k = m + 1 := ⟨k - 1, by omega⟩
    have q1 : (i : Int) < 32 := by omega
    have q2 : (0 : Int) ≤ (i : Int) := by omega
    have q3 : i + 1 ≤ 62 := by omega
    have q4 : i ≤ 62 := by omega
    have q5 : i ≤ 64 := by omega
    have q6 : i < 4611686018427387904 := by omega
    have nxt' : impl_Range_above.l0 (k - 1) ((i + 1 : Nat) : Int) r.lo r.hi r.bt r.op = _ := ih (k - 1) (i + 1) (by omega) (by omega)
    have e2 : shl .i64 2 (i : Int) = ((2 ^ (i + 1) : Nat) : Int) := by
      have hp : 2 ^ i ≤ 2 ^ 32 := Nat.pow_le_pow_right (by decide) (by omega)
      have := shl_nat (a := 2) (k := i) q4 (Nat.lt_of_le_of_lt (Nat.mul_le_mul_left 2 hp) (by decide))
      rw [Nat.pow_succ, Nat.mul_comm]; exact this
    have hk1 : k = k - 1 + 1 := by omega
    clear ih hk hi
    rw [hk1]
    generalize k - 1 = k' at nxt'
    have o32 := Nat.or_lt_two_pow h3 h4
    simp only [impl_Range_above.l0, impl_Range_above.j1]
    rw [if_pos q1, if_pos q2, w_succ q6, nxt', bit_nat (i32 (Nat.lt_of_le_of_lt h1 h2)) q5, bor (i32 h3) (i32 h4), bit_nat (i32 o32) q5, e2, w_pow q3, shl_one q4, w_pow q4]
    rw [band_not (i32 (Nat.lt_of_le_of_lt h1 h2)) (mask_lt q3), band_not (i32 h3) (mask_lt q3), andn_mask, andn_mask, bandn (i32 (cut32 (Nat.lt_of_le_of_lt h1 h2))) (i32 h4), band (i32 h3) (mask_lt q4), and_mask, bor (i32 (cut32 (Nat.lt_of_le_of_lt h1 h2))) (Nat.lt_of_le_of_lt (Nat.pow_le_pow_right (by decide) q4) (by decide)), bor (Nat.or_lt_two_pow (i32 (cut32 (Nat.lt_of_le_of_lt h1 h2))) (Nat.lt_of_le_of_lt (Nat.pow_le_pow_right (by decide) q4) (by decide))) (i32 (Nat.lt_of_le_of_lt (Nat.mod_le _ _) h3))]
    simp only [firstFrom]
    have split : cand r.bt r.op r.lo i = (!r.lo.testBit i && (r.bt ||| r.op).testBit i && decide (andn (r.lo / 2 ^ (i + 1) * 2 ^ (i + 1)) r.op = r.bt / 2 ^ (i + 1) * 2 ^ (i + 1))) := rfl
    by_cases c1 : r.lo.testBit i = true
    · rw [if_pos c1, if_pos rfl, if_pos trivial, split, c1]; rfl
    · rw [if_neg c1, if_neg (by decide)]
      by_cases c2 : (r.bt ||| r.op).testBit i = true
      · rw [if_pos c2, if_neg (by decide)]
        by_cases c3 : andn (r.lo / 2 ^ (i + 1) * 2 ^ (i + 1)) r.op = r.bt / 2 ^ (i + 1) * 2 ^ (i + 1)
        · have : cand r.bt r.op r.lo i = true := by rw [split, c2, decide_eq_true c3]; simpa using c1
          rw [c3, if_neg (by simp), if_pos q2, if_pos this]; rfl
        · have : ¬ cand r.bt r.op r.lo i = true := by rw [split, decide_eq_false c3]; simp
          rw [if_pos (bne_iff_ne.2 fun e => c3 (Int.ofNat_inj.1 e)), if_neg this]
      · rw [if_neg c2, if_pos rfl, if_pos trivial]
        have : ¬ cand r.bt r.op r.lo i = true := by rw [split]; simp [c2]
        rw [if_neg this]
theorem above_eq {r : R} (h : r.ok) {k : Nat} (hk : 64 < k) : impl_Range_above.f k r.lo r.hi r.bt r.op = some (num (above r.bt r.op r.lo)) := above_from h 32 k 0 (by omega) (by omega)
theorem least_eq {r : R} (h : r.ok) {k : Nat} (hk : 65 < k) : impl_Range_least.f k r.lo r.hi r.bt r.op = some (num r.least) := by
  obtain ⟨k, rfl⟩ : ∃ m, k = m + 1 := ⟨k - 1, by omega⟩
  unfold impl_Range_least.f
  have hlo := R.lo_lt h
  have ho := h.2.2.2.1
  rw [bandn (i32 hlo) (i32 ho), above_eq h (by omega)]
  simp only [Option.bind_some, impl_Range_least.j0]
  have key : ∀ y : Nat, andn y r.op = r.bt → r.lo ≤ y → (r.has y ↔ y ≤ r.hi) := fun y hb hl => ⟨fun x => x.2.1, fun x => ⟨hl, x, hb⟩⟩
  by_cases c : andn r.lo r.op = r.bt
  · rw [if_pos (by rw [c]), if_neg (by omega), implHas_eq h]
    simp only [Option.bind_some, decide_eq_true_eq]
    have e : nxt r.bt r.op r.lo = some r.lo := by unfold nxt; rw [if_pos c]
    unfold R.least
    rw [e]
    simp only
    rw [if_pos ((key _ c (Nat.le_refl _)).2 h.1), if_pos h.1]; rfl
  · rw [if_neg (fun e => c (Int.ofNat_inj.1 e))]
    have e : nxt r.bt r.op r.lo = above r.bt r.op r.lo := by unfold nxt; rw [if_neg c]
    unfold R.least
    rw [e]
    cases ha : above r.bt r.op r.lo with
    | none => rfl
    | some y =>
      obtain ⟨h1, h2, h3, _⟩ := above_some h.2.2.2.2 hlo ha
      show (if (y : Int) < 0 then _ else _) = _
      rw [if_neg (by omega)]
      show ((impl_Range_has.f r.lo r.hi r.bt r.op (y : Int)).bind fun t => _) = _
      rw [implHas_eq h]
      simp only [Option.bind_some, decide_eq_true_eq, key y h2 (by omega)]
      by_cases c2 : y ≤ r.hi
      · rw [if_pos c2, if_pos c2]
      · rw [if_neg c2, if_neg c2]; rfl
theorem some_bad {a b c d : Int} (h : ¬ okI a b c d) (k : Nat) : impl_Range_some.f k a b c d = some false := by
  unfold impl_Range_some.f
  rw [implOk_eq, decide_eq_false h]; rfl
theorem some_eq {r : R} (h : r.ok) {k : Nat} (hk : 66 < k) : impl_Range_some.f k r.lo r.hi r.bt r.op = some r.least.isSome := by
  unfold impl_Range_some.f
  rw [implOk_eq, decide_eq_true (okI_nat.2 h)]
  simp only [Option.bind_some, if_true]
  rw [least_eq h (by omega)]
  cases r.least with
  | none => rfl
  | some y =>
    show some (decide ((y : Int) ≥ 0)) = some true
    rw [decide_eq_true (by omega)]
theorem mask_from {n : Nat} (hn : n < 2 ^ 60) (d : Nat) : ∀ (k j : Nat), j + d = blen n → d < k → spec_l2Mask.l0 k n ((2 ^ j - 1 : Nat) : Int) = some ((ones n : Nat) : Int) := by
  have hb := blen_le hn
  induction d with
  | zero =>
    intro k j hj hk
    obtain ⟨k, rfl⟩ : ∃ m, k = m + 1 := ⟨k - 1, by omega⟩
    have := lt_blen n
    have e : j = blen n := by omega
    subst e
    simp only [spec_l2Mask.l0]
    rw [if_neg (by omega)]; rfl
  | succ d ih =>
    intro k j hj hk
    obtain ⟨k, rfl⟩ : ∃ m, k = m + 1 := ⟨k - 1, by omega⟩
    have hp := pow_le_62 (k := j) (by omega)
    have hp1 := pow_le_62 (k := j + 1) (by omega)
    have hs := Nat.pow_succ 2 j
    have h0 := Nat.two_pow_pos j
    have lt : 2 ^ j ≤ n := by
      rcases Nat.lt_or_ge n (2 ^ j) with h | h
      · have := blen_le h; omega
      · exact h
    simp only [spec_l2Mask.l0]
    rw [if_pos (by omega)]
    have e : wrap64 (wrap64 (((2 ^ j - 1 : Nat) : Int) * 2) + 1) = ((2 ^ (j + 1) - 1 : Nat) : Int) := by
      rw [wrap64_id (n := ((2 ^ j - 1 : Nat) : Int) * 2) (by omega) (by omega), wrap64_id (by omega) (by omega)]; omega
    rw [e]
    exact ih k (j + 1) (by omega) (by omega)
theorem mask_eq {n k : Nat} (hn : n < 2 ^ 60) (hk : 60 < k) : spec_l2Mask.f k n = some ((ones n : Nat) : Int) := by
  have hb := blen_le hn
  exact mask_from hn (blen n) k 0 (by omega) (by omega)
theorem mask_pow {j k : Nat} (hj : j ≤ 59) (hk : 60 < k) : spec_l2Mask.f k ((2 ^ j - 1 : Nat) : Int) = some ((2 ^ j - 1 : Nat) : Int) := by
  have h0 := Nat.two_pow_pos j
  have := Nat.pow_le_pow_right (n := 2) (by decide) (show j ≤ 59 from hj)
  rw [mask_eq (by omega) hk]
  unfold ones
  rw [blen_mask]
theorem over_succ {j k : Nat} (hj : j ≤ 33) (hk : 60 < k) : spec_l2Over.f k ((j + 1 : Nat) : Int) = some ((upFrom j : Nat) : Int) := by
  have h0 := Nat.two_pow_pos j
  have hp := pow_le_62 (k := j) (by omega)
  unfold spec_l2Over.f
  rw [if_neg (by omega)]
  try simp only [Option.bind_some]
  rw [w_pred (by omega), if_pos (by omega), shl_one (by omega), w_pow (by omega), mask_pow (by omega) hk]
  try simp only [Option.bind_some]
  rw [show (4294967295 : Int) = ((4294967295 : Nat) : Int) from rfl, bxor (by decide) (by omega)]; rfl
theorem over_zero {k : Nat} : spec_l2Over.f k 0 = some ((4294967295 : Nat) : Int) := rfl
theorem next_from {r : R} (h : r.ok) {m : Nat} (hm : m < 2 ^ 32) (d : Nat) : ∀ (k i : Nat) (b : Option Nat), i + d = 32 → 2 * d + 64 < k → (∀ v, b = some v → ∀ j, i ≤ j → cand r.bt r.op m j = true → v < val r.bt m j) →
    spec_l2Next.l0 k m (num b) ((i + 1 : Nat) : Int) r.lo r.hi r.bt r.op = some (num (best b ((firstFrom (cand r.bt r.op m) d i).map (val r.bt m)))) := by
  obtain ⟨h1, h2, h3, h4, h5⟩ := h
  induction d with
  | zero =>
    intro k i b hi hk hb
    obtain ⟨k, rfl⟩ : ∃ m, k = m + 1 := ⟨k - 1, by omega⟩
    simp only [spec_l2Next.l0]
    rw [if_neg (by omega)]
    cases b <;> rfl
  | succ d ih =>
    intro k i b hi hk hb
    obtain ⟨k, rfl⟩ : ∃ m, k = m + 1 := ⟨k - 1, by omega⟩
    have q1 : ((i + 1 : Nat) : Int) ≤ 32 := by omega
    have q2 : (0 : Int) ≤ ((i + 1 : Nat) : Int) := by omega
    have q3 : ((i + 1 : Nat) : Int) > 0 := by omega
    have q4 : (0 : Int) ≤ ((i : Nat) : Int) := by omega
    have q5 : i + 1 ≤ 59 := by omega
    have q6 : i + 1 ≤ 62 := by omega
    have q7 : i ≤ 62 := by omega
    have q8 : i ≤ 64 := by omega
    have q9 : 60 < k := by omega
    have q10 : i ≤ 33 := by omega
    have q11 : 60 < k - 1 := by omega
    have q12 : i + 1 < 4611686018427387904 := by omega
    have q13 : i < 4611686018427387904 := by omega
    have hi32 : i < 32 := by omega
    have hb' : ∀ v, b = some v → ∀ j, i + 1 ≤ j → cand r.bt r.op m j = true → v < val r.bt m j := fun v hv j hj => hb v hv j (by omega)
    have rec1 := ih k (i + 1) b (by omega) (by omega) hb'
    have rec2 : ∀ b', (∀ v, b' = some v → ∀ j, i + 1 ≤ j → cand r.bt r.op m j = true → v < val r.bt m j) → _ := fun b' => ih (k - 1) (i + 1) b' (by omega) (by omega)
    have hk1 : k = k - 1 + 1 := by omega
    clear ih hk hi
    have hm1 := mask_lt q6
    simp only [spec_l2Next.l0]
    rw [if_pos q1]
    try simp only [Option.bind_some]
    rw [if_pos q2, shl_one q6, w_pow q6, mask_pow q5 q9]
    try simp only [Option.bind_some]
    rw [if_pos q3, w_pred q13, if_pos q4, bit_nat (i32 hm) q8, w_succ q12, shl_one q7, show (4294967295 : Int) = ((4294967295 : Nat) : Int) from rfl, bxor (by decide) hm1, band (i32 hm) (flip63 hm1), flip_and hm, andn_mask, bor (i32 (cut32 hm)) (i32 (Nat.pow_lt_pow_right (by decide) hi32))]
    simp only [firstFrom]
    by_cases c1 : m.testBit i = true
    · rw [if_pos c1, if_pos rfl]
      have nc : ¬ cand r.bt r.op m i = true := fun c => by rw [(cand_iff.1 c).1] at c1; cases c1
      rw [if_neg nc]
      exact rec1
    · rw [if_neg c1, if_neg (by decide)]
      clear rec1
      have hup63 : upFrom i < 2 ^ 63 := Nat.lt_trans (upFrom_lt q10) (by decide)
      rw [hk1]
      generalize k - 1 = k' at rec2 q11
      have c1' : m.testBit i = false := by simpa using c1
      simp only [spec_l2Next.j1]
      rw [over_succ q10 q11]
      try simp only [Option.bind_some]
      rw [w_succ q12, show (4294967295 : Int) = ((4294967295 : Nat) : Int) from rfl, bxor (by decide) (i32 h4), bxor (by decide) hup63, band (i32 (cutor32 hm hi32)) (flip63 (i32 h4)), band (Nat.lt_of_le_of_lt Nat.and_le_left (i32 (cutor32 hm hi32))) hup63, band (i32 h3) hup63, band (i32 (cutor32 hm hi32)) hup63, band (i32 h3) (flip63 hup63)]
      rw [bor (Nat.lt_of_le_of_lt Nat.and_le_left (i32 (cutor32 hm hi32))) (Nat.lt_of_le_of_lt Nat.and_le_left (i32 h3)), val_spec hm hi32]
      by_cases c2 : cand r.bt r.op m i = true
      · rw [if_pos (by rw [(cand_spec h5 h3 hm hi32 c1').2 c2]), if_pos c2]
        have after : ∀ v, some (val r.bt m i) = some v → ∀ j, i + 1 ≤ j → cand r.bt r.op m j = true → v < val r.bt m j := by
          intro v hv j hj hc
          injection hv with hv
          subst hv
          exact val_lt_val hj hc
        cases b with
        | none =>
          rw [if_pos (show num none < 0 by decide)]
          exact rec2 (some (val r.bt m i)) after
        | some v =>
          have hv := hb v rfl i (Nat.le_refl _) c2
          rw [if_neg (not_neg v), if_neg (not_lt_num hv)]
          exact rec2 (some v) hb'
      · rw [if_neg (fun e => c2 ((cand_spec h5 h3 hm hi32 c1').1 (Int.ofNat_inj.1 e))), if_neg c2]
        exact rec2 b hb'
theorem next_eq {r : R} (h : r.ok) {m : Nat} (hm : m < 2 ^ 32) {k : Nat} (hk : 140 < k) : spec_l2Next.f k r.lo r.hi r.bt r.op m = some (num (nxt r.bt r.op m)) := by
  obtain ⟨k, rfl⟩ : ∃ m, k = m + 1 := ⟨k - 1, by omega⟩
  have h' := h
  obtain ⟨h1, h2, h3, h4, h5⟩ := h'
  unfold spec_l2Next.f
  simp only [spec_l2Next.l0]
  rw [if_pos (by decide)]
  try simp only [Option.bind_some]
  have es : wrap64 (shl .i64 1 ((0 : Nat) : Int) - 1) = ((2 ^ 0 - 1 : Nat) : Int) := by rw [shl_one (by omega), wrap64_id (by decide) (by decide)]; rfl
  rw [if_pos (by decide), show wrap64 (shl .i64 1 0 - 1) = ((2 ^ 0 - 1 : Nat) : Int) from es, mask_pow (by omega) (by omega)]
  try simp only [Option.bind_some]
  rw [if_neg (by decide)]
  obtain ⟨k, rfl⟩ : ∃ m, k = m + 1 := ⟨k - 1, by omega⟩
  simp only [spec_l2Next.j1]
  rw [over_zero]
  try simp only [Option.bind_some]
  rw [show (4294967295 : Int) = ((4294967295 : Nat) : Int) from rfl, bxor (by decide) (by decide), bxor (by decide) (i32 h4), bxor (by decide) (by decide), band (i32 hm) (by decide)]
  have e0 : m &&& (4294967295 ^^^ (2 ^ 0 - 1)) = m := by
    rw [flip_and hm]
    apply eq_of_bits
    intro i
    rw [testBit_andn, testBit_mask]; simp
  have et : ∀ x : Nat, x < 2 ^ 32 → x &&& 4294967295 = x := fun x hx => by
    rw [show (4294967295 : Nat) = 2 ^ 32 - 1 from rfl, and_mask]
    exact Nat.mod_eq_of_lt hx
  rw [e0, band (i32 hm) (flip63 (i32 h4)), flip_and hm, band (Nat.lt_of_le_of_lt (andn_le _ _) (i32 hm)) (by decide), band (i32 h3) (by decide), band (i32 hm) (by decide), band (i32 h3) (by decide)]
  rw [et _ (Nat.lt_of_le_of_lt (andn_le _ _) hm), et _ h3, et _ hm, bor (i32 hm) (Nat.lt_of_le_of_lt Nat.and_le_left (i32 h3))]
  have e4 : m ||| (r.bt &&& (4294967295 ^^^ 4294967295)) = m := by simp
  have e5 : wrap64 (0 + 1) = ((0 + 1 : Nat) : Int) := by rw [wrap64_id (by decide) (by decide)]; rfl
  rw [e4, e5]
  by_cases c : andn m r.op = r.bt
  · rw [if_pos (by rw [c]), if_pos (by decide)]
    have : nxt r.bt r.op m = some m := by unfold nxt; rw [if_pos c]
    rw [this]
    exact next_from h hm 32 k 0 (some m) (by omega) (by omega) (fun v hv j _ hc => by injection hv with hv; subst hv; exact val_gt hc)
  · rw [if_neg (fun e => c (by omega))]
    have : nxt r.bt r.op m = above r.bt r.op m := by unfold nxt; rw [if_neg c]
    rw [this]
    exact next_from h hm 32 k 0 none (by omega) (by omega) (fun v hv => by cases hv)
theorem l2Some_eq {r : R} (h : r.ok) {k : Nat} (hk : 140 < k) : spec_l2Some.f k r.lo r.hi r.bt r.op = some r.least.isSome := by
  unfold spec_l2Some.f
  rw [next_eq h (R.lo_lt h) hk]
  try simp only [Option.bind_some]
  unfold R.least
  cases nxt r.bt r.op r.lo with
  | none => rfl
  | some y =>
    show (if (y : Int) ≥ 0 then some (decide ((y : Int) ≤ r.hi)) else some false) = _
    rw [if_pos (by omega)]
    by_cases c : y ≤ r.hi
    · rw [decide_eq_true (by omega)]; simp [c]
    · rw [decide_eq_false (by omega)]; simp [c]
theorem l2Tidy_eq {r : R} (h : R32 r) {k : Nat} (hk : 61 < k) : spec_l2Tidy.f k r.lo r.hi r.bt r.op = some (ans r.tidy) := by
  have h' := h
  obtain ⟨h1, h2, h3, h4⟩ := h'
  have hx := h.xor
  have hm := ones_lt hx
  have hal : andn r.lo (ones (r.lo ^^^ r.hi)) < 2 ^ 32 := Nat.lt_of_le_of_lt (andn_le _ _) h1
  have hob : r.bt ||| andn r.lo (ones (r.lo ^^^ r.hi)) < 2 ^ 32 := Nat.or_lt_two_pow h3 hal
  have hop : r.op &&& ones (r.lo ^^^ r.hi) < 2 ^ 32 := Nat.lt_of_le_of_lt Nat.and_le_left h4
  have hbt : andn (r.bt ||| andn r.lo (ones (r.lo ^^^ r.hi))) (r.op &&& ones (r.lo ^^^ r.hi)) < 2 ^ 32 := Nat.lt_of_le_of_lt (andn_le _ _) hob
  obtain ⟨k, rfl⟩ : ∃ m, k = m + 1 := ⟨k - 1, by omega⟩
  unfold spec_l2Tidy.f spec_l2Bits.f
  simp only [spec_l2Tidy.j0]
  rw [bxor (i32 h1) (i32 h2), mask_eq (by omega) (by omega)]
  try simp only [Option.bind_some]
  rw [show (4294967295 : Int) = ((4294967295 : Nat) : Int) from rfl, bxor (by decide) (i32 hm), band (i32 h1) (flip63 (i32 hm)), flip_and h1, bor (i32 h3) (i32 hal), band (i32 h4) (i32 hm), bxor (by decide) (i32 hop), band (i32 hob) (flip63 (i32 hop)), flip_and hob, bor (i32 hbt) (i32 hop)]
  show _ = some (((max r.lo (andn (r.bt ||| andn r.lo (ones (r.lo ^^^ r.hi))) (r.op &&& ones (r.lo ^^^ r.hi))) : Nat) : Int), ((min r.hi (andn (r.bt ||| andn r.lo (ones (r.lo ^^^ r.hi))) (r.op &&& ones (r.lo ^^^ r.hi)) ||| (r.op &&& ones (r.lo ^^^ r.hi))) : Nat) : Int), ((andn (r.bt ||| andn r.lo (ones (r.lo ^^^ r.hi))) (r.op &&& ones (r.lo ^^^ r.hi)) : Nat) : Int), ((r.op &&& ones (r.lo ^^^ r.hi) : Nat) : Int))
  generalize andn (r.bt ||| andn r.lo (ones (r.lo ^^^ r.hi))) (r.op &&& ones (r.lo ^^^ r.hi)) = B
  generalize r.op &&& ones (r.lo ^^^ r.hi) = O
  by_cases c1 : B > r.lo
  · rw [if_pos (by omega), Nat.max_eq_right (by omega)]
    by_cases c2 : B ||| O < r.hi
    · rw [if_pos (by omega), Nat.min_eq_right (by omega)]
    · rw [if_neg (by omega), Nat.min_eq_left (by omega)]
  · rw [if_neg (by omega), Nat.max_eq_left (by omega)]
    by_cases c2 : B ||| O < r.hi
    · rw [if_pos (by omega), Nat.min_eq_right (by omega)]
    · rw [if_neg (by omega), Nat.min_eq_left (by omega)]
theorem len_eq {x : Nat} (h : x < 2 ^ 63) : bits_Len.f x = some ((blen x : Nat) : Int) := by
  unfold bits_Len.f
  rw [if_pos (by omega), if_pos (by omega), Int.toNat_natCast]
  unfold Lib.bitLen
  rw [bitLenAux_eq 64 x (by omega)]
theorem implTidy_eq {r : R} (h : R32 r) : impl_Range_tidy.f r.lo r.hi r.bt r.op = some (ans r.tidy) := by
  have h' := h
  obtain ⟨h1, h2, h3, h4⟩ := h'
  have hx := h.xor
  have hb := blen_le hx
  have hp := pow_le_62 (k := blen (r.lo ^^^ r.hi)) (by omega)
  have hp0 := Nat.two_pow_pos (blen (r.lo ^^^ r.hi))
  have hm := ones_lt hx
  have hal : andn r.lo (ones (r.lo ^^^ r.hi)) < 2 ^ 32 := Nat.lt_of_le_of_lt (andn_le _ _) h1
  have hob : r.bt ||| andn r.lo (ones (r.lo ^^^ r.hi)) < 2 ^ 32 := Nat.or_lt_two_pow h3 hal
  have hop : r.op &&& ones (r.lo ^^^ r.hi) < 2 ^ 32 := Nat.lt_of_le_of_lt Nat.and_le_left h4
  have hbt : andn (r.bt ||| andn r.lo (ones (r.lo ^^^ r.hi))) (r.op &&& ones (r.lo ^^^ r.hi)) < 2 ^ 32 := Nat.lt_of_le_of_lt (andn_le _ _) hob
  have ew : IntKind.u64.wrap ((r.lo ^^^ r.hi : Nat) : Int) = ((r.lo ^^^ r.hi : Nat) : Int) := by
    simp only [IntKind.wrap, IntKind.bits, IntKind.signed]
    simp
    omega
  have em : wrap64 (((2 ^ blen (r.lo ^^^ r.hi) : Nat) : Int) - 1) = ((ones (r.lo ^^^ r.hi) : Nat) : Int) := by
    rw [wrap64_id (by omega) (by omega)]; unfold ones; omega
  unfold impl_Range_tidy.f
  rw [bxor (i32 h1) (i32 h2), ew, len_eq (i32 hx)]
  try simp only [Option.bind_some]
  rw [if_pos (by omega), shl_one (by omega), em, bandn (i32 h1) (i32 hm), bor (i32 h3) (i32 hal), band (i32 h4) (i32 hm), bandn (i32 hob) (i32 hop), bor (i32 hbt) (i32 hop), mx_nat, mn_nat]
  rfl
theorem some_any (a b c d : Int) {k : Nat} (hk : 66 < k) : impl_Range_some.f k a b c d = some (someR a b c d).isSome := by
  cases h : toR a b c d with
  | none => rw [some_bad (toR_none h), someR_bad h]; rfl
  | some r =>
    obtain ⟨hr, rfl, rfl, rfl, rfl⟩ := toR_some h
    rw [some_eq hr hk]
    by_cases c : r.least.isSome = true
    · rw [someR_ok hr c, c]; rfl
    · rw [someR_empty hr c]; simpa using c
theorem l2Meet_eq {x y : R} (hx : x.ok) (hy : y.ok) {k : Nat} (hk : 145 < k) : spec_l2Meet.f k x.lo x.hi x.bt x.op y.lo y.hi y.bt y.op = some (match meetR x y with
    | some z => ((z.lo : Int), (z.hi : Int), (z.bt : Int), (z.op : Int), true)
    | none => (1, 0, 0, 0, false)) := by
  obtain ⟨a1, a2, a3, a4⟩ := lt63 (ok32 hx)
  obtain ⟨b1, b2, b3, b4⟩ := lt63 (ok32 hy)
  obtain ⟨k, rfl⟩ : ∃ m, k = m + 1 := ⟨k - 1, by omega⟩
  have e : (4294967295 ^^^ x.op) &&& (4294967295 ^^^ y.op) &&& (x.bt ^^^ y.bt) = andn (x.bt ^^^ y.bt) (x.op ||| y.op) := by
    apply eq_of_bits
    intro i
    rw [Nat.testBit_and, Nat.testBit_and, flip_bit, flip_bit, testBit_andn, Nat.testBit_xor, Nat.testBit_or]
    by_cases h : i < 32
    · simp only [h, decide_true]
      cases x.bt.testBit i <;> cases y.bt.testBit i <;> cases x.op.testBit i <;> cases y.op.testBit i <;> rfl
    · rw [high_false hx.2.2.1 (by omega), high_false hy.2.2.1 (by omega)]; simp
  have key : ∀ (k : Nat) (lo hi : Nat), 143 < k → lo = max x.lo y.lo → hi = min x.hi y.hi → ¬ x.clash y → spec_l2Meet.j1 (k + 1) lo hi ((x.bt ||| y.bt : Nat) : Int) ((x.op &&& y.op : Nat) : Int) = some (match meetR x y with
    | some z => ((z.lo : Int), (z.hi : Int), (z.bt : Int), (z.op : Int), true)
    | none => (1, 0, 0, 0, false)) := by
    rintro k lo hi hk rfl rfl hc
    simp only [spec_l2Meet.j1]
    unfold meetR
    rw [if_neg hc]
    by_cases c : max x.lo y.lo ≤ min x.hi y.hi
    · have hm : (x.meet y).ok := (meet_ok hx hy).2 c
      rw [if_neg (by omega), if_pos (show (x.meet y).lo ≤ (x.meet y).hi from c)]
      have h1 := l2Some_eq hm (k := k) (by omega)
      have h2 := l2Tidy_eq (ok32 hm) (k := k) (by omega)
      rw [show spec_l2Some.f k ((max x.lo y.lo : Nat) : Int) ((min x.hi y.hi : Nat) : Int) ((x.bt ||| y.bt : Nat) : Int) ((x.op &&& y.op : Nat) : Int) = _ from h1, show spec_l2Tidy.f k ((max x.lo y.lo : Nat) : Int) ((min x.hi y.hi : Nat) : Int) ((x.bt ||| y.bt : Nat) : Int) ((x.op &&& y.op : Nat) : Int) = _ from h2]
      simp only [Option.bind_some]
      by_cases c2 : (x.meet y).least.isSome = true
      · rw [if_pos c2, if_pos c2]; rfl
      · rw [if_neg c2, if_neg c2]
    · rw [if_pos (by omega), if_neg (show ¬ (x.meet y).lo ≤ (x.meet y).hi from c)]
  unfold spec_l2Meet.f
  simp only [spec_l2Meet.j0]
  rw [show (4294967295 : Int) = ((4294967295 : Nat) : Int) from rfl, bxor (by decide) a4, bxor (by decide) b4, bxor a3 b3, band (flip63 a4) (flip63 b4), band (Nat.lt_of_le_of_lt Nat.and_le_left (flip63 a4)) (Nat.xor_lt_two_pow a3 b3), e, bor a3 b3, band a4 b4]
  by_cases hc : x.clash y
  · rw [if_neg (fun z => hc (Int.natCast_eq_zero.1 z))]
    unfold meetR
    rw [if_pos hc]
  · have hz : andn (x.bt ^^^ y.bt) (x.op ||| y.op) = 0 := by unfold R.clash at hc; exact Decidable.not_not.1 hc
    obtain ⟨k, rfl⟩ : ∃ m, k = m + 1 := ⟨k - 1, by omega⟩
    rw [if_pos (by rw [hz]; rfl)]
    by_cases c1 : y.lo > x.lo
    · rw [if_pos (by omega)]
      by_cases c2 : y.hi < x.hi
      · rw [if_pos (by omega)]; exact key _ _ _ (by omega) (by omega) (by omega) hc
      · rw [if_neg (by omega)]; exact key _ _ _ (by omega) (by omega) (by omega) hc
    · rw [if_neg (by omega)]
      by_cases c2 : y.hi < x.hi
      · rw [if_pos (by omega)]; exact key _ _ _ (by omega) (by omega) (by omega) hc
      · rw [if_neg (by omega)]; exact key _ _ _ (by omega) (by omega) (by omega) hc
/-- What meet answers. -/
def meetA : Option R → Int × Int × Int × Int × Bool
  | some z => ((z.lo : Int), (z.hi : Int), (z.bt : Int), (z.op : Int), true)
  | none => (1, 0, 0, 0, false)
theorem implMeet_eq {x y : R} (hx : x.ok) (hy : y.ok) {k : Nat} (hk : 70 < k) : impl_meet.f k x.lo x.hi x.bt x.op y.lo y.hi y.bt y.op = some (meetA (meetR x y)) := by
  obtain ⟨a1, a2, a3, a4⟩ := lt63 (ok32 hx)
  obtain ⟨b1, b2, b3, b4⟩ := lt63 (ok32 hy)
  obtain ⟨k, rfl⟩ : ∃ m, k = m + 1 := ⟨k - 1, by omega⟩
  unfold impl_meet.f
  simp only [impl_meet.j0]
  rw [bxor a3 b3, bor a4 b4, bandn (Nat.xor_lt_two_pow a3 b3) (Nat.or_lt_two_pow a4 b4), mx_nat, mn_nat, bor a3 b3, band a4 b4, some_any _ _ _ _ (by omega)]
  have ht := implTidy_eq (r := x.meet y) (meet32 (ok32 hx) (ok32 hy))
  rw [show impl_Range_tidy.f ((max x.lo y.lo : Nat) : Int) ((min x.hi y.hi : Nat) : Int) ((x.bt ||| y.bt : Nat) : Int) ((x.op &&& y.op : Nat) : Int) = _ from ht]
  unfold meetR
  by_cases hc : x.clash y
  · rw [if_neg (fun z => hc (Int.natCast_eq_zero.1 z)), if_pos hc]; rfl
  · have hz : andn (x.bt ^^^ y.bt) (x.op ||| y.op) = 0 := by unfold R.clash at hc; exact Decidable.not_not.1 hc
    rw [if_pos (by rw [hz]; rfl), if_neg hc]
    by_cases c : (x.meet y).lo ≤ (x.meet y).hi
    · have hm : (x.meet y).ok := (meet_ok hx hy).2 c
      rw [if_pos c]
      by_cases c2 : (x.meet y).least.isSome = true
      · rw [if_pos c2, show someR ((max x.lo y.lo : Nat) : Int) ((min x.hi y.hi : Nat) : Int) ((x.bt ||| y.bt : Nat) : Int) ((x.op &&& y.op : Nat) : Int) = _ from someR_ok hm c2]; rfl
      · rw [if_neg c2, show someR ((max x.lo y.lo : Nat) : Int) ((min x.hi y.hi : Nat) : Int) ((x.bt ||| y.bt : Nat) : Int) ((x.op &&& y.op : Nat) : Int) = _ from someR_empty hm c2]; rfl
    · rw [if_neg c]
      have : toR ((max x.lo y.lo : Nat) : Int) ((min x.hi y.hi : Nat) : Int) ((x.bt ||| y.bt : Nat) : Int) ((x.op &&& y.op : Nat) : Int) = none := by
        unfold toR
        rw [if_neg]
        intro h
        exact c (by have := h.2.1; show max x.lo y.lo ≤ min x.hi y.hi; omega)
      rw [someR_bad this]; rfl
theorem meetA_eq (o : Option R) : (match o with
    | some z => ((z.lo : Int), (z.hi : Int), (z.bt : Int), (z.op : Int), true)
    | none => (1, 0, 0, 0, false)) = meetA o := by cases o <;> rfl
theorem some_eq_dec {b : Bool} {p : Prop} [Decidable p] (h : b = true ↔ p) : some b = some (decide p) := by
  congr 1
  rw [Bool.eq_iff_iff, h, decide_eq_true_eq]
/-- The tidied range of what came in, if a number is of it; and whether one is. -/
def tailA (o : Option R) : Int × Int × Int × Int × Bool := meetA (o.map R.tidy)
/-- Two ranges tidied, if numbers are of both. -/
def pairA : Option R → Option R → Int × Int × Int × Int × Int × Int × Int × Int × Bool
  | some x, some y => ((x.tidy.lo : Int), (x.tidy.hi : Int), (x.tidy.bt : Int), (x.tidy.op : Int), (y.tidy.lo : Int), (y.tidy.hi : Int), (y.tidy.bt : Int), (y.tidy.op : Int), true)
  | _, _ => (1, 0, 0, 0, 1, 0, 0, 0, false)
theorem pairA_none (o : Option R) : pairA none o = (1, 0, 0, 0, 1, 0, 0, 0, false) := by cases o <;> rfl
theorem pairA_none' (o : Option R) : pairA o none = (1, 0, 0, 0, 1, 0, 0, 0, false) := by cases o <;> rfl
theorem toR_other {x : R} (hx : x.ok) {lo hi : Int} (h0 : 0 ≤ lo) (h1 : hi ≤ 4294967295) (h : lo ≤ hi) : ∃ r : R, r.ok ∧ lo = r.lo ∧ hi = r.hi ∧ x.bt = r.bt ∧ x.op = r.op := by
  obtain ⟨_, _, h3, h4, h5⟩ := hx
  exact ⟨⟨lo.toNat, hi.toNat, x.bt, x.op⟩, ⟨by show lo.toNat ≤ hi.toNat; omega, by show hi.toNat < _; omega, h3, h4, h5⟩, by show lo = (lo.toNat : Int); omega, by show hi = (hi.toNat : Int); omega, rfl, rfl⟩
theorem someR_over {lo hi b o : Int} (h : hi < lo) : someR lo hi b o = none := by
  refine someR_bad ?_
  unfold toR
  rw [if_neg]
  unfold okI
  omega
theorem implSomeTidy {a b c d : Int} {r : R} (h : someR a b c d = some r) : impl_Range_tidy.f a b c d = some (ans r.tidy) := by
  obtain ⟨⟨ok, rfl, rfl, rfl, rfl⟩, _⟩ := someR_some h
  exact implTidy_eq (ok32 ok)
theorem implBut1 (lo hi b o : Int) {k : Nat} (hk : 70 < k) : impl_Range_but.j1 k lo hi b o = some (tailA (someR lo hi b o)) := by
  obtain ⟨k, rfl⟩ : ∃ m, k = m + 1 := ⟨k - 1, by omega⟩
  rw [impl_Range_but.j1, some_any _ _ _ _ (by omega)]
  cases h : someR lo hi b o with
  | none => rfl
  | some r =>
    simp only [Option.bind_some, Option.isSome_some, if_true]
    rw [implSomeTidy h]; rfl
theorem specSomeI {x : R} (hx : x.ok) {lo hi : Int} (h0 : 0 ≤ lo) (h1 : hi ≤ 4294967295) (h : lo ≤ hi) {k : Nat} (hk : 140 < k) : spec_l2Some.f k lo hi x.bt x.op = some (someR lo hi x.bt x.op).isSome ∧
    ∀ r, someR lo hi x.bt x.op = some r → spec_l2Tidy.f k lo hi x.bt x.op = some (ans r.tidy) := by
  obtain ⟨r, ok, rfl, rfl, e1, e2⟩ := toR_other hx h0 h1 h
  rw [e1, e2, l2Some_eq ok hk]
  by_cases c : r.least.isSome = true
  · rw [someR_ok ok c, c]
    refine ⟨rfl, fun s hs => ?_⟩
    cases hs
    exact l2Tidy_eq (ok32 ok) (by omega)
  · rw [someR_empty ok c]
    exact ⟨by simpa using c, fun s hs => by cases hs⟩
theorem specBut1 {x : R} (hx : x.ok) {lo hi : Int} (h0 : 0 ≤ lo) (h1 : hi ≤ 4294967295) {k : Nat} (hk : 145 < k) : spec_l2But.j1 k lo hi x.bt x.op = some (tailA (someR lo hi x.bt x.op)) := by
  obtain ⟨k, rfl⟩ : ∃ m, k = m + 1 := ⟨k - 1, by omega⟩
  rw [spec_l2But.j1]
  by_cases c : lo > hi
  · rw [if_pos c, someR_over (by omega)]; rfl
  · obtain ⟨e1, e2⟩ := specSomeI hx h0 h1 (show lo ≤ hi by omega) (k := k) (by omega)
    rw [if_neg c, e1]
    cases h : someR lo hi x.bt x.op with
    | none => rfl
    | some r =>
      simp only [Option.bind_some, Option.isSome_some, if_true]
      rw [e2 r h]; rfl
/-- A range without a number. -/
def butI (x : R) (n : Int) : Int × Int × Int × Int × Bool := tailA (someR (if (x.lo : Int) = n then n + 1 else x.lo) (if (x.hi : Int) = n then n - 1 else x.hi) x.bt x.op)
/-- .. if it is known. -/
def apartI (x y : R) : Int × Int × Int × Int × Bool := if y.lo = y.hi then butI x y.lo else ((x.lo : Int), (x.hi : Int), (x.bt : Int), (x.op : Int), true)
theorem implBut_eq {x y : R} (hx : x.ok) (hy : y.ok) {k : Nat} (hk : 75 < k) : impl_Range_but.f k x.lo x.hi x.bt x.op y.lo y.hi y.bt y.op = some (apartI x y) := by
  obtain ⟨k, rfl⟩ : ∃ m, k = m + 1 := ⟨k - 1, by omega⟩
  have x1 := R.lo_lt hx
  have x2 := hx.2.1
  have y1 := R.lo_lt hy
  unfold impl_Range_but.f apartI butI
  simp only [impl_Range_but.j0, implBut1 _ _ _ _ (show 70 < k by omega)]
  by_cases c : y.lo = y.hi
  · rw [if_pos (by omega), if_pos c]
    by_cases c1 : (x.lo : Int) = y.lo
    · rw [if_pos c1, if_pos c1, wrap64_id (n := (x.lo : Int) + 1) (by omega) (by omega), c1]
      by_cases c2 : (x.hi : Int) = y.lo
      · rw [if_pos c2, if_pos c2, wrap64_id (n := (x.hi : Int) - 1) (by omega) (by omega), c2]
      · rw [if_neg c2, if_neg c2]
    · rw [if_neg c1, if_neg c1]
      by_cases c2 : (x.hi : Int) = y.lo
      · rw [if_pos c2, if_pos c2, wrap64_id (n := (x.hi : Int) - 1) (by omega) (by omega), c2]
      · rw [if_neg c2, if_neg c2]
  · rw [if_neg (by omega), if_neg c]
theorem specApart_eq {x y : R} (hx : x.ok) (hy : y.ok) {k : Nat} (hk : 150 < k) : spec_l2Apart.f k x.lo x.hi x.bt x.op y.lo y.hi y.bt y.op = some (apartI x y) := by
  obtain ⟨k, rfl⟩ : ∃ m, k = m + 1 := ⟨k - 1, by omega⟩
  have x1 := R.lo_lt hx
  have x2 := hx.2.1
  have y1 := R.lo_lt hy
  have but : spec_l2But.f (k + 1) x.lo x.hi x.bt x.op y.lo = some (butI x y.lo) := by
    unfold spec_l2But.f butI
    simp only [spec_l2But.j0]
    rw [wrap64_id (n := (y.lo : Int) + 1) (by omega) (by omega), wrap64_id (n := (y.lo : Int) - 1) (by omega) (by omega)]
    by_cases c1 : (x.lo : Int) = y.lo
    · rw [if_pos c1, if_pos c1]
      by_cases c2 : (x.hi : Int) = y.lo
      · rw [if_pos c2, if_pos c2, specBut1 hx (by omega) (by omega) (by omega)]
      · rw [if_neg c2, if_neg c2, specBut1 hx (by omega) (by omega) (by omega)]
    · rw [if_neg c1, if_neg c1]
      by_cases c2 : (x.hi : Int) = y.lo
      · rw [if_pos c2, if_pos c2, specBut1 hx (by omega) (by omega) (by omega)]
      · rw [if_neg c2, if_neg c2, specBut1 hx (by omega) (by omega) (by omega)]
  unfold spec_l2Apart.f apartI
  by_cases c : y.lo = y.hi
  · rw [if_pos (by omega), if_pos c, but]; rfl
  · rw [if_neg (by omega), if_neg c]
theorem implBelow0 (a b c d e f g h : Int) {k : Nat} (hk : 75 < k) : impl_below.j0 k a b c d e f g h = some (pairA (someR a b c d) (someR e f g h)) := by
  obtain ⟨k, rfl⟩ : ∃ m, k = m + 2 := ⟨k - 2, by omega⟩
  simp only [impl_below.j0, impl_below.j1, some_any _ _ _ _ (show 66 < k + 1 by omega), Option.bind_some]
  cases h1 : someR a b c d with
  | none => rw [pairA_none]; rfl
  | some x =>
    cases h2 : someR e f g h with
    | none => rw [pairA_none']; rfl
    | some y =>
      simp only [Option.isSome_some, if_true, Bool.not_true, Bool.false_eq_true, if_false]
      rw [implSomeTidy h1, implSomeTidy h2]; rfl
theorem specBelow1 {x y : R} (hx : x.ok) (hy : y.ok) {a b e f : Int} (a0 : 0 ≤ a) (b1 : b ≤ 4294967295) (e0 : 0 ≤ e) (f1 : f ≤ 4294967295) {k : Nat} (hk : 145 < k) : spec_l2Below.j1 k a b x.bt x.op e f y.bt y.op = some (pairA (someR a b x.bt x.op) (someR e f y.bt y.op)) := by
  obtain ⟨k, rfl⟩ : ∃ m, k = m + 2 := ⟨k - 2, by omega⟩
  simp only [spec_l2Below.j1, spec_l2Below.j2]
  by_cases c1 : a > b
  · rw [if_pos c1, someR_over (by omega), pairA_none]; rfl
  · rw [if_neg c1]
    by_cases c2 : e > f
    · rw [if_pos c2, someR_over (lo := e) (hi := f) (by omega), pairA_none']; rfl
    · obtain ⟨p1, p2⟩ := specSomeI hx a0 b1 (show a ≤ b by omega) (k := k + 1) (by omega)
      obtain ⟨q1, q2⟩ := specSomeI hy e0 f1 (show e ≤ f by omega) (k := k + 1) (by omega)
      obtain ⟨_, p3⟩ := specSomeI hx a0 b1 (show a ≤ b by omega) (k := k) (by omega)
      obtain ⟨_, q3⟩ := specSomeI hy e0 f1 (show e ≤ f by omega) (k := k) (by omega)
      rw [if_neg c2, p1, q1]
      cases h1 : someR a b x.bt x.op with
      | none => rw [pairA_none]; rfl
      | some r =>
        cases h2 : someR e f y.bt y.op with
        | none => rw [pairA_none']; rfl
        | some s =>
          simp only [Option.bind_some, Option.isSome_some, if_true, Bool.not_true, Bool.false_eq_true, if_false]
          rw [p3 r h1, q3 s h2]; rfl
/-- Two ranges, the first of them less by so much. -/
def belowI (x y : R) (s : Int) : Int × Int × Int × Int × Int × Int × Int × Int × Bool := pairA (someR x.lo (mn x.hi (y.hi - s)) x.bt x.op) (someR (mx y.lo (x.lo + s)) y.hi y.bt y.op)
theorem specBelow_eq {x y : R} (hx : x.ok) (hy : y.ok) {s : Int} (hs : 0 ≤ s ∧ s ≤ 1) {k : Nat} (hk : 150 < k) : spec_l2Below.f k x.lo x.hi x.bt x.op y.lo y.hi y.bt y.op s = some (belowI x y s) := by
  obtain ⟨k, rfl⟩ : ∃ m, k = m + 1 := ⟨k - 1, by omega⟩
  have x1 := R.lo_lt hx
  have x2 := hx.2.1
  have y1 := R.lo_lt hy
  have y2 := hy.2.1
  have hm : mn (x.hi : Int) ((y.hi : Int) - s) ≤ 4294967295 := by unfold mn; split <;> omega
  have hM : 0 ≤ mx (y.lo : Int) ((x.lo : Int) + s) := by unfold mx; split <;> omega
  have h := specBelow1 hx hy (a := x.lo) (b := mn (x.hi : Int) ((y.hi : Int) - s)) (e := mx (y.lo : Int) ((x.lo : Int) + s)) (f := y.hi) (by omega) hm hM (by omega) (k := k) (by omega)
  unfold belowI
  rw [← h]
  unfold spec_l2Below.f
  simp only [spec_l2Below.j0]
  rw [wrap64_id (n := (y.hi : Int) - s) (by omega) (by omega), wrap64_id (n := (x.lo : Int) + s) (by omega) (by omega)]
  unfold mn mx
  by_cases c1 : (y.hi : Int) - s < x.hi
  · rw [if_pos (show (x.hi : Int) > (y.hi : Int) - s from c1), if_pos c1]
    by_cases c2 : (y.lo : Int) < (x.lo : Int) + s
    · rw [if_pos c2, if_pos c2]
    · rw [if_neg c2, if_neg c2]
  · rw [if_neg (show ¬ (x.hi : Int) > (y.hi : Int) - s from c1), if_neg c1]
    by_cases c2 : (y.lo : Int) < (x.lo : Int) + s
    · rw [if_pos c2, if_pos c2]
    · rw [if_neg c2, if_neg c2]
theorem implBelow_true {x y : R} (hx : x.ok) (hy : y.ok) {k : Nat} (hk : 80 < k) : impl_below.f k x.lo x.hi x.bt x.op y.lo y.hi y.bt y.op true = some (belowI x y 1) := by
  have x1 := R.lo_lt hx
  have y2 := hy.2.1
  unfold impl_below.f belowI
  rw [if_pos rfl, wrap64_id (n := (y.hi : Int) - 1) (by omega) (by omega), wrap64_id (n := (x.lo : Int) + 1) (by omega) (by omega), implBelow0 _ _ _ _ _ _ _ _ (by omega)]
/-- Two answers the other way round. -/
def swapI (v : Int × Int × Int × Int × Int × Int × Int × Int × Bool) : Int × Int × Int × Int × Int × Int × Int × Int × Bool := (v.2.2.2.2.1, v.2.2.2.2.2.1, v.2.2.2.2.2.2.1, v.2.2.2.2.2.2.2.1, v.1, v.2.1, v.2.2.1, v.2.2.2.1, v.2.2.2.2.2.2.2.2)
theorem swap_pair (o p : Option R) : swapI (pairA o p) = pairA p o := by cases o <;> cases p <;> rfl
theorem implBelow_false (x y : R) {k : Nat} (hk : 80 < k) : impl_below.f k x.lo x.hi x.bt x.op y.lo y.hi y.bt y.op false = some (swapI (belowI y x 0)) := by
  unfold impl_below.f belowI
  rw [if_neg (by decide), swap_pair, implBelow0 _ _ _ _ _ _ _ _ (by omega), Int.sub_zero, Int.add_zero]
theorem eight (v : Int × Int × Int × Int × Int × Int × Int × Int × Bool) : (v.1, v.2.1, v.2.2.1, v.2.2.2.1, v.2.2.2.2.1, v.2.2.2.2.2.1, v.2.2.2.2.2.2.1, v.2.2.2.2.2.2.2.1, v.2.2.2.2.2.2.2.2) = v := rfl
/-- Both apart, if both are. -/
def bothI (u v : Int × Int × Int × Int × Bool) : Int × Int × Int × Int × Int × Int × Int × Int × Bool := if u.2.2.2.2 = true then (if v.2.2.2.2 = true then (u.1, u.2.1, u.2.2.1, u.2.2.2.1, v.1, v.2.1, v.2.2.1, v.2.2.2.1, true) else (1, 0, 0, 0, 1, 0, 0, 0, false)) else (1, 0, 0, 0, 1, 0, 0, 0, false)
def twiceI (u : Int × Int × Int × Int × Bool) : Int × Int × Int × Int × Int × Int × Int × Int × Bool := (u.1, u.2.1, u.2.2.1, u.2.2.2.1, u.1, u.2.1, u.2.2.1, u.2.2.2.1, u.2.2.2.2)
/-- What branch answers of two ranges that are tidy. -/
def branchI (op : Int) (x y : R) (t : Bool) : Int × Int × Int × Int × Int × Int × Int × Int × Bool :=
  if op = 14 then (if t = true then belowI x y 1 else swapI (belowI y x 0)) else if op = 15 then (if t = true then swapI (belowI y x 1) else belowI x y 0)
  else if (op == 12) = t then twiceI (meetA (meetR x y)) else bothI (apartI x y) (apartI y x)
theorem implBranch_eq {op : Int} (_h1 : 12 ≤ op ∧ op ≤ 15) (t : Bool) {x y : R} {u v : Nat} (hx : x.ok) (hy : y.ok) (hu : x.has u) (hv : y.has v) {k : Nat} (hk : 90 < k) : impl_branch.f k op x.lo x.hi x.bt x.op y.lo y.hi y.bt y.op t = some (branchI op x.tidy y.tidy t) := by
  obtain ⟨k, rfl⟩ : ∃ m, k = m + 1 := ⟨k - 1, by omega⟩
  have ha := R.tidy_ok hx hu
  have hb := R.tidy_ok hy hv
  unfold impl_branch.f
  rw [implTidy_eq (ok32 hx), implTidy_eq (ok32 hy)]
  simp only [Option.bind_some, ans]
  generalize x.tidy = a at *
  generalize y.tidy = b at *
  have bl : impl_below.f (k + 1) a.lo a.hi a.bt a.op b.lo b.hi b.bt b.op t = some (if t = true then belowI a b 1 else swapI (belowI b a 0)) := by
    cases t with
    | true => exact implBelow_true ha hb (by omega)
    | false => exact implBelow_false a b (by omega)
  have bm : impl_below.f (k + 1) b.lo b.hi b.bt b.op a.lo a.hi a.bt a.op t = some (if t = true then belowI b a 1 else swapI (belowI a b 0)) := by
    cases t with
    | true => exact implBelow_true hb ha (by omega)
    | false => exact implBelow_false b a (by omega)
  rw [bl, bm, implMeet_eq ha hb (by omega), implBut_eq ha hb (by omega), implBut_eq hb ha (by omega)]
  simp only [Option.bind_some, impl_branch.j0, eight]
  unfold branchI
  by_cases o4 : op = 14
  · rw [if_pos o4, if_pos o4]
  rw [if_neg o4, if_neg o4]
  by_cases o5 : op = 15
  · rw [if_pos o5, if_pos o5]
    cases t <;> rfl
  rw [if_neg o5, if_neg o5]
  by_cases o2 : (op == 12) = t
  · rw [if_pos o2, o2, if_pos (by cases t <;> rfl)]; rfl
  · rw [if_neg o2, if_neg (by rw [beq_iff_eq]; exact fun z => o2 z.symm)]
    unfold bothI
    cases (apartI a b).2.2.2.2 <;> cases (apartI b a).2.2.2.2 <;> rfl
theorem specBranch_eq {op : Int} (h1 : 12 ≤ op ∧ op ≤ 15) (t : Bool) {x y : R} (hx : x.ok) (hy : y.ok) {k : Nat} (hk : 160 < k) : spec_l2Branch.f k op x.lo x.hi x.bt x.op y.lo y.hi y.bt y.op t = some (branchI op x y t) := by
  obtain ⟨k, rfl⟩ : ∃ m, k = m + 3 := ⟨k - 3, by omega⟩
  unfold spec_l2Branch.f
  simp only [spec_l2Branch.j0, spec_l2Branch.j1, spec_l2Branch.j2, specBelow_eq hx hy (s := 1) (by omega) (show 150 < k + 1 by omega), specBelow_eq hx hy (s := 0) (by omega) (show 150 < k by omega), specBelow_eq hy hx (s := 1) (by omega) (show 150 < k by omega), specBelow_eq hy hx (s := 0) (by omega) (show 150 < k by omega), l2Meet_eq hx hy (show 145 < k + 2 by omega), meetA_eq, specApart_eq hx hy (show 150 < k + 2 by omega), specApart_eq hy hx (show 150 < k + 2 by omega), Option.bind_some, eight]
  unfold branchI
  generalize meetA (meetR x y) = m
  generalize apartI x y = p
  generalize apartI y x = q
  generalize belowI x y 1 = b1
  generalize belowI x y 0 = b2
  generalize belowI y x 1 = b3
  generalize belowI y x 0 = b4
  have hb : (if p.2.2.2.2 = true then (if q.2.2.2.2 = true then some (p.1, p.2.1, p.2.2.1, p.2.2.2.1, q.1, q.2.1, q.2.2.1, q.2.2.2.1, true) else some (1, 0, 0, 0, 1, 0, 0, 0, false)) else some (1, 0, 0, 0, 1, 0, 0, 0, false)) = some (bothI p q) := by
    unfold bothI
    cases p.2.2.2.2 <;> cases q.2.2.2.2 <;> rfl
  rw [hb]
  obtain rfl | rfl | rfl | rfl : op = 12 ∨ op = 13 ∨ op = 14 ∨ op = 15 := by omega
  · cases t <;> simp [twiceI]
  · cases t <;> simp [twiceI]
  · cases t <;> simp [swapI]
  · cases t <;> simp [swapI]
theorem nine_bind (v : Int × Int × Int × Int × Int × Int × Int × Int × Bool) : ((some v).bind fun b => some (b.1, b.2.1, b.2.2.1, b.2.2.2.1, b.2.2.2.2.1, b.2.2.2.2.2.1, b.2.2.2.2.2.2.1, b.2.2.2.2.2.2.2.1, b.2.2.2.2.2.2.2.2)) = some v := rfl
/-- What RangeBranch answers. -/
def brI (op : Int) (t : Bool) : Option R → Option R → Int × Int × Int × Int × Int × Int × Int × Int × Bool
  | some x, some y => if 12 ≤ op ∧ op ≤ 15 then branchI op x.tidy y.tidy t else (1, 0, 0, 0, 1, 0, 0, 0, false)
  | _, _ => (1, 0, 0, 0, 1, 0, 0, 0, false)
theorem brI_none (op : Int) (t : Bool) (o : Option R) : brI op t none o = (1, 0, 0, 0, 1, 0, 0, 0, false) := by cases o <;> rfl
theorem brI_none' (op : Int) (t : Bool) (o : Option R) : brI op t o none = (1, 0, 0, 0, 1, 0, 0, 0, false) := by cases o <;> rfl
theorem brI_bad {op : Int} (h : ¬ (12 ≤ op ∧ op ≤ 15)) (t : Bool) (o p : Option R) : brI op t o p = (1, 0, 0, 0, 1, 0, 0, 0, false) := by
  cases o with
  | none => exact brI_none op t p
  | some x =>
    cases p with
    | none => rfl
    | some y => show (if _ then _ else _) = _; rw [if_neg h]
theorem least_wit' {r : R} (h : r.ok) (e : r.least.isSome = true) : ∃ y, r.has y := by
  obtain ⟨y, hy⟩ := Option.isSome_iff_exists.1 e
  exact ⟨y, (R.least_some h hy).1⟩
theorem implRangeBranch_eq (op a b c d e f g h : Int) (t : Bool) {k : Nat} (hk : 100 < k) : impl_RangeBranch.f k op a b c d e f g h t = some (brI op t (someR a b c d) (someR e f g h)) := by
  obtain ⟨k, rfl⟩ : ∃ m, k = m + 1 := ⟨k - 1, by omega⟩
  unfold impl_RangeBranch.f impl_kind_asks.f
  simp only [within_eq, some_any _ _ _ _ (show 66 < k + 1 by omega), Option.bind_some, decide_eq_true_eq, impl_RangeBranch.j0]
  by_cases h1 : 12 ≤ op ∧ op ≤ 15
  · rw [if_pos h1]
    cases hx : someR a b c d with
    | none => rw [brI_none]; rfl
    | some x =>
      cases hy : someR e f g h with
      | none => rw [brI_none']; rfl
      | some y =>
        obtain ⟨⟨ox, rfl, rfl, rfl, rfl⟩, sx⟩ := someR_some hx
        obtain ⟨⟨oy, rfl, rfl, rfl, rfl⟩, sy⟩ := someR_some hy
        obtain ⟨u, hu⟩ := least_wit' ox sx
        obtain ⟨v, hv⟩ := least_wit' oy sy
        have e1 := implBranch_eq h1 t ox oy hu hv (k := k) (by omega)
        rw [show brI op t (some x) (some y) = branchI op x.tidy y.tidy t from if_pos h1]
        show (impl_branch.f k op x.lo x.hi x.bt x.op y.lo y.hi y.bt y.op t).bind _ = _
        rw [e1]; exact nine_bind _
  · rw [if_neg h1, brI_bad h1]; rfl
theorem specRangeBranch_eq (op a b c d e f g h : Int) (t : Bool) {k : Nat} (hk : 170 < k) : spec_RangeBranch.f k op a b c d e f g h t = some (brI op t (someR a b c d) (someR e f g h)) := by
  obtain ⟨k, rfl⟩ : ∃ m, k = m + 1 := ⟨k - 1, by omega⟩
  unfold spec_RangeBranch.f spec_l1Jump.f
  simp only [l1In_eq, l2Ok_eq, Option.bind_some, decide_eq_true_eq, spec_RangeBranch.j0]
  by_cases h1 : 12 ≤ op ∧ op ≤ 15
  · rw [if_pos h1]
    cases hx : toR a b c d with
    | none => rw [if_neg (toR_none hx), someR_bad hx, brI_none]; rfl
    | some x =>
      obtain ⟨ox, rfl, rfl, rfl, rfl⟩ := toR_some hx
      rw [if_pos (okI_nat.2 ox)]
      cases hy : toR e f g h with
      | none => rw [if_neg (toR_none hy), someR_bad hy, brI_none']; rfl
      | some y =>
        obtain ⟨oy, rfl, rfl, rfl, rfl⟩ := toR_some hy
        rw [if_pos (okI_nat.2 oy), l2Some_eq ox (by omega), l2Some_eq oy (by omega)]
        simp only [Option.bind_some]
        by_cases sx : x.least.isSome = true
        · rw [if_pos sx, someR_ok ox sx]
          by_cases sy : y.least.isSome = true
          · obtain ⟨u, hu⟩ := least_wit' ox sx
            obtain ⟨v, hv⟩ := least_wit' oy sy
            rw [someR_ok oy sy, sy, if_neg (by decide), l2Tidy_eq (ok32 ox) (by omega), l2Tidy_eq (ok32 oy) (by omega), show brI op t (some x) (some y) = branchI op x.tidy y.tidy t from if_pos h1]
            have e1 := specBranch_eq h1 t (R.tidy_ok ox hu) (R.tidy_ok oy hv) (k := k) (by omega)
            show (spec_l2Branch.f k op x.tidy.lo x.tidy.hi x.tidy.bt x.tidy.op y.tidy.lo y.tidy.hi y.tidy.bt y.tidy.op t).bind _ = _
            rw [e1]; exact nine_bind _
          · rw [someR_empty oy sy, brI_none', if_pos (by simpa using sy)]
        · rw [if_neg sx, someR_empty ox sx, brI_none, if_pos trivial]
  · rw [if_neg h1, brI_bad h1]; rfl

theorem eqRange_self (a b c d : Int) : laws_eqRange.f a b c d a b c d = some true := by
  unfold laws_eqRange.f
  simp
theorem FnExactRangeBranch : laws_FnExactRangeBranch.Pure := by
  intro op a b c d e f g h t _ _ _ _ _ _ _ _ _
  refine ⟨200, ?_⟩
  unfold laws_FnExactRangeBranch.f laws_toRange.f
  simp only [Option.bind_some, implRangeBranch_eq _ _ _ _ _ _ _ _ _ _ (show 100 < 200 by decide), specRangeBranch_eq _ _ _ _ _ _ _ _ _ _ (show 170 < 200 by decide), eqRange_self, if_true, laws_FnExactRangeBranch.j0, bne_self_eq_false, Bool.false_eq_true, if_false]

end Go.Proofs.Ytjengfiaphgjbaa.Pure
