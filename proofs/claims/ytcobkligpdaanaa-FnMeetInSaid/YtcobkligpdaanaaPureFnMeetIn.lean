/- The law FnMeetIn, as a statement about numbers and lists alone: the meet of two ranges is in both, whatever bytes are drawn from. It holds at every input. -/
import Derived.Test.YtcobkligpdaanaaQ14
import Derived.Test.YtcobkligpdaanaaMath
namespace Go.Proofs.Ytcobkligpdaanaa.Pure
open Go Go.RowKit Go.Proofs.Ytcobkligpdaanaa.Q Go.Proofs.YtcobkligpdaanaaW.PrintWords Go.Proofs.YtcobkligpdaanaaW.PrintLast Go.Proofs.YtcobkligpdaanaaW.PrintMore Rg

theorem l1In_eq (a b c : Int) : spec_l1In.f a b c = some (decide (b ≤ a ∧ a ≤ c)) := by
  unfold spec_l1In.f
  by_cases h : a ≥ b
  · rw [if_pos h]; simp [show b ≤ a from h]
  · rw [if_neg h]; simp [show ¬ b ≤ a from h]
theorem within_eq (a b c : Int) : impl_within.f a b c = some (decide (b ≤ a ∧ a ≤ c)) := by
  unfold impl_within.f
  by_cases h : a ≥ b
  · rw [if_pos h]; simp [show b ≤ a from h]
  · rw [if_neg h]; simp [show ¬ b ≤ a from h]
theorem numOk_eq (a : Int) : impl_numOk.f a = some (decide (0 ≤ a ∧ a ≤ 4294967295)) := by
  unfold impl_numOk.f
  rw [within_eq]; rfl
theorem l2Ok_eq (a b c d : Int) : spec_l2Ok.f a b c d = some (decide (okI a b c d)) := by
  unfold spec_l2Ok.f
  simp only [l1In_eq, Option.bind_some, decide_eq_true_eq]
  by_cases h : okI a b c d
  · have h' := h
    obtain ⟨h1, h2, h3, h4, h5, h6, h7, h8⟩ := h'
    rw [if_pos ⟨h1, h2⟩, if_pos h3, if_pos ⟨h4, h5⟩, if_pos ⟨h6, h7⟩, and_zero_i h4 h5 h6 h7, decide_eq_true h8, decide_eq_true h]
  · rw [decide_eq_false h]
    by_cases c1 : 0 ≤ a ∧ a ≤ b
    · rw [if_pos c1]
      by_cases c2 : b ≤ 4294967295
      · rw [if_pos c2]
        by_cases c3 : 0 ≤ c ∧ c ≤ 4294967295
        · rw [if_pos c3]
          by_cases c4 : 0 ≤ d ∧ d ≤ 4294967295
          · rw [if_pos c4, and_zero_i c3.1 c3.2 c4.1 c4.2]
            rw [decide_eq_false]
            intro e
            exact h ⟨c1.1, c1.2, c2, c3.1, c3.2, c4.1, c4.2, e⟩
          · rw [if_neg c4]
        · rw [if_neg c3]
      · rw [if_neg c2]
    · rw [if_neg c1]
theorem implOk_eq (a b c d : Int) : impl_RangeOk.f a b c d = some (decide (okI a b c d)) := by
  unfold impl_RangeOk.f
  simp only [numOk_eq, within_eq, Option.bind_some, decide_eq_true_eq]
  by_cases h : okI a b c d
  · have h' := h
    obtain ⟨h1, h2, h3, h4, h5, h6, h7, h8⟩ := h'
    rw [if_pos ⟨h1, by omega⟩, if_pos ⟨h2, h3⟩, if_pos ⟨h4, h5⟩, if_pos ⟨h6, h7⟩, and_zero_i h4 h5 h6 h7, decide_eq_true h8, decide_eq_true h]
  · rw [decide_eq_false h]
    by_cases c1 : 0 ≤ a ∧ a ≤ 4294967295
    · rw [if_pos c1]
      by_cases c2 : a ≤ b ∧ b ≤ 4294967295
      · rw [if_pos c2]
        by_cases c3 : 0 ≤ c ∧ c ≤ 4294967295
        · rw [if_pos c3]
          by_cases c4 : 0 ≤ d ∧ d ≤ 4294967295
          · rw [if_pos c4, and_zero_i c3.1 c3.2 c4.1 c4.2]
            rw [decide_eq_false]
            intro e
            exact h ⟨c1.1, c2.1, c2.2, c3.1, c3.2, c4.1, c4.2, e⟩
          · rw [if_neg c4]
        · rw [if_neg c3]
      · rw [if_neg c2]
    · rw [if_neg c1]
theorem has_iff {r : R} {m : Nat} : r.has m ↔ ((r.lo : Int) ≤ m ∧ (m : Int) ≤ r.hi) ∧ andn m r.op = r.bt := by
  unfold R.has
  constructor
  · rintro ⟨h1, h2, h3⟩; exact ⟨⟨by omega, by omega⟩, h3⟩
  · rintro ⟨⟨h1, h2⟩, h3⟩; exact ⟨by omega, by omega, h3⟩
theorem implHas_eq {r : R} (h : r.ok) (m : Nat) : impl_Range_has.f r.lo r.hi r.bt r.op m = some (decide (r.has m)) := by
  unfold impl_Range_has.f
  simp only [within_eq, Option.bind_some, decide_eq_true_eq]
  obtain ⟨h1, h2, h3, h4, h5⟩ := h
  by_cases c : (r.lo : Int) ≤ m ∧ (m : Int) ≤ r.hi
  · rw [if_pos c, bandn (by omega) (by omega)]
    by_cases e : andn m r.op = r.bt
    · rw [e, decide_eq_true (has_iff.2 ⟨c, e⟩)]; simp
    · have : ¬ r.has m := fun x => e (has_iff.1 x).2
      rw [decide_eq_false this]; simp; omega
  · have : ¬ r.has m := fun x => c (has_iff.1 x).1
    rw [if_neg c, decide_eq_false this]
theorem above_from {r : R} (h : r.ok) (d : Nat) : ∀ (k i : Nat), i + d = 32 → 2 * d < k →
    impl_Range_above.l0 k i r.lo r.hi r.bt r.op = some (num ((firstFrom (cand r.bt r.op r.lo) d i).map (val r.bt r.lo))) := by
  obtain ⟨h1, h2, h3, h4, h5⟩ := h
  induction d with
  | zero =>
    intro k i hi hk
    obtain ⟨k, rfl⟩ : ∃ m, k = m + 1 := ⟨k - 1, by omega⟩
    simp only [impl_Range_above.l0]
    rw [if_neg (by omega)]; rfl
  | succ d ih =>
    intro k i hi hk
    obtain ⟨k, rfl⟩ : ∃ m, k = m + 1 := ⟨k - 1, by omega⟩
    have q1 : (i : Int) < 32 := by omega
    have q2 : (0 : Int) ≤ (i : Int) := by omega
    have q3 : i + 1 ≤ 62 := by omega
    have q4 : i ≤ 62 := by omega
    have q5 : i ≤ 64 := by omega
    have q6 : i < 4611686018427387904 := by omega
    have nxt' : impl_Range_above.l0 (k - 1) ((i + 1 : Nat) : Int) r.lo r.hi r.bt r.op = _ := ih (k - 1) (i + 1) (by omega) (by omega)
    have e2 : shl .i64 2 (i : Int) = ((2 ^ (i + 1) : Nat) : Int) := by
      have hp : 2 ^ i ≤ 2 ^ 32 := Nat.pow_le_pow_right (by decide) (by omega)
      have := shl_nat (a := 2) (k := i) q4 (Nat.lt_of_le_of_lt (Nat.mul_le_mul_left 2 hp) (by decide))
      rw [Nat.pow_succ, Nat.mul_comm]; exact this
    have hk1 : k = k - 1 + 1 := by omega
    clear ih hk hi
    rw [hk1]
    generalize k - 1 = k' at nxt'
    have o32 := Nat.or_lt_two_pow h3 h4
    simp only [impl_Range_above.l0, impl_Range_above.j1]
    rw [if_pos q1, if_pos q2, w_succ q6, nxt', bit_nat (i32 (Nat.lt_of_le_of_lt h1 h2)) q5, bor (i32 h3) (i32 h4), bit_nat (i32 o32) q5, e2, w_pow q3, shl_one q4, w_pow q4]
    rw [band_not (i32 (Nat.lt_of_le_of_lt h1 h2)) (mask_lt q3), band_not (i32 h3) (mask_lt q3), andn_mask, andn_mask, bandn (i32 (cut32 (Nat.lt_of_le_of_lt h1 h2))) (i32 h4), band (i32 h3) (mask_lt q4), and_mask, bor (i32 (cut32 (Nat.lt_of_le_of_lt h1 h2))) (Nat.lt_of_le_of_lt (Nat.pow_le_pow_right (by decide) q4) (by decide)), bor (Nat.or_lt_two_pow (i32 (cut32 (Nat.lt_of_le_of_lt h1 h2))) (Nat.lt_of_le_of_lt (Nat.pow_le_pow_right (by decide) q4) (by decide))) (i32 (Nat.lt_of_le_of_lt (Nat.mod_le _ _) h3))]
    simp only [firstFrom]
    have split : cand r.bt r.op r.lo i = (!r.lo.testBit i && (r.bt ||| r.op).testBit i && decide (andn (r.lo / 2 ^ (i + 1) * 2 ^ (i + 1)) r.op = r.bt / 2 ^ (i + 1) * 2 ^ (i + 1))) := rfl
    by_cases c1 : r.lo.testBit i = true
    · rw [if_pos c1, if_pos rfl, if_pos trivial, split, c1]; rfl
    · rw [if_neg c1, if_neg (by decide)]
      by_cases c2 : (r.bt ||| r.op).testBit i = true
      · rw [if_pos c2, if_neg (by decide)]
        by_cases c3 : andn (r.lo / 2 ^ (i + 1) * 2 ^ (i + 1)) r.op = r.bt / 2 ^ (i + 1) * 2 ^ (i + 1)
        · have : cand r.bt r.op r.lo i = true := by rw [split, c2, decide_eq_true c3]; simpa using c1
          rw [c3, if_neg (by simp), if_pos q2, if_pos this]; rfl
        · have : ¬ cand r.bt r.op r.lo i = true := by rw [split, decide_eq_false c3]; simp
          rw [if_pos (bne_iff_ne.2 fun e => c3 (Int.ofNat_inj.1 e)), if_neg this]
      · rw [if_neg c2, if_pos rfl, if_pos trivial]
        have : ¬ cand r.bt r.op r.lo i = true := by rw [split]; simp [c2]
        rw [if_neg this]
theorem above_eq {r : R} (h : r.ok) {k : Nat} (hk : 64 < k) : impl_Range_above.f k r.lo r.hi r.bt r.op = some (num (above r.bt r.op r.lo)) := above_from h 32 k 0 (by omega) (by omega)
theorem least_eq {r : R} (h : r.ok) {k : Nat} (hk : 65 < k) : impl_Range_least.f k r.lo r.hi r.bt r.op = some (num r.least) := by
  obtain ⟨k, rfl⟩ : ∃ m, k = m + 1 := ⟨k - 1, by omega⟩
  unfold impl_Range_least.f
  have hlo := R.lo_lt h
  have ho := h.2.2.2.1
  rw [bandn (i32 hlo) (i32 ho), above_eq h (by omega)]
  simp only [Option.bind_some, impl_Range_least.j0]
  have key : ∀ y : Nat, andn y r.op = r.bt → r.lo ≤ y → (r.has y ↔ y ≤ r.hi) := fun y hb hl => ⟨fun x => x.2.1, fun x => ⟨hl, x, hb⟩⟩
  by_cases c : andn r.lo r.op = r.bt
  · rw [if_pos (by rw [c]), if_neg (by omega), implHas_eq h]
    simp only [Option.bind_some, decide_eq_true_eq]
    have e : nxt r.bt r.op r.lo = some r.lo := by unfold nxt; rw [if_pos c]
    unfold R.least
    rw [e]
    simp only
    rw [if_pos ((key _ c (Nat.le_refl _)).2 h.1), if_pos h.1]; rfl
  · rw [if_neg (fun e => c (Int.ofNat_inj.1 e))]
    have e : nxt r.bt r.op r.lo = above r.bt r.op r.lo := by unfold nxt; rw [if_neg c]
    unfold R.least
    rw [e]
    cases ha : above r.bt r.op r.lo with
    | none => rfl
    | some y =>
      obtain ⟨h1, h2, h3, _⟩ := above_some h.2.2.2.2 hlo ha
      show (if (y : Int) < 0 then _ else _) = _
      rw [if_neg (by omega)]
      show ((impl_Range_has.f r.lo r.hi r.bt r.op (y : Int)).bind fun t => _) = _
      rw [implHas_eq h]
      simp only [Option.bind_some, decide_eq_true_eq, key y h2 (by omega)]
      by_cases c2 : y ≤ r.hi
      · rw [if_pos c2, if_pos c2]
      · rw [if_neg c2, if_neg c2]; rfl
theorem some_bad {a b c d : Int} (h : ¬ okI a b c d) (k : Nat) : impl_Range_some.f k a b c d = some false := by
  unfold impl_Range_some.f
  rw [implOk_eq, decide_eq_false h]; rfl
theorem some_eq {r : R} (h : r.ok) {k : Nat} (hk : 66 < k) : impl_Range_some.f k r.lo r.hi r.bt r.op = some r.least.isSome := by
  unfold impl_Range_some.f
  rw [implOk_eq, decide_eq_true (okI_nat.2 h)]
  simp only [Option.bind_some, if_true]
  rw [least_eq h (by omega)]
  cases r.least with
  | none => rfl
  | some y =>
    show some (decide ((y : Int) ≥ 0)) = some true
    rw [decide_eq_true (by omega)]
theorem mask_from {n : Nat} (hn : n < 2 ^ 60) (d : Nat) : ∀ (k j : Nat), j + d = blen n → d < k → spec_l2Mask.l0 k n ((2 ^ j - 1 : Nat) : Int) = some ((ones n : Nat) : Int) := by
  have hb := blen_le hn
  induction d with
  | zero =>
    intro k j hj hk
    obtain ⟨k, rfl⟩ : ∃ m, k = m + 1 := ⟨k - 1, by omega⟩
    have := lt_blen n
    have e : j = blen n := by omega
    subst e
    simp only [spec_l2Mask.l0]
    rw [if_neg (by omega)]; rfl
  | succ d ih =>
    intro k j hj hk
    obtain ⟨k, rfl⟩ : ∃ m, k = m + 1 := ⟨k - 1, by omega⟩
    have hp := pow_le_62 (k := j) (by omega)
    have hp1 := pow_le_62 (k := j + 1) (by omega)
    have hs := Nat.pow_succ 2 j
    have h0 := Nat.two_pow_pos j
    have lt : 2 ^ j ≤ n := by
      rcases Nat.lt_or_ge n (2 ^ j) with h | h
      · have := blen_le h; omega
      · exact h
    simp only [spec_l2Mask.l0]
    rw [if_pos (by omega)]
    have e : wrap64 (wrap64 (((2 ^ j - 1 : Nat) : Int) * 2) + 1) = ((2 ^ (j + 1) - 1 : Nat) : Int) := by
      rw [wrap64_id (n := ((2 ^ j - 1 : Nat) : Int) * 2) (by omega) (by omega), wrap64_id (by omega) (by omega)]; omega
    rw [e]
    exact ih k (j + 1) (by omega) (by omega)
theorem mask_eq {n k : Nat} (hn : n < 2 ^ 60) (hk : 60 < k) : spec_l2Mask.f k n = some ((ones n : Nat) : Int) := by
  have hb := blen_le hn
  exact mask_from hn (blen n) k 0 (by omega) (by omega)
theorem mask_pow {j k : Nat} (hj : j ≤ 59) (hk : 60 < k) : spec_l2Mask.f k ((2 ^ j - 1 : Nat) : Int) = some ((2 ^ j - 1 : Nat) : Int) := by
  have h0 := Nat.two_pow_pos j
  have := Nat.pow_le_pow_right (n := 2) (by decide) (show j ≤ 59 from hj)
  rw [mask_eq (by omega) hk]
  unfold ones
  rw [blen_mask]
theorem over_succ {j k : Nat} (hj : j ≤ 33) (hk : 60 < k) : spec_l2Over.f k ((j + 1 : Nat) : Int) = some ((upFrom j : Nat) : Int) := by
  have h0 := Nat.two_pow_pos j
  have hp := pow_le_62 (k := j) (by omega)
  unfold spec_l2Over.f
  rw [if_neg (by omega)]
  try simp only [Option.bind_some]
  rw [w_pred (by omega), if_pos (by omega), shl_one (by omega), w_pow (by omega), mask_pow (by omega) hk]
  try simp only [Option.bind_some]
  rw [show (4294967295 : Int) = ((4294967295 : Nat) : Int) from rfl, bxor (by decide) (by omega)]; rfl
theorem over_zero {k : Nat} : spec_l2Over.f k 0 = some ((4294967295 : Nat) : Int) := rfl
theorem next_from {r : R} (h : r.ok) {m : Nat} (hm : m < 2 ^ 32) (d : Nat) : ∀ (k i : Nat) (b : Option Nat), i + d = 32 → 2 * d + 64 < k → (∀ v, b = some v → ∀ j, i ≤ j → cand r.bt r.op m j = true → v < val r.bt m j) →
    spec_l2Next.l0 k m (num b) ((i + 1 : Nat) : Int) r.lo r.hi r.bt r.op = some (num (best b ((firstFrom (cand r.bt r.op m) d i).map (val r.bt m)))) := by
  obtain ⟨h1, h2, h3, h4, h5⟩ := h
  induction d with
  | zero =>
    intro k i b hi hk hb
    obtain ⟨k, rfl⟩ : ∃ m, k = m + 1 := ⟨k - 1, by omega⟩
    simp only [spec_l2Next.l0]
    rw [if_neg (by omega)]
    cases b <;> rfl
  | succ d ih =>
    intro k i b hi hk hb
    obtain ⟨k, rfl⟩ : ∃ m, k = m + 1 := ⟨k - 1, by omega⟩
    have q1 : ((i + 1 : Nat) : Int) ≤ 32 := by omega
    have q2 : (0 : Int) ≤ ((i + 1 : Nat) : Int) := by omega
    have q3 : ((i + 1 : Nat) : Int) > 0 := by omega
    have q4 : (0 : Int) ≤ ((i : Nat) : Int) := by omega
    have q5 : i + 1 ≤ 59 := by omega
    have q6 : i + 1 ≤ 62 := by omega
    have q7 : i ≤ 62 := by omega
    have q8 : i ≤ 64 := by omega
    have q9 : 60 < k := by omega
    have q10 : i ≤ 33 := by omega
    have q11 : 60 < k - 1 := by omega
    have q12 : i + 1 < 4611686018427387904 := by omega
    have q13 : i < 4611686018427387904 := by omega
    have hi32 : i < 32 := by omega
    have hb' : ∀ v, b = some v → ∀ j, i + 1 ≤ j → cand r.bt r.op m j = true → v < val r.bt m j := fun v hv j hj => hb v hv j (by omega)
    have rec1 := ih k (i + 1) b (by omega) (by omega) hb'
    have rec2 : ∀ b', (∀ v, b' = some v → ∀ j, i + 1 ≤ j → cand r.bt r.op m j = true → v < val r.bt m j) → _ := fun b' => ih (k - 1) (i + 1) b' (by omega) (by omega)
    have hk1 : k = k - 1 + 1 := by omega
    clear ih hk hi
    have hm1 := mask_lt q6
    simp only [spec_l2Next.l0]
    rw [if_pos q1]
    try simp only [Option.bind_some]
    rw [if_pos q2, shl_one q6, w_pow q6, mask_pow q5 q9]
    try simp only [Option.bind_some]
    rw [if_pos q3, w_pred q13, if_pos q4, bit_nat (i32 hm) q8, w_succ q12, shl_one q7, show (4294967295 : Int) = ((4294967295 : Nat) : Int) from rfl, bxor (by decide) hm1, band (i32 hm) (flip63 hm1), flip_and hm, andn_mask, bor (i32 (cut32 hm)) (i32 (Nat.pow_lt_pow_right (by decide) hi32))]
    simp only [firstFrom]
    by_cases c1 : m.testBit i = true
    · rw [if_pos c1, if_pos rfl]
      have nc : ¬ cand r.bt r.op m i = true := fun c => by rw [(cand_iff.1 c).1] at c1; cases c1
      rw [if_neg nc]
      exact rec1
    · rw [if_neg c1, if_neg (by decide)]
      clear rec1
      have hup63 : upFrom i < 2 ^ 63 := Nat.lt_trans (upFrom_lt q10) (by decide)
      rw [hk1]
      generalize k - 1 = k' at rec2 q11
      have c1' : m.testBit i = false := by simpa using c1
      simp only [spec_l2Next.j1]
      rw [over_succ q10 q11]
      try simp only [Option.bind_some]
      rw [w_succ q12, show (4294967295 : Int) = ((4294967295 : Nat) : Int) from rfl, bxor (by decide) (i32 h4), bxor (by decide) hup63, band (i32 (cutor32 hm hi32)) (flip63 (i32 h4)), band (Nat.lt_of_le_of_lt Nat.and_le_left (i32 (cutor32 hm hi32))) hup63, band (i32 h3) hup63, band (i32 (cutor32 hm hi32)) hup63, band (i32 h3) (flip63 hup63)]
      rw [bor (Nat.lt_of_le_of_lt Nat.and_le_left (i32 (cutor32 hm hi32))) (Nat.lt_of_le_of_lt Nat.and_le_left (i32 h3)), val_spec hm hi32]
      by_cases c2 : cand r.bt r.op m i = true
      · rw [if_pos (by rw [(cand_spec h5 h3 hm hi32 c1').2 c2]), if_pos c2]
        have after : ∀ v, some (val r.bt m i) = some v → ∀ j, i + 1 ≤ j → cand r.bt r.op m j = true → v < val r.bt m j := by
          intro v hv j hj hc
          injection hv with hv
          subst hv
          exact val_lt_val hj hc
        cases b with
        | none =>
          rw [if_pos (show num none < 0 by decide)]
          exact rec2 (some (val r.bt m i)) after
        | some v =>
          have hv := hb v rfl i (Nat.le_refl _) c2
          rw [if_neg (not_neg v), if_neg (not_lt_num hv)]
          exact rec2 (some v) hb'
      · rw [if_neg (fun e => c2 ((cand_spec h5 h3 hm hi32 c1').1 (Int.ofNat_inj.1 e))), if_neg c2]
        exact rec2 b hb'
theorem next_eq {r : R} (h : r.ok) {m : Nat} (hm : m < 2 ^ 32) {k : Nat} (hk : 140 < k) : spec_l2Next.f k r.lo r.hi r.bt r.op m = some (num (nxt r.bt r.op m)) := by
  obtain ⟨k, rfl⟩ : ∃ m, k = m + 1 := ⟨k - 1, by omega⟩
  have h' := h
  obtain ⟨h1, h2, h3, h4, h5⟩ := h'
  unfold spec_l2Next.f
  simp only [spec_l2Next.l0]
  rw [if_pos (by decide)]
  try simp only [Option.bind_some]
  have es : wrap64 (shl .i64 1 ((0 : Nat) : Int) - 1) = ((2 ^ 0 - 1 : Nat) : Int) := by rw [shl_one (by omega), wrap64_id (by decide) (by decide)]; rfl
  rw [if_pos (by decide), show wrap64 (shl .i64 1 0 - 1) = ((2 ^ 0 - 1 : Nat) : Int) from es, mask_pow (by omega) (by omega)]
  try simp only [Option.bind_some]
  rw [if_neg (by decide)]
  obtain ⟨k, rfl⟩ : ∃ m, k = m + 1 := ⟨k - 1, by omega⟩
  simp only [spec_l2Next.j1]
  rw [over_zero]
  try simp only [Option.bind_some]
  rw [show (4294967295 : Int) = ((4294967295 : Nat) : Int) from rfl, bxor (by decide) (by decide), bxor (by decide) (i32 h4), bxor (by decide) (by decide), band (i32 hm) (by decide)]
  have e0 : m &&& (4294967295 ^^^ (2 ^ 0 - 1)) = m := by
    rw [flip_and hm]
    apply eq_of_bits
    intro i
    rw [testBit_andn, testBit_mask]; simp
  have et : ∀ x : Nat, x < 2 ^ 32 → x &&& 4294967295 = x := fun x hx => by
    rw [show (4294967295 : Nat) = 2 ^ 32 - 1 from rfl, and_mask]
    exact Nat.mod_eq_of_lt hx
  rw [e0, band (i32 hm) (flip63 (i32 h4)), flip_and hm, band (Nat.lt_of_le_of_lt (andn_le _ _) (i32 hm)) (by decide), band (i32 h3) (by decide), band (i32 hm) (by decide), band (i32 h3) (by decide)]
  rw [et _ (Nat.lt_of_le_of_lt (andn_le _ _) hm), et _ h3, et _ hm, bor (i32 hm) (Nat.lt_of_le_of_lt Nat.and_le_left (i32 h3))]
  have e4 : m ||| (r.bt &&& (4294967295 ^^^ 4294967295)) = m := by simp
  have e5 : wrap64 (0 + 1) = ((0 + 1 : Nat) : Int) := by rw [wrap64_id (by decide) (by decide)]; rfl
  rw [e4, e5]
  by_cases c : andn m r.op = r.bt
  · rw [if_pos (by rw [c]), if_pos (by decide)]
    have : nxt r.bt r.op m = some m := by unfold nxt; rw [if_pos c]
    rw [this]
    exact next_from h hm 32 k 0 (some m) (by omega) (by omega) (fun v hv j _ hc => by injection hv with hv; subst hv; exact val_gt hc)
  · rw [if_neg (fun e => c (by omega))]
    have : nxt r.bt r.op m = above r.bt r.op m := by unfold nxt; rw [if_neg c]
    rw [this]
    exact next_from h hm 32 k 0 none (by omega) (by omega) (fun v hv => by cases hv)
theorem l2Some_eq {r : R} (h : r.ok) {k : Nat} (hk : 140 < k) : spec_l2Some.f k r.lo r.hi r.bt r.op = some r.least.isSome := by
  unfold spec_l2Some.f
  rw [next_eq h (R.lo_lt h) hk]
  try simp only [Option.bind_some]
  unfold R.least
  cases nxt r.bt r.op r.lo with
  | none => rfl
  | some y =>
    show (if (y : Int) ≥ 0 then some (decide ((y : Int) ≤ r.hi)) else some false) = _
    rw [if_pos (by omega)]
    by_cases c : y ≤ r.hi
    · rw [decide_eq_true (by omega)]; simp [c]
    · rw [decide_eq_false (by omega)]; simp [c]
theorem l2Tidy_eq {r : R} (h : R32 r) {k : Nat} (hk : 61 < k) : spec_l2Tidy.f k r.lo r.hi r.bt r.op = some (ans r.tidy) := by
  have h' := h
  obtain ⟨h1, h2, h3, h4⟩ := h'
  have hx := h.xor
  have hm := ones_lt hx
  have hal : andn r.lo (ones (r.lo ^^^ r.hi)) < 2 ^ 32 := Nat.lt_of_le_of_lt (andn_le _ _) h1
  have hob : r.bt ||| andn r.lo (ones (r.lo ^^^ r.hi)) < 2 ^ 32 := Nat.or_lt_two_pow h3 hal
  have hop : r.op &&& ones (r.lo ^^^ r.hi) < 2 ^ 32 := Nat.lt_of_le_of_lt Nat.and_le_left h4
  have hbt : andn (r.bt ||| andn r.lo (ones (r.lo ^^^ r.hi))) (r.op &&& ones (r.lo ^^^ r.hi)) < 2 ^ 32 := Nat.lt_of_le_of_lt (andn_le _ _) hob
  obtain ⟨k, rfl⟩ : ∃ m, k = m + 1 := ⟨k - 1, by omega⟩
  unfold spec_l2Tidy.f spec_l2Bits.f
  simp only [spec_l2Tidy.j0]
  rw [bxor (i32 h1) (i32 h2), mask_eq (by omega) (by omega)]
  try simp only [Option.bind_some]
  rw [show (4294967295 : Int) = ((4294967295 : Nat) : Int) from rfl, bxor (by decide) (i32 hm), band (i32 h1) (flip63 (i32 hm)), flip_and h1, bor (i32 h3) (i32 hal), band (i32 h4) (i32 hm), bxor (by decide) (i32 hop), band (i32 hob) (flip63 (i32 hop)), flip_and hob, bor (i32 hbt) (i32 hop)]
  show _ = some (((max r.lo (andn (r.bt ||| andn r.lo (ones (r.lo ^^^ r.hi))) (r.op &&& ones (r.lo ^^^ r.hi))) : Nat) : Int), ((min r.hi (andn (r.bt ||| andn r.lo (ones (r.lo ^^^ r.hi))) (r.op &&& ones (r.lo ^^^ r.hi)) ||| (r.op &&& ones (r.lo ^^^ r.hi))) : Nat) : Int), ((andn (r.bt ||| andn r.lo (ones (r.lo ^^^ r.hi))) (r.op &&& ones (r.lo ^^^ r.hi)) : Nat) : Int), ((r.op &&& ones (r.lo ^^^ r.hi) : Nat) : Int))
  generalize andn (r.bt ||| andn r.lo (ones (r.lo ^^^ r.hi))) (r.op &&& ones (r.lo ^^^ r.hi)) = B
  generalize r.op &&& ones (r.lo ^^^ r.hi) = O
  by_cases c1 : B > r.lo
  · rw [if_pos (by omega), Nat.max_eq_right (by omega)]
    by_cases c2 : B ||| O < r.hi
    · rw [if_pos (by omega), Nat.min_eq_right (by omega)]
    · rw [if_neg (by omega), Nat.min_eq_left (by omega)]
  · rw [if_neg (by omega), Nat.max_eq_left (by omega)]
    by_cases c2 : B ||| O < r.hi
    · rw [if_pos (by omega), Nat.min_eq_right (by omega)]
    · rw [if_neg (by omega), Nat.min_eq_left (by omega)]
theorem len_eq {x : Nat} (h : x < 2 ^ 63) : bits_Len.f x = some ((blen x : Nat) : Int) := by
  unfold bits_Len.f
  rw [if_pos (by omega), if_pos (by omega), Int.toNat_natCast]
  unfold Lib.bitLen
  rw [bitLenAux_eq 64 x (by omega)]
theorem implTidy_eq {r : R} (h : R32 r) : impl_Range_tidy.f r.lo r.hi r.bt r.op = some (ans r.tidy) := by
  have h' := h
  obtain ⟨h1, h2, h3, h4⟩ := h'
  have hx := h.xor
  have hb := blen_le hx
  have hp := pow_le_62 (k := blen (r.lo ^^^ r.hi)) (by omega)
  have hp0 := Nat.two_pow_pos (blen (r.lo ^^^ r.hi))
  have hm := ones_lt hx
  have hal : andn r.lo (ones (r.lo ^^^ r.hi)) < 2 ^ 32 := Nat.lt_of_le_of_lt (andn_le _ _) h1
  have hob : r.bt ||| andn r.lo (ones (r.lo ^^^ r.hi)) < 2 ^ 32 := Nat.or_lt_two_pow h3 hal
  have hop : r.op &&& ones (r.lo ^^^ r.hi) < 2 ^ 32 := Nat.lt_of_le_of_lt Nat.and_le_left h4
  have hbt : andn (r.bt ||| andn r.lo (ones (r.lo ^^^ r.hi))) (r.op &&& ones (r.lo ^^^ r.hi)) < 2 ^ 32 := Nat.lt_of_le_of_lt (andn_le _ _) hob
  have ew : IntKind.u64.wrap ((r.lo ^^^ r.hi : Nat) : Int) = ((r.lo ^^^ r.hi : Nat) : Int) := by
    simp only [IntKind.wrap, IntKind.bits, IntKind.signed]
    simp
    omega
  have em : wrap64 (((2 ^ blen (r.lo ^^^ r.hi) : Nat) : Int) - 1) = ((ones (r.lo ^^^ r.hi) : Nat) : Int) := by
    rw [wrap64_id (by omega) (by omega)]; unfold ones; omega
  unfold impl_Range_tidy.f
  rw [bxor (i32 h1) (i32 h2), ew, len_eq (i32 hx)]
  try simp only [Option.bind_some]
  rw [if_pos (by omega), shl_one (by omega), em, bandn (i32 h1) (i32 hm), bor (i32 h3) (i32 hal), band (i32 h4) (i32 hm), bandn (i32 hob) (i32 hop), bor (i32 hbt) (i32 hop), mx_nat, mn_nat]
  rfl
theorem some_any (a b c d : Int) {k : Nat} (hk : 66 < k) : impl_Range_some.f k a b c d = some (someR a b c d).isSome := by
  cases h : toR a b c d with
  | none => rw [some_bad (toR_none h), someR_bad h]; rfl
  | some r =>
    obtain ⟨hr, rfl, rfl, rfl, rfl⟩ := toR_some h
    rw [some_eq hr hk]
    by_cases c : r.least.isSome = true
    · rw [someR_ok hr c, c]; rfl
    · rw [someR_empty hr c]; simpa using c
theorem l2Meet_eq {x y : R} (hx : x.ok) (hy : y.ok) {k : Nat} (hk : 145 < k) : spec_l2Meet.f k x.lo x.hi x.bt x.op y.lo y.hi y.bt y.op = some (match meetR x y with
    | some z => ((z.lo : Int), (z.hi : Int), (z.bt : Int), (z.op : Int), true)
    | none => (1, 0, 0, 0, false)) := by
  obtain ⟨a1, a2, a3, a4⟩ := lt63 (ok32 hx)
  obtain ⟨b1, b2, b3, b4⟩ := lt63 (ok32 hy)
  obtain ⟨k, rfl⟩ : ∃ m, k = m + 1 := ⟨k - 1, by omega⟩
  have e : (4294967295 ^^^ x.op) &&& (4294967295 ^^^ y.op) &&& (x.bt ^^^ y.bt) = andn (x.bt ^^^ y.bt) (x.op ||| y.op) := by
    apply eq_of_bits
    intro i
    rw [Nat.testBit_and, Nat.testBit_and, flip_bit, flip_bit, testBit_andn, Nat.testBit_xor, Nat.testBit_or]
    by_cases h : i < 32
    · simp only [h, decide_true]
      cases x.bt.testBit i <;> cases y.bt.testBit i <;> cases x.op.testBit i <;> cases y.op.testBit i <;> rfl
    · rw [high_false hx.2.2.1 (by omega), high_false hy.2.2.1 (by omega)]; simp
  have key : ∀ (k : Nat) (lo hi : Nat), 143 < k → lo = max x.lo y.lo → hi = min x.hi y.hi → ¬ x.clash y → spec_l2Meet.j1 (k + 1) lo hi ((x.bt ||| y.bt : Nat) : Int) ((x.op &&& y.op : Nat) : Int) = some (match meetR x y with
    | some z => ((z.lo : Int), (z.hi : Int), (z.bt : Int), (z.op : Int), true)
    | none => (1, 0, 0, 0, false)) := by
    rintro k lo hi hk rfl rfl hc
    simp only [spec_l2Meet.j1]
    unfold meetR
    rw [if_neg hc]
    by_cases c : max x.lo y.lo ≤ min x.hi y.hi
    · have hm : (x.meet y).ok := (meet_ok hx hy).2 c
      rw [if_neg (by omega), if_pos (show (x.meet y).lo ≤ (x.meet y).hi from c)]
      have h1 := l2Some_eq hm (k := k) (by omega)
      have h2 := l2Tidy_eq (ok32 hm) (k := k) (by omega)
      rw [show spec_l2Some.f k ((max x.lo y.lo : Nat) : Int) ((min x.hi y.hi : Nat) : Int) ((x.bt ||| y.bt : Nat) : Int) ((x.op &&& y.op : Nat) : Int) = _ from h1, show spec_l2Tidy.f k ((max x.lo y.lo : Nat) : Int) ((min x.hi y.hi : Nat) : Int) ((x.bt ||| y.bt : Nat) : Int) ((x.op &&& y.op : Nat) : Int) = _ from h2]
      simp only [Option.bind_some]
      by_cases c2 : (x.meet y).least.isSome = true
      · rw [if_pos c2, if_pos c2]; rfl
      · rw [if_neg c2, if_neg c2]
    · rw [if_pos (by omega), if_neg (show ¬ (x.meet y).lo ≤ (x.meet y).hi from c)]
  unfold spec_l2Meet.f
  simp only [spec_l2Meet.j0]
  rw [show (4294967295 : Int) = ((4294967295 : Nat) : Int) from rfl, bxor (by decide) a4, bxor (by decide) b4, bxor a3 b3, band (flip63 a4) (flip63 b4), band (Nat.lt_of_le_of_lt Nat.and_le_left (flip63 a4)) (Nat.xor_lt_two_pow a3 b3), e, bor a3 b3, band a4 b4]
  by_cases hc : x.clash y
  · rw [if_neg (fun z => hc (Int.natCast_eq_zero.1 z))]
    unfold meetR
    rw [if_pos hc]
  · have hz : andn (x.bt ^^^ y.bt) (x.op ||| y.op) = 0 := by unfold R.clash at hc; exact Decidable.not_not.1 hc
    obtain ⟨k, rfl⟩ : ∃ m, k = m + 1 := ⟨k - 1, by omega⟩
    rw [if_pos (by rw [hz]; rfl)]
    by_cases c1 : y.lo > x.lo
    · rw [if_pos (by omega)]
      by_cases c2 : y.hi < x.hi
      · rw [if_pos (by omega)]; exact key _ _ _ (by omega) (by omega) (by omega) hc
      · rw [if_neg (by omega)]; exact key _ _ _ (by omega) (by omega) (by omega) hc
    · rw [if_neg (by omega)]
      by_cases c2 : y.hi < x.hi
      · rw [if_pos (by omega)]; exact key _ _ _ (by omega) (by omega) (by omega) hc
      · rw [if_neg (by omega)]; exact key _ _ _ (by omega) (by omega) (by omega) hc
/-- What meet answers. -/
def meetA : Option R → Int × Int × Int × Int × Bool
  | some z => ((z.lo : Int), (z.hi : Int), (z.bt : Int), (z.op : Int), true)
  | none => (1, 0, 0, 0, false)
theorem implMeet_eq {x y : R} (hx : x.ok) (hy : y.ok) {k : Nat} (hk : 70 < k) : impl_meet.f k x.lo x.hi x.bt x.op y.lo y.hi y.bt y.op = some (meetA (meetR x y)) := by
  obtain ⟨a1, a2, a3, a4⟩ := lt63 (ok32 hx)
  obtain ⟨b1, b2, b3, b4⟩ := lt63 (ok32 hy)
  obtain ⟨k, rfl⟩ : ∃ m, k = m + 1 := ⟨k - 1, by omega⟩
  unfold impl_meet.f
  simp only [impl_meet.j0]
  rw [bxor a3 b3, bor a4 b4, bandn (Nat.xor_lt_two_pow a3 b3) (Nat.or_lt_two_pow a4 b4), mx_nat, mn_nat, bor a3 b3, band a4 b4, some_any _ _ _ _ (by omega)]
  have ht := implTidy_eq (r := x.meet y) (meet32 (ok32 hx) (ok32 hy))
  rw [show impl_Range_tidy.f ((max x.lo y.lo : Nat) : Int) ((min x.hi y.hi : Nat) : Int) ((x.bt ||| y.bt : Nat) : Int) ((x.op &&& y.op : Nat) : Int) = _ from ht]
  unfold meetR
  by_cases hc : x.clash y
  · rw [if_neg (fun z => hc (Int.natCast_eq_zero.1 z)), if_pos hc]; rfl
  · have hz : andn (x.bt ^^^ y.bt) (x.op ||| y.op) = 0 := by unfold R.clash at hc; exact Decidable.not_not.1 hc
    rw [if_pos (by rw [hz]; rfl), if_neg hc]
    by_cases c : (x.meet y).lo ≤ (x.meet y).hi
    · have hm : (x.meet y).ok := (meet_ok hx hy).2 c
      rw [if_pos c]
      by_cases c2 : (x.meet y).least.isSome = true
      · rw [if_pos c2, show someR ((max x.lo y.lo : Nat) : Int) ((min x.hi y.hi : Nat) : Int) ((x.bt ||| y.bt : Nat) : Int) ((x.op &&& y.op : Nat) : Int) = _ from someR_ok hm c2]; rfl
      · rw [if_neg c2, show someR ((max x.lo y.lo : Nat) : Int) ((min x.hi y.hi : Nat) : Int) ((x.bt ||| y.bt : Nat) : Int) ((x.op &&& y.op : Nat) : Int) = _ from someR_empty hm c2]; rfl
    · rw [if_neg c]
      have : toR ((max x.lo y.lo : Nat) : Int) ((min x.hi y.hi : Nat) : Int) ((x.bt ||| y.bt : Nat) : Int) ((x.op &&& y.op : Nat) : Int) = none := by
        unfold toR
        rw [if_neg]
        intro h
        exact c (by have := h.2.1; show max x.lo y.lo ≤ min x.hi y.hi; omega)
      rw [someR_bad this]; rfl
theorem meetA_eq (o : Option R) : (match o with
    | some z => ((z.lo : Int), (z.hi : Int), (z.bt : Int), (z.op : Int), true)
    | none => (1, 0, 0, 0, false)) = meetA o := by cases o <;> rfl
/-- What RangeMeet answers. -/
def meetB : Option R → Option R → Option R
  | some x, some y => meetR x y
  | _, _ => none
theorem specMeet_eq (a b c d e f g h : Int) {k : Nat} (hk : 145 < k) : spec_RangeMeet.f k a b c d e f g h = some (meetA (meetB (toR a b c d) (toR e f g h))) := by
  unfold spec_RangeMeet.f
  simp only [l2Ok_eq, Option.bind_some, decide_eq_true_eq]
  cases hx : toR a b c d with
  | none => rw [if_neg (toR_none hx)]; rfl
  | some x =>
    obtain ⟨hx', rfl, rfl, rfl, rfl⟩ := toR_some hx
    rw [if_pos (okI_nat.2 hx')]
    cases hy : toR e f g h with
    | none => rw [if_neg (toR_none hy)]; rfl
    | some y =>
      obtain ⟨hy', rfl, rfl, rfl, rfl⟩ := toR_some hy
      rw [if_pos (okI_nat.2 hy'), l2Meet_eq hx' hy' hk, meetA_eq]; rfl
theorem rangeMeet_eq (a b c d e f g h : Int) {k : Nat} (hk : 72 < k) : impl_RangeMeet.f k a b c d e f g h = some (meetA (meetB (toR a b c d) (toR e f g h))) := by
  obtain ⟨k, rfl⟩ : ∃ m, k = m + 1 := ⟨k - 1, by omega⟩
  unfold impl_RangeMeet.f
  simp only [implOk_eq, Option.bind_some, decide_eq_true_eq, impl_RangeMeet.j0]
  cases hx : toR a b c d with
  | none => rw [if_neg (toR_none hx)]; rfl
  | some x =>
    obtain ⟨hx', rfl, rfl, rfl, rfl⟩ := toR_some hx
    rw [if_pos (okI_nat.2 hx')]
    cases hy : toR e f g h with
    | none => rw [decide_eq_false (toR_none hy)]; rfl
    | some y =>
      obtain ⟨hy', rfl, rfl, rfl, rfl⟩ := toR_some hy
      rw [decide_eq_true (okI_nat.2 hy'), if_neg (by decide), implMeet_eq hx' hy' (by omega)]; rfl
/-- Two ranges together, as the reference reckons, whatever they are. -/
def joinR (x y : R) : R := ⟨min x.lo y.lo, max x.hi y.hi, andn x.bt (x.op ||| y.op ||| (x.bt ^^^ y.bt)), x.op ||| y.op ||| (x.bt ^^^ y.bt)⟩
theorem joinR32 {x y : R} (hx : R32 x) (hy : R32 y) : R32 (joinR x y) :=
  ⟨Nat.lt_of_le_of_lt (Nat.min_le_left _ _) hx.1, Nat.max_lt.2 ⟨hx.2.1, hy.2.1⟩, Nat.lt_of_le_of_lt (andn_le _ _) hx.2.2.1, Nat.or_lt_two_pow (Nat.or_lt_two_pow hx.2.2.2 hy.2.2.2) (Nat.xor_lt_two_pow hx.2.2.1 hy.2.2.1)⟩
theorem l2Join_gen {x y : R} (hx : R32 x) (hy : R32 y) {k : Nat} (hk : 70 < k) : spec_l2Join.f k x.lo x.hi x.bt x.op y.lo y.hi y.bt y.op = some (ans (joinR x y).tidy) := by
  obtain ⟨a1, a2, a3, a4⟩ := lt63 hx
  obtain ⟨b1, b2, b3, b4⟩ := lt63 hy
  obtain ⟨k, rfl⟩ : ∃ m, k = m + 2 := ⟨k - 2, by omega⟩
  have hor := Nat.or_lt_two_pow a4 b4
  have hxo := Nat.xor_lt_two_pow a3 b3
  have hop := Nat.or_lt_two_pow hor hxo
  have key : ∀ lo hi : Nat, lo = min x.lo y.lo → hi = max x.hi y.hi → ((spec_l2Tidy.f k lo hi ((andn x.bt (x.op ||| y.op ||| (x.bt ^^^ y.bt)) : Nat) : Int) ((x.op ||| y.op ||| (x.bt ^^^ y.bt) : Nat) : Int)).bind fun bt => some (bt.1, bt.2.1, bt.2.2.1, bt.2.2.2)) = some (ans (joinR x y).tidy) := by
    rintro lo hi rfl rfl
    have := l2Tidy_eq (r := joinR x y) (joinR32 hx hy) (k := k) (by omega)
    exact (congrArg (fun o => Option.bind o fun bt => some (bt.1, bt.2.1, bt.2.2.1, bt.2.2.2)) this).trans rfl
  unfold spec_l2Join.f
  simp only [spec_l2Join.j0, spec_l2Join.j1]
  rw [bor a4 b4, bxor a3 b3, bor hor hxo, show (4294967295 : Int) = ((4294967295 : Nat) : Int) from rfl, bxor (by decide) hop, band a3 (flip63 hop), flip_and hx.2.2.1]
  by_cases c1 : y.lo < x.lo
  · rw [if_pos (by omega)]
    by_cases c2 : y.hi > x.hi
    · rw [if_pos (by omega)]; exact key _ _ (by omega) (by omega)
    · rw [if_neg (by omega)]; exact key _ _ (by omega) (by omega)
  · rw [if_neg (by omega)]
    by_cases c2 : y.hi > x.hi
    · rw [if_pos (by omega)]; exact key _ _ (by omega) (by omega)
    · rw [if_neg (by omega)]; exact key _ _ (by omega) (by omega)
/-- What RangeIn answers. -/
def inB : Option R → Option R → Bool
  | some x, some y => decide (x.within y)
  | _, _ => false
theorem implIn_eq (a b c d e f g h : Int) {k : Nat} (hk : 66 < k) : impl_RangeIn.f k a b c d e f g h = some (inB (someR a b c d) (someR e f g h)) := by
  unfold impl_RangeIn.f
  rw [some_any _ _ _ _ hk, some_any _ _ _ _ hk]
  simp only [Option.bind_some]
  cases hx : someR a b c d with
  | none => rfl
  | some x =>
    cases hy : someR e f g h with
    | none => rfl
    | some y =>
      obtain ⟨⟨hx', rfl, rfl, rfl, rfl⟩, _⟩ := someR_some hx
      obtain ⟨⟨hy', rfl, rfl, rfl, rfl⟩, _⟩ := someR_some hy
      obtain ⟨a1, a2, a3, a4⟩ := lt63 (ok32 hx')
      obtain ⟨b1, b2, b3, b4⟩ := lt63 (ok32 hy')
      rw [if_pos (show (some x).isSome = true from rfl), if_pos (show (some y).isSome = true from rfl), bandn a4 b4, bxor a3 b3, bandn (Nat.xor_lt_two_pow a3 b3) b4]
      show _ = some (decide (x.within y))
      by_cases c1 : y.lo ≤ x.lo
      · rw [if_pos (by omega)]
        by_cases c2 : x.hi ≤ y.hi
        · rw [if_pos (by omega)]
          by_cases c3 : andn x.op y.op = 0
          · rw [if_pos (by rw [c3]; rfl)]
            by_cases c4 : andn (x.bt ^^^ y.bt) y.op = 0
            · rw [c4, decide_eq_true (show x.within y from ⟨c1, c2, c3, c4⟩)]; rfl
            · rw [decide_eq_false (fun h : x.within y => c4 h.2.2.2)]; simp; omega
          · rw [if_neg (by omega), decide_eq_false (fun h : x.within y => c3 h.2.2.1)]
        · rw [if_neg (by omega), decide_eq_false (fun h : x.within y => c2 h.2.1)]
      · rw [if_neg (by omega), decide_eq_false (fun h : x.within y => c1 h.1)]
theorem open_gives {l : List Int} (hl : ∀ x ∈ l, (Lit.int .u8 x).wf = true) : Gives (spec_l20Open.f l) (fun v => Bytes v.1 ∧ v.2 = 0) := by
  unfold spec_l20Open.f
  refine Gives.ite (fun h => ?_) (fun h => ?_)
  · rw [if_pos (by omega)]
    exact Gives.ret ⟨⟨by rw [List.length_take]; omega, fun x hx => u8_wf (hl x (List.mem_of_mem_take hx))⟩, rfl⟩
  · exact Gives.ret ⟨⟨by show l.length ≤ 2000; omega, fun x hx => u8_wf (hl x hx)⟩, rfl⟩
theorem pick_gives {k : Nat} {b : List Int} (hb : Bytes b) {p n : Int} (h0 : 0 ≤ p) (h1 : p ≤ 10000) (hn : 1 ≤ n) (hk : 0 < k) : Gives (spec_l20Rd_pick.f k b p n) (fun v => 0 ≤ v.1 ∧ v.1 < n ∧ v.2 = p + 1) := by
  obtain ⟨k, rfl⟩ : ∃ m, k = m + 1 := ⟨k - 1, by omega⟩
  unfold spec_l20Rd_pick.f
  rw [if_neg (by omega)]
  simp only [spec_l20Rd_pick.j0]
  rw [wrap64_id (n := p + 1) (by omega) (by omega), wrap64_id (n := p + 1 - 1) (by omega) (by omega), show p + 1 - 1 = p by omega]
  obtain ⟨hb1, hb2⟩ := hb
  refine Gives.ite (fun _ => Gives.ret ⟨by omega, by omega, rfl⟩) (fun he => ?_)
  have hl : 1 ≤ (b.length : Int) := by
    rcases b with _ | ⟨x, l⟩
    · simp at he
    · simp; omega
  refine Gives.ite (fun hlt => ?_) (fun _ => ?_)
  · rw [if_pos h0, if_neg (by omega)]
    have hv := hb2 _ (rd_mem h0 hlt)
    rw [wrap64_id (by omega) (by omega)]
    have := tmod_range hv.1 hn
    exact Gives.ret ⟨this.1, this.2, rfl⟩
  · have hq := tmod_range h0 hl
    have hw : 0 ≤ wrap64 (wrap64 (p * 7) + 3) := by rw [wrap64_id (n := p * 7) (by omega) (by omega), wrap64_id (by omega) (by omega)]; omega
    have hr := tmod_range hw hl
    rw [if_neg (by omega), if_pos hq.1, if_pos hq.2, if_pos hr.1, if_pos hr.2, if_neg (by omega)]
    have hv1 := hb2 _ (rd_mem hq.1 hq.2)
    have hv2 := hb2 _ (rd_mem hr.1 hr.2)
    have hd : 0 ≤ Int.tdiv p (b.length : Int) ∧ Int.tdiv p (b.length : Int) ≤ 100000 := by
      refine ⟨Int.tdiv_nonneg h0 (by omega), ?_⟩
      rw [Int.tdiv_eq_ediv_of_nonneg h0]
      have := Int.ediv_le_self (b.length : Int) h0
      omega
    have hm := mix hv1 hv2 ⟨h0, by omega⟩ hd
    have hx := tmod_range (xor_pos hm.1 hm.2) hn
    exact Gives.ret ⟨hx.1, hx.2, rfl⟩
theorem one_gives {k : Nat} {b : List Int} (hb : Bytes b) {p : Int} (h0 : 0 ≤ p) (h1 : p ≤ 10000) {l : List Int} (hl : 1 ≤ (l.length : Int)) (hk : 0 < k) : Gives (spec_l20Rd_one.f k b p l) (fun v => v.1 ∈ l ∧ v.2 = p + 1) := by
  unfold spec_l20Rd_one.f
  refine (pick_gives hb h0 h1 hl hk).bind fun v hv => ?_
  rw [if_pos hv.1, if_pos hv.2.1]
  exact Gives.ret ⟨rd_mem hv.1 hv.2.1, hv.2.2⟩
theorem imm_gives {k : Nat} {b : List Int} (hb : Bytes b) {p : Int} (h0 : 0 ≤ p) (h1 : p ≤ 10000) (hk : 0 < k) : Gives (spec_l20Imm.f k b p) (fun v => N32 v.1 ∧ v.2 = p + 1) := by
  unfold spec_l20Imm.f
  refine (one_gives hb h0 h1 (by decide) hk).bind fun v hv => Gives.ret ⟨?_, hv.2⟩
  have := hv.1
  simp only [List.mem_cons, List.not_mem_nil, or_false] at this
  show N32 v.1
  unfold N32
  omega
theorem number_gives {k : Nat} {b : List Int} (hb : Bytes b) {p : Int} (h0 : 0 ≤ p) (h1 : p ≤ 9990) (hk : 0 < k) : Gives (spec_l20Number.f k b p) (fun v => N32 v.1 ∧ 0 ≤ v.2 ∧ v.2 ≤ p + 3) := by
  unfold spec_l20Number.f
  refine (pick_gives hb h0 (by omega) (by decide) hk).bind fun v hv => ?_
  obtain ⟨_, _, hv⟩ := hv
  refine Gives.ite (fun _ => ?_) (fun _ => Gives.ite (fun _ => ?_) (fun _ => ?_))
  · exact (imm_gives hb (by omega) (by omega) hk).bind fun u hu => Gives.ret ⟨hu.1, by omega, by omega⟩
  · exact (pick_gives hb (by omega) (by omega) (by decide) hk).bind fun u hu => Gives.ret ⟨⟨hu.1, by omega⟩, by omega, by omega⟩
  · refine (pick_gives hb (by omega) (by omega) (by decide) hk).bind fun u hu => ?_
    obtain ⟨hu0, hu1, hu2⟩ := hu
    refine (one_gives hb (by omega) (by omega) (by decide) hk).bind fun s hs => ?_
    obtain ⟨hs1, hs2⟩ := hs
    simp only [List.mem_cons, List.not_mem_nil, or_false] at hs1
    rw [if_pos (by omega)]
    refine Gives.ret ⟨?_, by omega, by omega⟩
    obtain ⟨a, ha⟩ := Int.eq_ofNat_of_zero_le hu0
    show N32 (shl .i64 u.1 s.1)
    rw [ha] at hu1 ⊢
    have ha' : a < 256 := by omega
    unfold N32
    rcases hs1 with h | h | h | h | h <;> rw [h]
    · have := shl_nat (a := a) (k := 0) (by decide) (by omega); rw [show (0 : Int) = ((0 : Nat) : Int) from rfl, this]; omega
    · have := shl_nat (a := a) (k := 4) (by decide) (by omega); rw [show (4 : Int) = ((4 : Nat) : Int) from rfl, this]; omega
    · have := shl_nat (a := a) (k := 8) (by decide) (by omega); rw [show (8 : Int) = ((8 : Nat) : Int) from rfl, this]; omega
    · have := shl_nat (a := a) (k := 16) (by decide) (by omega); rw [show (16 : Int) = ((16 : Nat) : Int) from rfl, this]; omega
    · have := shl_nat (a := a) (k := 24) (by decide) (by omega); rw [show (24 : Int) = ((24 : Nat) : Int) from rfl, this]; omega
theorem n32_R {a b c d : Int} (ha : N32 a) (hb : N32 b) (hc : N32 c) (hd : N32 d) : ∃ r : R, R32 r ∧ a = r.lo ∧ b = r.hi ∧ c = r.bt ∧ d = r.op := by
  unfold N32 at ha hb hc hd
  exact ⟨⟨a.toNat, b.toNat, c.toNat, d.toNat⟩, ⟨by show a.toNat < _; omega, by show b.toNat < _; omega, by show c.toNat < _; omega, by show d.toNat < _; omega⟩, by show a = (a.toNat : Int); omega, by show b = (b.toNat : Int); omega, by show c = (c.toNat : Int); omega, by show d = (d.toNat : Int); omega⟩
/-- Four numbers of 32 bits. -/
def N4 (v : Int × Int × Int × Int) : Prop := N32 v.1 ∧ N32 v.2.1 ∧ N32 v.2.2.1 ∧ N32 v.2.2.2
theorem ans_N4 {r : R} (h : R32 r) : N4 (ans r) := by
  obtain ⟨h1, h2, h3, h4⟩ := h
  refine ⟨⟨?_, ?_⟩, ⟨?_, ?_⟩, ⟨?_, ?_⟩, ⟨?_, ?_⟩⟩
  · show (0 : Int) ≤ (r.lo : Int); omega
  · show (r.lo : Int) ≤ 4294967295; omega
  · show (0 : Int) ≤ (r.hi : Int); omega
  · show (r.hi : Int) ≤ 4294967295; omega
  · show (0 : Int) ≤ (r.bt : Int); omega
  · show (r.bt : Int) ≤ 4294967295; omega
  · show (0 : Int) ≤ (r.op : Int); omega
  · show (r.op : Int) ≤ 4294967295; omega
theorem zero32 : N32 0 := by unfold N32; omega
theorem top32 : N32 4294967295 := by unfold N32; omega
theorem l2Tidy_gives {a b c d : Int} (ha : N32 a) (hb : N32 b) (hc : N32 c) (hd : N32 d) {k : Nat} (hk : 61 < k) : Gives (spec_l2Tidy.f k a b c d) N4 := by
  obtain ⟨r, hr, rfl, rfl, rfl, rfl⟩ := n32_R ha hb hc hd
  exact Gives.of_eq (l2Tidy_eq hr hk) (ans_N4 (tidy32 hr))
theorem l2Ends_gives {a b : Int} (ha : N32 a) (hb : N32 b) {k : Nat} (hk : 61 < k) : Gives (spec_l2Ends.f k a b) N4 := by
  unfold spec_l2Ends.f
  exact (l2Tidy_gives ha hb zero32 top32 hk).bind fun v hv => Gives.ret hv
theorem l2Join_gives {a b c d e f g h : Int} (ha : N32 a) (hb : N32 b) (hc : N32 c) (hd : N32 d) (he : N32 e) (hf : N32 f) (hg : N32 g) (hh : N32 h) {k : Nat} (hk : 70 < k) : Gives (spec_l2Join.f k a b c d e f g h) N4 := by
  obtain ⟨x, hx, rfl, rfl, rfl, rfl⟩ := n32_R ha hb hc hd
  obtain ⟨y, hy, rfl, rfl, rfl, rfl⟩ := n32_R he hf hg hh
  exact Gives.of_eq (l2Join_gen hx hy hk) (ans_N4 (tidy32 (joinR32 hx hy)))
/-- What a drawn range is: its four numbers, a number, and how far the reader is. -/
def Drawn6 (p c : Int) (v : Int × Int × Int × Int × Int × Int) : Prop := N32 v.1 ∧ N32 v.2.1 ∧ N32 v.2.2.1 ∧ N32 v.2.2.2.1 ∧ N32 v.2.2.2.2.1 ∧ 0 ≤ v.2.2.2.2.2 ∧ v.2.2.2.2.2 ≤ p + c
def Drawn5 (p c : Int) (v : Int × Int × Int × Int × Int) : Prop := N32 v.1 ∧ N32 v.2.1 ∧ N32 v.2.2.1 ∧ N32 v.2.2.2.1 ∧ 0 ≤ v.2.2.2.2 ∧ v.2.2.2.2 ≤ p + c
theorem range_loop {b : List Int} (hb : Bytes b) (d : Nat) : ∀ (k : Nat) (x n p r0 r1 r2 r3 : Int), N32 x → n = d → 0 ≤ p → p + 3 * d ≤ 9000 → N32 r0 → N32 r1 → N32 r2 → N32 r3 → d + 74 < k → d ≤ 10 →
    Gives (spec_l20Range.l0 k x n b p r0 r1 r2 r3) (Drawn6 p (3 * d + 4)) := by
  induction d with
  | zero =>
    intro k x n p r0 r1 r2 r3 hx hn hp0 hp1 h0 h1 h2 h3 hk _
    obtain ⟨k, rfl⟩ : ∃ m, k = m + 1 := ⟨k - 1, by omega⟩
    simp only [spec_l20Range.l0]
    rw [if_neg (by omega)]
    refine (pick_gives hb hp0 (by omega) (by decide) (by omega)).bind fun v hv => ?_
    obtain ⟨_, _, hv⟩ := hv
    refine Gives.ite (fun _ => ?_) (fun _ => Gives.ite (fun _ => ?_) (fun _ => Gives.ite (fun _ => ?_) (fun _ => ?_)))
    · exact Gives.ret ⟨zero32, top32, zero32, top32, hx, by show 0 ≤ v.2; omega, by show v.2 ≤ _; omega⟩
    · refine (number_gives hb (by omega) (by omega) (by omega)).bind fun u hu => ?_
      obtain ⟨hu0, hu1, hu2⟩ := hu
      refine Gives.ite (fun _ => ?_) (fun _ => ?_)
      · exact (l2Ends_gives hu0 hx (by omega)).bind fun t ht => Gives.ret ⟨ht.1, ht.2.1, ht.2.2.1, ht.2.2.2, hx, hu1, by show u.2 ≤ _; omega⟩
      · exact (l2Ends_gives hx hu0 (by omega)).bind fun t ht => Gives.ret ⟨ht.1, ht.2.1, ht.2.2.1, ht.2.2.2, hx, hu1, by show u.2 ≤ _; omega⟩
    · refine (imm_gives hb (by omega) (by omega) (by omega)).bind fun u hu => ?_
      obtain ⟨hu0, hu1⟩ := hu
      have hbits : N32 (Go.bits .and .i64 x (Go.bits .xor .i64 4294967295 u.1)) := by
        obtain ⟨m, hm⟩ := Int.eq_ofNat_of_zero_le hx.1
        obtain ⟨s, hs⟩ := Int.eq_ofNat_of_zero_le hu0.1
        have hx2 := hx.2
        have hu2 := hu0.2
        rw [hm] at hx2
        rw [hs] at hu2
        have m32 : m < 2 ^ 32 := by omega
        have s32 : s < 2 ^ 32 := by omega
        rw [hm, hs, show (4294967295 : Int) = ((4294967295 : Nat) : Int) from rfl, bxor (by decide) (i32 s32), band (i32 m32) (flip63 (i32 s32)), flip_and m32]
        have := Nat.lt_of_le_of_lt (andn_le m s) m32
        unfold N32
        omega
      exact (l2Tidy_gives zero32 top32 hbits hu0 (by omega)).bind fun t ht => Gives.ret ⟨ht.1, ht.2.1, ht.2.2.1, ht.2.2.2, hx, by show 0 ≤ u.2; omega, by show u.2 ≤ _; omega⟩
    · exact Gives.ret ⟨h0, h1, h2, h3, hx, by show 0 ≤ v.2; omega, by show v.2 ≤ _; omega⟩
  | succ d ih =>
    intro k x n p r0 r1 r2 r3 hx hn hp0 hp1 h0 h1 h2 h3 hk hd
    obtain ⟨k, rfl⟩ : ∃ m, k = m + 1 := ⟨k - 1, by omega⟩
    simp only [spec_l20Range.l0]
    rw [if_pos (by omega)]
    refine (number_gives hb hp0 (by omega) (by omega)).bind fun u hu => ?_
    obtain ⟨hu0, hu1, hu2⟩ := hu
    unfold spec_l2One.f
    try simp only [Option.bind_some]
    refine (l2Join_gives h0 h1 h2 h3 hu0 hu0 hu0 zero32 (by omega)).bind fun t ht => ?_
    rw [wrap64_id (n := n - 1) (by omega) (by omega)]
    refine (ih k x (n - 1) u.2 t.1 t.2.1 t.2.2.1 t.2.2.2 hx (by omega) hu1 (by omega) ht.1 ht.2.1 ht.2.2.1 ht.2.2.2 (by omega) (by omega)).mono fun v hv => ?_
    obtain ⟨q1, q2, q3, q4, q5, q6, q7⟩ := hv
    exact ⟨q1, q2, q3, q4, q5, q6, by omega⟩
theorem range_gives {k : Nat} {b : List Int} (hb : Bytes b) {p : Int} (h0 : 0 ≤ p) (h1 : p ≤ 8000) (hk : 90 < k) : Gives (spec_l20Range.f k b p) (Drawn6 p 17) := by
  unfold spec_l20Range.f spec_l2One.f
  refine (number_gives hb h0 (by omega) (by omega)).bind fun u hu => ?_
  obtain ⟨hu0, hu1, hu2⟩ := hu
  try simp only [Option.bind_some]
  refine (pick_gives hb hu1 (by omega) (by decide) (by omega)).bind fun v hv => ?_
  obtain ⟨hv0, hv1, hv2⟩ := hv
  obtain ⟨d, hd⟩ := Int.eq_ofNat_of_zero_le hv0
  refine (range_loop hb d k u.1 v.1 v.2 u.1 u.1 u.1 0 hu0 hd (by omega) (by omega) hu0 hu0 hu0 zero32 (by omega) (by omega)).mono fun w hw => ?_
  obtain ⟨q1, q2, q3, q4, q5, q6, q7⟩ := hw
  exact ⟨q1, q2, q3, q4, q5, q6, by omega⟩
theorem anyRange_gives {k : Nat} {b : List Int} (hb : Bytes b) {p : Int} (h0 : 0 ≤ p) (h1 : p ≤ 7000) (hk : 90 < k) : Gives (spec_l20AnyRange.f k b p) (Drawn5 p 30) := by
  unfold spec_l20AnyRange.f
  refine (range_gives hb h0 (by omega) hk).bind fun u hu => ?_
  obtain ⟨q1, q2, q3, q4, q5, q6, q7⟩ := hu
  refine (pick_gives hb q6 (by omega) (by decide) (by omega)).bind fun v hv => ?_
  obtain ⟨hv0, hv1, hv2⟩ := hv
  have hn := number_gives (k := k) hb (p := v.2) (by omega) (by omega) (by omega)
  refine Gives.ite (fun _ => ?_) (fun _ => Gives.ite (fun _ => ?_) (fun _ => Gives.ite (fun _ => ?_) (fun _ => Gives.ite (fun _ => ?_) (fun _ => ?_))))
  · exact hn.bind fun t ht => Gives.ret ⟨ht.1, q2, q3, q4, ht.2.1, by have := ht.2.2; show t.2 ≤ _; omega⟩
  · exact hn.bind fun t ht => Gives.ret ⟨q1, ht.1, q3, q4, ht.2.1, by have := ht.2.2; show t.2 ≤ _; omega⟩
  · exact hn.bind fun t ht => Gives.ret ⟨q1, q2, ht.1, q4, ht.2.1, by have := ht.2.2; show t.2 ≤ _; omega⟩
  · exact hn.bind fun t ht => Gives.ret ⟨q1, q2, q3, ht.1, ht.2.1, by have := ht.2.2; show t.2 ≤ _; omega⟩
  · exact Gives.ret ⟨q1, q2, q3, q4, by show 0 ≤ v.2; omega, by show v.2 ≤ _; omega⟩
theorem some_toR (a b c d : Int) : someR a b c d = (toR a b c d).filter (fun r => r.least.isSome) := by
  unfold someR
  cases toR a b c d with
  | none => rfl
  | some r => rw [Option.filter_some]
/-- An answer read again. -/
theorem toR_ans4 {o : Option R} (h : ∀ r, o = some r → r.ok) : toR (ans4 o).1 (ans4 o).2.1 (ans4 o).2.2.1 (ans4 o).2.2.2 = o := by
  cases o with
  | none => rfl
  | some r => exact toR_ok (h r rfl)
theorem someR_ans4 {o : Option R} (h : ∀ r, o = some r → r.ok ∧ r.least.isSome = true) : someR (ans4 o).1 (ans4 o).2.1 (ans4 o).2.2.1 (ans4 o).2.2.2 = o := by
  rw [some_toR, toR_ans4 (fun r e => (h r e).1)]
  cases o with
  | none => rfl
  | some r => rw [Option.filter_some, if_pos (h r rfl).2]
theorem two_gives {k : Nat} {b : List Int} (hb : Bytes b) {p : Int} (h0 : 0 ≤ p) (h1 : p ≤ 4000) (hk : 90 < k) : Gives (spec_l20Two.f k b p) (fun _ => True) := by
  unfold spec_l20Two.f
  refine (range_gives hb h0 (by omega) hk).bind fun r hr => ?_
  obtain ⟨a1, a2, a3, a4, _, q6, q7⟩ := hr
  refine (range_gives hb q6 (by omega) hk).bind fun s hs => ?_
  obtain ⟨b1, b2, b3, b4, _, r6, r7⟩ := hs
  refine (pick_gives hb r6 (by omega) (by decide) (by omega)).bind fun v hv => ?_
  refine Gives.ite (fun _ => ?_) (fun _ => ?_)
  · exact (anyRange_gives hb (by have := hv; omega) (by omega) hk).bind fun s hs => Gives.ret trivial
  refine (pick_gives hb (by have := hv; omega) (by omega) (by decide) (by omega)).bind fun v hv => ?_
  refine Gives.ite (fun _ => ?_) (fun _ => Gives.ret trivial)
  exact (l2Join_gives a1 a2 a3 a4 b1 b2 b3 b4 (by omega)).bind fun s hs => Gives.ret trivial
theorem meetA_parts (o : Option R) : meetA o = ((ans4 o).1, (ans4 o).2.1, (ans4 o).2.2.1, (ans4 o).2.2.2, o.isSome) := by cases o <;> rfl
theorem implMeet_sem (a b c d e f g h : Int) {k : Nat} (hk : 72 < k) : impl_RangeMeet.f k a b c d e f g h = some ((ans4 (meetB (toR a b c d) (toR e f g h))).1, (ans4 (meetB (toR a b c d) (toR e f g h))).2.1, (ans4 (meetB (toR a b c d) (toR e f g h))).2.2.1, (ans4 (meetB (toR a b c d) (toR e f g h))).2.2.2, (meetB (toR a b c d) (toR e f g h)).isSome) := by
  rw [rangeMeet_eq _ _ _ _ _ _ _ _ hk, meetA_parts]
theorem specMeet_sem (a b c d e f g h : Int) {k : Nat} (hk : 145 < k) : spec_RangeMeet.f k a b c d e f g h = some ((ans4 (meetB (toR a b c d) (toR e f g h))).1, (ans4 (meetB (toR a b c d) (toR e f g h))).2.1, (ans4 (meetB (toR a b c d) (toR e f g h))).2.2.1, (ans4 (meetB (toR a b c d) (toR e f g h))).2.2.2, (meetB (toR a b c d) (toR e f g h)).isSome) := by
  rw [specMeet_eq _ _ _ _ _ _ _ _ hk, meetA_parts]
/-- The meet of two ranges: what it is, if it is. -/
theorem meetR_some {x y z : R} (hx : x.ok) (hy : y.ok) (h : meetR x y = some z) : ¬ x.clash y ∧ z = (x.meet y).tidy ∧ (x.meet y).ok ∧ ∃ w, (x.meet y).has w := by
  unfold meetR at h
  by_cases hc : x.clash y
  · rw [if_pos hc] at h; cases h
  rw [if_neg hc] at h
  by_cases c : (x.meet y).lo ≤ (x.meet y).hi
  · rw [if_pos c] at h
    have ok := (meet_ok hx hy).2 c
    by_cases c2 : (x.meet y).least.isSome = true
    · rw [if_pos c2] at h
      cases h
      exact ⟨hc, rfl, ok, (has_least ok).1 c2⟩
    · rw [if_neg c2] at h; cases h
  · rw [if_neg c] at h; cases h
theorem meetB_ok {o p : Option R} (ho : ∀ r, o = some r → r.ok) (hp : ∀ r, p = some r → r.ok) : ∀ z, meetB o p = some z → z.ok ∧ z.least.isSome = true := by
  intro z h
  cases o with
  | none => cases h
  | some x =>
    cases p with
    | none => cases h
    | some y =>
      obtain ⟨_, rfl, ok, w, hw⟩ := meetR_some (ho x rfl) (hp y rfl) h
      exact ⟨R.tidy_ok ok hw, (has_least (R.tidy_ok ok hw)).2 ⟨w, (R.tidy_has hw w).2 hw⟩⟩
theorem drawMeet_gives {k : Nat} {l : List Int} (hl : ∀ x ∈ l, (Lit.int .u8 x).wf = true) (hk : 90 < k) : Gives (spec_DrawRangeMeet.f k l) (fun _ => True) := by
  unfold spec_DrawRangeMeet.f
  refine (open_gives hl).bind fun b hb => ?_
  exact (two_gives hb.1 (by have := hb.2; omega) (by have := hb.2; omega) hk).bind fun r hr => Gives.ret trivial

theorem FnMeetIn : laws_FnMeetIn.Pure := by
  intro l _ _ hl
  refine ⟨300, ?_⟩
  unfold laws_FnMeetIn.f
  split
  · rfl
  obtain ⟨v, hv, _⟩ := drawMeet_gives (k := 300) hl (by decide)
  obtain ⟨a, b, c, d, e, f, g, h⟩ := v
  rw [hv]
  simp only [Option.bind_some, implMeet_sem _ _ _ _ _ _ _ _ (show 72 < 300 by decide), specMeet_sem _ _ _ _ _ _ _ _ (show 145 < 300 by decide), beq_self_eq_true, Bool.not_true, Bool.or_self, Bool.false_eq_true, if_false, bne_self_eq_false]
  have ho : ∀ r, toR a b c d = some r → r.ok := fun r hr => (toR_some hr).1
  have hp : ∀ r, toR e f g h = some r → r.ok := fun r hr => (toR_some hr).1
  rw [laws_FnMeetIn.j0]
  cases hm : meetB (toR a b c d) (toR e f g h) with
  | none => simp only [Option.isSome_none, Bool.not_false, if_true, beq_self_eq_true, Bool.and_self]
  | some m =>
    have hM := meetB_ok ho hp
    rw [hm] at hM
    simp only [Option.isSome_some, Bool.not_true, Bool.false_eq_true, if_false, implIn_eq _ _ _ _ _ _ _ _ (show 66 < 299 by decide), Option.bind_some, someR_ans4 hM]
    cases h1 : toR a b c d with
    | none => rw [h1] at hm; cases hm
    | some x =>
      cases h2 : toR e f g h with
      | none => rw [h1, h2] at hm; cases hm
      | some y =>
        rw [h1, h2] at hm
        have ox := ho x h1
        have oy := hp y h2
        obtain ⟨hc, rfl, ok, w, hw⟩ := meetR_some ox oy hm
        have hxy := (meet_has ox oy hc w).1 hw
        have s1 : someR a b c d = some x := by rw [some_toR, h1, Option.filter_some, if_pos ((has_least ox).2 ⟨w, hxy.1⟩)]
        have s2 : someR e f g h = some y := by rw [some_toR, h2, Option.filter_some, if_pos ((has_least oy).2 ⟨w, hxy.2⟩)]
        have e1 : inB (some (x.meet y).tidy) (some x) = true := decide_eq_true (meet_within ox oy hc hw)
        have e2 : inB (some (x.meet y).tidy) (some y) = true := by
          rw [meet_comm] at hw ⊢
          exact decide_eq_true (meet_within oy ox (fun z => hc ((clash_comm y x).1 z)) hw)
        rw [s1, s2, e1, e2]; rfl

end Go.Proofs.Ytcobkligpdaanaa.Pure
