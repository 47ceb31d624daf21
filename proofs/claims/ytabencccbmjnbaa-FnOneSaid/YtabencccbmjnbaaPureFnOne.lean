/- The law FnOne, as a statement about numbers and lists alone: the range of one number has it and no other, whatever bytes are drawn from. It holds at every input. -/
import Derived.Test.YtabencccbmjnbaaQ25
import Derived.Test.YtabencccbmjnbaaMath
namespace Go.Proofs.Ytabencccbmjnbaa.Pure
open Go Go.RowKit Go.Proofs.Ytabencccbmjnbaa.Q Go.Proofs.YtabencccbmjnbaaW.PrintWords Go.Proofs.YtabencccbmjnbaaW.PrintLast Go.Proofs.YtabencccbmjnbaaW.PrintMore Rg

theorem l1In_eq (a b c : Int) : spec_l1In.f a b c = some (decide (b ≤ a ∧ a ≤ c)) := by
  unfold spec_l1In.f
  by_cases h : a ≥ b
  · rw [if_pos h]; simp [show b ≤ a from h]
  · rw [if_neg h]; simp [show ¬ b ≤ a from h]
theorem within_eq (a b c : Int) : impl_within.f a b c = some (decide (b ≤ a ∧ a ≤ c)) := by
  unfold impl_within.f
  by_cases h : a ≥ b
  · rw [if_pos h]; simp [show b ≤ a from h]
  · rw [if_neg h]; simp [show ¬ b ≤ a from h]
theorem numOk_eq (a : Int) : impl_numOk.f a = some (decide (0 ≤ a ∧ a ≤ 4294967295)) := by
  unfold impl_numOk.f
  rw [within_eq]; rfl
theorem implOk_eq (a b c d : Int) : impl_RangeOk.f a b c d = some (decide (okI a b c d)) := by
  unfold impl_RangeOk.f
  simp only [numOk_eq, within_eq, Option.bind_some, decide_eq_true_eq]
  by_cases h : okI a b c d
  · have h' := h
    obtain ⟨h1, h2, h3, h4, h5, h6, h7, h8⟩ := h'
    rw [if_pos ⟨h1, by omega⟩, if_pos ⟨h2, h3⟩, if_pos ⟨h4, h5⟩, if_pos ⟨h6, h7⟩, and_zero_i h4 h5 h6 h7, decide_eq_true h8, decide_eq_true h]
  · rw [decide_eq_false h]
    by_cases c1 : 0 ≤ a ∧ a ≤ 4294967295
    · rw [if_pos c1]
      by_cases c2 : a ≤ b ∧ b ≤ 4294967295
      · rw [if_pos c2]
        by_cases c3 : 0 ≤ c ∧ c ≤ 4294967295
        · rw [if_pos c3]
          by_cases c4 : 0 ≤ d ∧ d ≤ 4294967295
          · rw [if_pos c4, and_zero_i c3.1 c3.2 c4.1 c4.2]
            rw [decide_eq_false]
            intro e
            exact h ⟨c1.1, c2.1, c2.2, c3.1, c3.2, c4.1, c4.2, e⟩
          · rw [if_neg c4]
        · rw [if_neg c3]
      · rw [if_neg c2]
    · rw [if_neg c1]
theorem has_iff {r : R} {m : Nat} : r.has m ↔ ((r.lo : Int) ≤ m ∧ (m : Int) ≤ r.hi) ∧ andn m r.op = r.bt := by
  unfold R.has
  constructor
  · rintro ⟨h1, h2, h3⟩; exact ⟨⟨by omega, by omega⟩, h3⟩
  · rintro ⟨⟨h1, h2⟩, h3⟩; exact ⟨by omega, by omega, h3⟩
theorem implHas_eq {r : R} (h : r.ok) (m : Nat) : impl_Range_has.f r.lo r.hi r.bt r.op m = some (decide (r.has m)) := by
  unfold impl_Range_has.f
  simp only [within_eq, Option.bind_some, decide_eq_true_eq]
  obtain ⟨h1, h2, h3, h4, h5⟩ := h
  by_cases c : (r.lo : Int) ≤ m ∧ (m : Int) ≤ r.hi
  · rw [if_pos c, bandn (by omega) (by omega)]
    by_cases e : andn m r.op = r.bt
    · rw [e, decide_eq_true (has_iff.2 ⟨c, e⟩)]; simp
    · have : ¬ r.has m := fun x => e (has_iff.1 x).2
      rw [decide_eq_false this]; simp; omega
  · have : ¬ r.has m := fun x => c (has_iff.1 x).1
    rw [if_neg c, decide_eq_false this]
theorem above_from {r : R} (h : r.ok) (d : Nat) : ∀ (k i : Nat), i + d = 32 → 2 * d < k →
    impl_Range_above.l0 k i r.lo r.hi r.bt r.op = some (num ((firstFrom (cand r.bt r.op r.lo) d i).map (val r.bt r.lo))) := by
  obtain ⟨h1, h2, h3, h4, h5⟩ := h
  induction d with
  | zero =>
    intro k i hi hk
    obtain ⟨k, rfl⟩ : ∃ m, k = m + 1 := ⟨k - 1, by omega⟩
    simp only [impl_Range_above.l0]
    rw [if_neg (by omega)]; rfl
  | succ d ih =>
    intro k i hi hk
    obtain ⟨k, rfl⟩ : ∃ m, k = m + 1 := ⟨k - 1, by omega⟩
    have q1 : (i : Int) < 32 := by omega
    have q2 : (0 : Int) ≤ (i : Int) := by omega
    have q3 : i + 1 ≤ 62 := by omega
    have q4 : i ≤ 62 := by omega
    have q5 : i ≤ 64 := by omega
    have q6 : i < 4611686018427387904 := by omega
    have nxt' : impl_Range_above.l0 (k - 1) ((i + 1 : Nat) : Int) r.lo r.hi r.bt r.op = _ := ih (k - 1) (i + 1) (by omega) (by omega)
    have e2 : shl .i64 2 (i : Int) = ((2 ^ (i + 1) : Nat) : Int) := by
      have hp : 2 ^ i ≤ 2 ^ 32 := Nat.pow_le_pow_right (by decide) (by omega)
      have := shl_nat (a := 2) (k := i) q4 (Nat.lt_of_le_of_lt (Nat.mul_le_mul_left 2 hp) (by decide))
      rw [Nat.pow_succ, Nat.mul_comm]; exact this
    have hk1 : k = k - 1 + 1 := by omega
    clear ih hk hi
    rw [hk1]
    generalize k - 1 = k' at nxt'
    have o32 := Nat.or_lt_two_pow h3 h4
    simp only [impl_Range_above.l0, impl_Range_above.j1]
    rw [if_pos q1, if_pos q2, w_succ q6, nxt', bit_nat (i32 (Nat.lt_of_le_of_lt h1 h2)) q5, bor (i32 h3) (i32 h4), bit_nat (i32 o32) q5, e2, w_pow q3, shl_one q4, w_pow q4]
    rw [band_not (i32 (Nat.lt_of_le_of_lt h1 h2)) (mask_lt q3), band_not (i32 h3) (mask_lt q3), andn_mask, andn_mask, bandn (i32 (cut32 (Nat.lt_of_le_of_lt h1 h2))) (i32 h4), band (i32 h3) (mask_lt q4), and_mask, bor (i32 (cut32 (Nat.lt_of_le_of_lt h1 h2))) (Nat.lt_of_le_of_lt (Nat.pow_le_pow_right (by decide) q4) (by decide)), bor (Nat.or_lt_two_pow (i32 (cut32 (Nat.lt_of_le_of_lt h1 h2))) (Nat.lt_of_le_of_lt (Nat.pow_le_pow_right (by decide) q4) (by decide))) (i32 (Nat.lt_of_le_of_lt (Nat.mod_le _ _) h3))]
    simp only [firstFrom]
    have split : cand r.bt r.op r.lo i = (!r.lo.testBit i && (r.bt ||| r.op).testBit i && decide (andn (r.lo / 2 ^ (i + 1) * 2 ^ (i + 1)) r.op = r.bt / 2 ^ (i + 1) * 2 ^ (i + 1))) := rfl
    by_cases c1 : r.lo.testBit i = true
    · rw [if_pos c1, if_pos rfl, if_pos trivial, split, c1]; rfl
    · rw [if_neg c1, if_neg (by decide)]
      by_cases c2 : (r.bt ||| r.op).testBit i = true
      · rw [if_pos c2, if_neg (by decide)]
        by_cases c3 : andn (r.lo / 2 ^ (i + 1) * 2 ^ (i + 1)) r.op = r.bt / 2 ^ (i + 1) * 2 ^ (i + 1)
        · have : cand r.bt r.op r.lo i = true := by rw [split, c2, decide_eq_true c3]; simpa using c1
          rw [c3, if_neg (by simp), if_pos q2, if_pos this]; rfl
        · have : ¬ cand r.bt r.op r.lo i = true := by rw [split, decide_eq_false c3]; simp
          rw [if_pos (bne_iff_ne.2 fun e => c3 (Int.ofNat_inj.1 e)), if_neg this]
      · rw [if_neg c2, if_pos rfl, if_pos trivial]
        have : ¬ cand r.bt r.op r.lo i = true := by rw [split]; simp [c2]
        rw [if_neg this]
theorem above_eq {r : R} (h : r.ok) {k : Nat} (hk : 64 < k) : impl_Range_above.f k r.lo r.hi r.bt r.op = some (num (above r.bt r.op r.lo)) := above_from h 32 k 0 (by omega) (by omega)
theorem least_eq {r : R} (h : r.ok) {k : Nat} (hk : 65 < k) : impl_Range_least.f k r.lo r.hi r.bt r.op = some (num r.least) := by
  obtain ⟨k, rfl⟩ : ∃ m, k = m + 1 := ⟨k - 1, by omega⟩
  unfold impl_Range_least.f
  have hlo := R.lo_lt h
  have ho := h.2.2.2.1
  rw [bandn (i32 hlo) (i32 ho), above_eq h (by omega)]
  simp only [Option.bind_some, impl_Range_least.j0]
  have key : ∀ y : Nat, andn y r.op = r.bt → r.lo ≤ y → (r.has y ↔ y ≤ r.hi) := fun y hb hl => ⟨fun x => x.2.1, fun x => ⟨hl, x, hb⟩⟩
  by_cases c : andn r.lo r.op = r.bt
  · rw [if_pos (by rw [c]), if_neg (by omega), implHas_eq h]
    simp only [Option.bind_some, decide_eq_true_eq]
    have e : nxt r.bt r.op r.lo = some r.lo := by unfold nxt; rw [if_pos c]
    unfold R.least
    rw [e]
    simp only
    rw [if_pos ((key _ c (Nat.le_refl _)).2 h.1), if_pos h.1]; rfl
  · rw [if_neg (fun e => c (Int.ofNat_inj.1 e))]
    have e : nxt r.bt r.op r.lo = above r.bt r.op r.lo := by unfold nxt; rw [if_neg c]
    unfold R.least
    rw [e]
    cases ha : above r.bt r.op r.lo with
    | none => rfl
    | some y =>
      obtain ⟨h1, h2, h3, _⟩ := above_some h.2.2.2.2 hlo ha
      show (if (y : Int) < 0 then _ else _) = _
      rw [if_neg (by omega)]
      show ((impl_Range_has.f r.lo r.hi r.bt r.op (y : Int)).bind fun t => _) = _
      rw [implHas_eq h]
      simp only [Option.bind_some, decide_eq_true_eq, key y h2 (by omega)]
      by_cases c2 : y ≤ r.hi
      · rw [if_pos c2, if_pos c2]
      · rw [if_neg c2, if_neg c2]; rfl
theorem some_bad {a b c d : Int} (h : ¬ okI a b c d) (k : Nat) : impl_Range_some.f k a b c d = some false := by
  unfold impl_Range_some.f
  rw [implOk_eq, decide_eq_false h]; rfl
theorem some_eq {r : R} (h : r.ok) {k : Nat} (hk : 66 < k) : impl_Range_some.f k r.lo r.hi r.bt r.op = some r.least.isSome := by
  unfold impl_Range_some.f
  rw [implOk_eq, decide_eq_true (okI_nat.2 h)]
  simp only [Option.bind_some, if_true]
  rw [least_eq h (by omega)]
  cases r.least with
  | none => rfl
  | some y =>
    show some (decide ((y : Int) ≥ 0)) = some true
    rw [decide_eq_true (by omega)]
theorem len_eq {x : Nat} (h : x < 2 ^ 63) : bits_Len.f x = some ((blen x : Nat) : Int) := by
  unfold bits_Len.f
  rw [if_pos (by omega), if_pos (by omega), Int.toNat_natCast]
  unfold Lib.bitLen
  rw [bitLenAux_eq 64 x (by omega)]
theorem implTidy_eq {r : R} (h : R32 r) : impl_Range_tidy.f r.lo r.hi r.bt r.op = some (ans r.tidy) := by
  have h' := h
  obtain ⟨h1, h2, h3, h4⟩ := h'
  have hx := h.xor
  have hb := blen_le hx
  have hp := pow_le_62 (k := blen (r.lo ^^^ r.hi)) (by omega)
  have hp0 := Nat.two_pow_pos (blen (r.lo ^^^ r.hi))
  have hm := ones_lt hx
  have hal : andn r.lo (ones (r.lo ^^^ r.hi)) < 2 ^ 32 := Nat.lt_of_le_of_lt (andn_le _ _) h1
  have hob : r.bt ||| andn r.lo (ones (r.lo ^^^ r.hi)) < 2 ^ 32 := Nat.or_lt_two_pow h3 hal
  have hop : r.op &&& ones (r.lo ^^^ r.hi) < 2 ^ 32 := Nat.lt_of_le_of_lt Nat.and_le_left h4
  have hbt : andn (r.bt ||| andn r.lo (ones (r.lo ^^^ r.hi))) (r.op &&& ones (r.lo ^^^ r.hi)) < 2 ^ 32 := Nat.lt_of_le_of_lt (andn_le _ _) hob
  have ew : IntKind.u64.wrap ((r.lo ^^^ r.hi : Nat) : Int) = ((r.lo ^^^ r.hi : Nat) : Int) := by
    simp only [IntKind.wrap, IntKind.bits, IntKind.signed]
    simp
    omega
  have em : wrap64 (((2 ^ blen (r.lo ^^^ r.hi) : Nat) : Int) - 1) = ((ones (r.lo ^^^ r.hi) : Nat) : Int) := by
    rw [wrap64_id (by omega) (by omega)]; unfold ones; omega
  unfold impl_Range_tidy.f
  rw [bxor (i32 h1) (i32 h2), ew, len_eq (i32 hx)]
  try simp only [Option.bind_some]
  rw [if_pos (by omega), shl_one (by omega), em, bandn (i32 h1) (i32 hm), bor (i32 h3) (i32 hal), band (i32 h4) (i32 hm), bandn (i32 hob) (i32 hop), bor (i32 hbt) (i32 hop), mx_nat, mn_nat]
  rfl
theorem some_any (a b c d : Int) {k : Nat} (hk : 66 < k) : impl_Range_some.f k a b c d = some (someR a b c d).isSome := by
  cases h : toR a b c d with
  | none => rw [some_bad (toR_none h), someR_bad h]; rfl
  | some r =>
    obtain ⟨hr, rfl, rfl, rfl, rfl⟩ := toR_some h
    rw [some_eq hr hk]
    by_cases c : r.least.isSome = true
    · rw [someR_ok hr c, c]; rfl
    · rw [someR_empty hr c]; simpa using c
theorem open_gives {l : List Int} (hl : ∀ x ∈ l, (Lit.int .u8 x).wf = true) : Gives (spec_l20Open.f l) (fun v => Bytes v.1 ∧ v.2 = 0) := by
  unfold spec_l20Open.f
  refine Gives.ite (fun h => ?_) (fun h => ?_)
  · rw [if_pos (by omega)]
    exact Gives.ret ⟨⟨by rw [List.length_take]; omega, fun x hx => u8_wf (hl x (List.mem_of_mem_take hx))⟩, rfl⟩
  · exact Gives.ret ⟨⟨by show l.length ≤ 2000; omega, fun x hx => u8_wf (hl x hx)⟩, rfl⟩
theorem pick_gives {k : Nat} {b : List Int} (hb : Bytes b) {p n : Int} (h0 : 0 ≤ p) (h1 : p ≤ 10000) (hn : 1 ≤ n) (hk : 0 < k) : Gives (spec_l20Rd_pick.f k b p n) (fun v => 0 ≤ v.1 ∧ v.1 < n ∧ v.2 = p + 1) := by
  obtain ⟨k, rfl⟩ : ∃ m, k = m + 1 := ⟨k - 1, by omega⟩
  unfold spec_l20Rd_pick.f
  rw [if_neg (by omega)]
  simp only [spec_l20Rd_pick.j0]
  rw [wrap64_id (n := p + 1) (by omega) (by omega), wrap64_id (n := p + 1 - 1) (by omega) (by omega), show p + 1 - 1 = p by omega]
  obtain ⟨hb1, hb2⟩ := hb
  refine Gives.ite (fun _ => Gives.ret ⟨by omega, by omega, rfl⟩) (fun he => ?_)
  have hl : 1 ≤ (b.length : Int) := by
    rcases b with _ | ⟨x, l⟩
    · simp at he
    · simp; omega
  refine Gives.ite (fun hlt => ?_) (fun _ => ?_)
  · rw [if_pos h0, if_neg (by omega)]
    have hv := hb2 _ (rd_mem h0 hlt)
    rw [wrap64_id (by omega) (by omega)]
    have := tmod_range hv.1 hn
    exact Gives.ret ⟨this.1, this.2, rfl⟩
  · have hq := tmod_range h0 hl
    have hw : 0 ≤ wrap64 (wrap64 (p * 7) + 3) := by rw [wrap64_id (n := p * 7) (by omega) (by omega), wrap64_id (by omega) (by omega)]; omega
    have hr := tmod_range hw hl
    rw [if_neg (by omega), if_pos hq.1, if_pos hq.2, if_pos hr.1, if_pos hr.2, if_neg (by omega)]
    have hv1 := hb2 _ (rd_mem hq.1 hq.2)
    have hv2 := hb2 _ (rd_mem hr.1 hr.2)
    have hd : 0 ≤ Int.tdiv p (b.length : Int) ∧ Int.tdiv p (b.length : Int) ≤ 100000 := by
      refine ⟨Int.tdiv_nonneg h0 (by omega), ?_⟩
      rw [Int.tdiv_eq_ediv_of_nonneg h0]
      have := Int.ediv_le_self (b.length : Int) h0
      omega
    have hm := mix hv1 hv2 ⟨h0, by omega⟩ hd
    have hx := tmod_range (xor_pos hm.1 hm.2) hn
    exact Gives.ret ⟨hx.1, hx.2, rfl⟩
theorem one_gives {k : Nat} {b : List Int} (hb : Bytes b) {p : Int} (h0 : 0 ≤ p) (h1 : p ≤ 10000) {l : List Int} (hl : 1 ≤ (l.length : Int)) (hk : 0 < k) : Gives (spec_l20Rd_one.f k b p l) (fun v => v.1 ∈ l ∧ v.2 = p + 1) := by
  unfold spec_l20Rd_one.f
  refine (pick_gives hb h0 h1 hl hk).bind fun v hv => ?_
  rw [if_pos hv.1, if_pos hv.2.1]
  exact Gives.ret ⟨rd_mem hv.1 hv.2.1, hv.2.2⟩
theorem imm_gives {k : Nat} {b : List Int} (hb : Bytes b) {p : Int} (h0 : 0 ≤ p) (h1 : p ≤ 10000) (hk : 0 < k) : Gives (spec_l20Imm.f k b p) (fun v => N32 v.1 ∧ v.2 = p + 1) := by
  unfold spec_l20Imm.f
  refine (one_gives hb h0 h1 (by decide) hk).bind fun v hv => Gives.ret ⟨?_, hv.2⟩
  have := hv.1
  simp only [List.mem_cons, List.not_mem_nil, or_false] at this
  show N32 v.1
  unfold N32
  omega
theorem number_gives {k : Nat} {b : List Int} (hb : Bytes b) {p : Int} (h0 : 0 ≤ p) (h1 : p ≤ 9990) (hk : 0 < k) : Gives (spec_l20Number.f k b p) (fun v => N32 v.1 ∧ 0 ≤ v.2 ∧ v.2 ≤ p + 3) := by
  unfold spec_l20Number.f
  refine (pick_gives hb h0 (by omega) (by decide) hk).bind fun v hv => ?_
  obtain ⟨_, _, hv⟩ := hv
  refine Gives.ite (fun _ => ?_) (fun _ => Gives.ite (fun _ => ?_) (fun _ => ?_))
  · exact (imm_gives hb (by omega) (by omega) hk).bind fun u hu => Gives.ret ⟨hu.1, by omega, by omega⟩
  · exact (pick_gives hb (by omega) (by omega) (by decide) hk).bind fun u hu => Gives.ret ⟨⟨hu.1, by omega⟩, by omega, by omega⟩
  · refine (pick_gives hb (by omega) (by omega) (by decide) hk).bind fun u hu => ?_
    obtain ⟨hu0, hu1, hu2⟩ := hu
    refine (one_gives hb (by omega) (by omega) (by decide) hk).bind fun s hs => ?_
    obtain ⟨hs1, hs2⟩ := hs
    simp only [List.mem_cons, List.not_mem_nil, or_false] at hs1
    rw [if_pos (by omega)]
    refine Gives.ret ⟨?_, by omega, by omega⟩
    obtain ⟨a, ha⟩ := Int.eq_ofNat_of_zero_le hu0
    show N32 (shl .i64 u.1 s.1)
    rw [ha] at hu1 ⊢
    have ha' : a < 256 := by omega
    unfold N32
    rcases hs1 with h | h | h | h | h <;> rw [h]
    · have := shl_nat (a := a) (k := 0) (by decide) (by omega); rw [show (0 : Int) = ((0 : Nat) : Int) from rfl, this]; omega
    · have := shl_nat (a := a) (k := 4) (by decide) (by omega); rw [show (4 : Int) = ((4 : Nat) : Int) from rfl, this]; omega
    · have := shl_nat (a := a) (k := 8) (by decide) (by omega); rw [show (8 : Int) = ((8 : Nat) : Int) from rfl, this]; omega
    · have := shl_nat (a := a) (k := 16) (by decide) (by omega); rw [show (16 : Int) = ((16 : Nat) : Int) from rfl, this]; omega
    · have := shl_nat (a := a) (k := 24) (by decide) (by omega); rw [show (24 : Int) = ((24 : Nat) : Int) from rfl, this]; omega
/-- Whether a number is of the range that came in. -/
def hasO (o : Option R) (n : Int) : Bool := match o with
  | some r => decide (0 ≤ n ∧ r.has n.toNat)
  | none => false
/-- The least number of the range that came in. -/
def leastO (o : Option R) : Int := match o with
  | some r => num r.least
  | none => -1
/-- The range of one number. -/
def oneO (n : Int) : Option R := if 0 ≤ n ∧ n ≤ 4294967295 then some (R.one n.toNat) else none
theorem ok_dec (a b c d : Int) : decide (okI a b c d) = (toR a b c d).isSome := by
  rw [Bool.eq_iff_iff, decide_eq_true_eq]; exact okI_toR
theorem some_toR (a b c d : Int) : someR a b c d = (toR a b c d).filter (fun r => r.least.isSome) := by
  unfold someR
  cases toR a b c d with
  | none => rfl
  | some r => rw [Option.filter_some]
/-- An answer read again. -/
theorem toR_ans4 {o : Option R} (h : ∀ r, o = some r → r.ok) : toR (ans4 o).1 (ans4 o).2.1 (ans4 o).2.2.1 (ans4 o).2.2.2 = o := by
  cases o with
  | none => rfl
  | some r => exact toR_ok (h r rfl)
theorem hasO_nat {r : R} {y : Nat} (h : r.has y) : hasO (some r) y = true := by
  show decide (0 ≤ (y : Int) ∧ r.has (y : Int).toNat) = true
  rw [decide_eq_true_eq]
  exact ⟨by omega, by simpa using h⟩
theorem implOk_sem (a b c d : Int) : impl_RangeOk.f a b c d = some (toR a b c d).isSome := by rw [implOk_eq, ok_dec]
theorem implHas_sem (a b c d n : Int) : impl_RangeHas.f a b c d n = some (hasO (toR a b c d) n) := by
  unfold impl_RangeHas.f
  simp only [implOk_eq, Option.bind_some, decide_eq_true_eq]
  cases h : toR a b c d with
  | none => rw [if_neg (toR_none h)]; rfl
  | some r =>
    obtain ⟨hr, rfl, rfl, rfl, rfl⟩ := toR_some h
    rw [if_pos (okI_nat.2 hr)]
    have hi := hr.2.1
    show _ = some (decide (0 ≤ n ∧ r.has n.toNat))
    by_cases c0 : 0 ≤ n
    · obtain ⟨m, rfl⟩ := Int.eq_ofNat_of_zero_le c0
      rw [implHas_eq hr]; simp
    · unfold impl_Range_has.f
      rw [within_eq]
      simp only [Option.bind_some, decide_eq_true_eq]
      rw [if_neg (by omega), decide_eq_false (fun x => c0 x.1)]; rfl
theorem implLeast_sem (a b c d : Int) {k : Nat} (hk : 65 < k) : impl_RangeLeast.f k a b c d = some (leastO (toR a b c d)) := by
  unfold impl_RangeLeast.f
  simp only [implOk_eq, Option.bind_some, decide_eq_true_eq]
  cases h : toR a b c d with
  | none => rw [if_neg (toR_none h)]; rfl
  | some r =>
    obtain ⟨hr, rfl, rfl, rfl, rfl⟩ := toR_some h
    rw [if_pos (okI_nat.2 hr), least_eq hr hk]; rfl
/-- The range tidied. -/
def tidyO (o : Option R) : Option R := o.map R.tidy
theorem implTidy_sem (a b c d : Int) {k : Nat} (hk : 66 < k) : impl_RangeTidy.f k a b c d = some (ans4 (tidyO (someR a b c d))) := by
  unfold impl_RangeTidy.f impl_noRange.f
  rw [some_any _ _ _ _ hk]
  cases h : someR a b c d with
  | none => rfl
  | some r =>
    obtain ⟨⟨hr, rfl, rfl, rfl, rfl⟩, _⟩ := someR_some h
    simp only [Option.bind_some, Option.isSome_some, if_true]
    rw [implTidy_eq (ok32 hr)]; rfl
theorem implOne_sem (n : Int) : impl_RangeOne.f n = some (ans4 (oneO n)) := by
  unfold impl_RangeOne.f impl_noRange.f oneO
  simp only [numOk_eq, Option.bind_some, decide_eq_true_eq]
  by_cases h : 0 ≤ n ∧ n ≤ 4294967295
  · rw [if_pos h, if_pos h]
    obtain ⟨m, rfl⟩ := Int.eq_ofNat_of_zero_le h.1
    simp [ans4, ans, R.one]
  · rw [if_neg h, if_neg h]; rfl
theorem specOne_sem (n : Int) : spec_RangeOne.f n = some (ans4 (oneO n)) := by
  unfold spec_RangeOne.f spec_l2One.f oneO
  simp only [l1In_eq, Option.bind_some, decide_eq_true_eq]
  by_cases h : 0 ≤ n ∧ n ≤ 4294967295
  · rw [if_pos h, if_pos h]
    obtain ⟨m, rfl⟩ := Int.eq_ofNat_of_zero_le h.1
    simp [ans4, ans, R.one]
  · rw [if_neg h, if_neg h]; rfl

theorem drawOne_gives {k : Nat} {l : List Int} (hl : ∀ x ∈ l, (Lit.int .u8 x).wf = true) (hk : 90 < k) : Gives (spec_DrawRangeOne.f k l) (fun _ => True) := by
  unfold spec_DrawRangeOne.f
  refine (open_gives hl).bind fun b hb => ?_
  obtain ⟨hb, h0⟩ := hb
  refine (number_gives hb (by omega) (by omega) (by omega)).bind fun u hu => ?_
  refine (number_gives hb (by have := hu.2; omega) (by have := hu.2; omega) (by omega)).bind fun t ht => ?_
  exact (one_gives hb (by have := ht.2; omega) (by have := ht.2; have := hu.2; omega) (by simp) (by omega)).bind fun s hs => Gives.ret trivial
theorem succ_nat {m : Nat} (_ : m < 4294967296) : (m + 1) % 4294967296 ≠ m := by omega
theorem succ_mod {m : Nat} (hm : m < 2 ^ 32) : Int.tmod (wrap64 ((m : Int) + 1)) 4294967296 ≠ (m : Int) := by
  rw [w_succ (by omega), show (4294967296 : Int) = ((4294967296 : Nat) : Int) from rfl, tmod_nat]
  intro h
  exact succ_nat hm (Int.ofNat.inj h)
theorem hasO_one_not {m : Nat} {n : Int} (h : n ≠ m) : hasO (some (R.one m)) n = false := by
  apply decide_eq_false
  rintro ⟨h0, hh⟩
  have := one_has.1 hh
  omega
theorem one_in {m : Nat} (hm : m < 2 ^ 32) : laws_FnOne.j0 300 (m : Int) false (ans4 (some (R.one m))).1 (ans4 (some (R.one m))).2.1 (ans4 (some (R.one m))).2.2.1 (ans4 (some (R.one m))).2.2.2 = some true := by
  have hlm := one_least hm
  have ht : toR (ans4 (some (R.one m))).1 (ans4 (some (R.one m))).2.1 (ans4 (some (R.one m))).2.2.1 (ans4 (some (R.one m))).2.2.2 = some (R.one m) :=
    toR_ans4 (o := some (R.one m)) (fun s hs => by cases hs; exact one_ok hm)
  have hsm : someR (ans4 (some (R.one m))).1 (ans4 (some (R.one m))).2.1 (ans4 (some (R.one m))).2.2.1 (ans4 (some (R.one m))).2.2.2 = some (R.one m) := by
    rw [some_toR, ht, Option.filter_some, hlm]; rfl
  have h1 : hasO (some (R.one m)) (m : Int) = true := hasO_nat (one_has.2 rfl)
  have h2 : hasO (some (R.one m)) (Int.tmod (wrap64 ((m : Int) + 1)) 4294967296) = false := hasO_one_not (succ_mod hm)
  have h3 : leastO (some (R.one m)) = (m : Int) := by show num (R.one m).least = _; rw [hlm]; rfl
  have h4 : tidyO (some (R.one m)) = some (R.one m) := congrArg some (one_tidy m)
  generalize hvv : ans4 (some (R.one m)) = v at *
  rw [laws_FnOne.j0]
  simp only [Bool.false_eq_true, if_false, implOk_sem, implHas_sem, implLeast_sem _ _ _ _ (show 65 < 299 by decide), implTidy_sem _ _ _ _ (show 66 < 299 by decide), ht, hsm, h1, h2, h3, h4, Option.bind_some, Option.isSome_some, if_true, hvv, beq_self_eq_true, Bool.and_self]
theorem one_out {n : Int} (h : ¬ (0 ≤ n ∧ n ≤ 4294967295)) : laws_FnOne.j0 300 n true 1 0 0 0 = some true := by
  have ho : oneO n = none := by unfold oneO; rw [if_neg h]
  rw [laws_FnOne.j0]
  simp only [if_true, specOne_sem, ho, Option.bind_some, implOk_sem]
  have hn : toR 1 0 0 0 = none := rfl
  have he : ((1 : Int) == (ans4 none).1 && ((0 : Int) == (ans4 none).2.1 && ((0 : Int) == (ans4 none).2.2.1 && ((0 : Int) == (ans4 none).2.2.2)))) = true := by decide
  rw [if_pos he, hn]
  by_cases h0 : n ≥ 0
  · rw [if_pos h0, if_neg (fun x => h ⟨h0, x⟩)]; rfl
  · rw [if_neg h0]; rfl
theorem FnOne : laws_FnOne.Pure := by
  intro l _ _ hl
  refine ⟨300, ?_⟩
  unfold laws_FnOne.f
  split
  · rfl
  obtain ⟨n, hv, _⟩ := drawOne_gives (k := 300) hl (by decide)
  rw [hv]
  simp only [Option.bind_some, implOne_sem, specOne_sem, beq_self_eq_true, Bool.not_true, Bool.or_self, Bool.false_eq_true, if_false]
  by_cases h : 0 ≤ n ∧ n ≤ 4294967295
  · have ho : oneO n = some (R.one n.toNat) := by unfold oneO; rw [if_pos h]
    obtain ⟨m, rfl⟩ := Int.eq_ofNat_of_zero_le h.1
    rw [if_neg (by omega), decide_eq_false (by omega), ho]
    exact one_in (by omega)
  · have ho : oneO n = none := by unfold oneO; rw [if_neg h]
    rw [ho]
    by_cases h0 : n < 0
    · rw [if_pos h0]; exact one_out h
    · rw [if_neg h0, decide_eq_true (by omega)]; exact one_out h

end Go.Proofs.Ytabencccbmjnbaa.Pure
