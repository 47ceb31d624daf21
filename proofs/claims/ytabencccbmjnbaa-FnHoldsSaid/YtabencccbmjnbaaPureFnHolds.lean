/- The law FnHolds, as a statement about numbers and lists alone: of the ops that ask just one of less, more and the same holds, whatever bytes are drawn from. It holds at every input. -/
import Derived.Test.YtabencccbmjnbaaQ23
import Derived.Test.YtabencccbmjnbaaMath
namespace Go.Proofs.Ytabencccbmjnbaa.Pure
open Go Go.RowKit Go.Proofs.Ytabencccbmjnbaa.Q Go.Proofs.YtabencccbmjnbaaW.PrintWords Go.Proofs.YtabencccbmjnbaaW.PrintLast Go.Proofs.YtabencccbmjnbaaW.PrintMore Rg

theorem l1In_eq (a b c : Int) : spec_l1In.f a b c = some (decide (b ≤ a ∧ a ≤ c)) := by
  unfold spec_l1In.f
  by_cases h : a ≥ b
  · rw [if_pos h]; simp [show b ≤ a from h]
  · rw [if_neg h]; simp [show ¬ b ≤ a from h]
theorem within_eq (a b c : Int) : impl_within.f a b c = some (decide (b ≤ a ∧ a ≤ c)) := by
  unfold impl_within.f
  by_cases h : a ≥ b
  · rw [if_pos h]; simp [show b ≤ a from h]
  · rw [if_neg h]; simp [show ¬ b ≤ a from h]
theorem numOk_eq (a : Int) : impl_numOk.f a = some (decide (0 ≤ a ∧ a ≤ 4294967295)) := by
  unfold impl_numOk.f
  rw [within_eq]; rfl
theorem open_gives {l : List Int} (hl : ∀ x ∈ l, (Lit.int .u8 x).wf = true) : Gives (spec_l20Open.f l) (fun v => Bytes v.1 ∧ v.2 = 0) := by
  unfold spec_l20Open.f
  refine Gives.ite (fun h => ?_) (fun h => ?_)
  · rw [if_pos (by omega)]
    exact Gives.ret ⟨⟨by rw [List.length_take]; omega, fun x hx => u8_wf (hl x (List.mem_of_mem_take hx))⟩, rfl⟩
  · exact Gives.ret ⟨⟨by show l.length ≤ 2000; omega, fun x hx => u8_wf (hl x hx)⟩, rfl⟩
theorem pick_gives {k : Nat} {b : List Int} (hb : Bytes b) {p n : Int} (h0 : 0 ≤ p) (h1 : p ≤ 10000) (hn : 1 ≤ n) (hk : 0 < k) : Gives (spec_l20Rd_pick.f k b p n) (fun v => 0 ≤ v.1 ∧ v.1 < n ∧ v.2 = p + 1) := by
  obtain ⟨k, rfl⟩ : ∃ m, k = m + 1 := ⟨k - 1, by omega⟩
  unfold spec_l20Rd_pick.f
  rw [if_neg (by omega)]
  simp only [spec_l20Rd_pick.j0]
  rw [wrap64_id (n := p + 1) (by omega) (by omega), wrap64_id (n := p + 1 - 1) (by omega) (by omega), show p + 1 - 1 = p by omega]
  obtain ⟨hb1, hb2⟩ := hb
  refine Gives.ite (fun _ => Gives.ret ⟨by omega, by omega, rfl⟩) (fun he => ?_)
  have hl : 1 ≤ (b.length : Int) := by
    rcases b with _ | ⟨x, l⟩
    · simp at he
    · simp; omega
  refine Gives.ite (fun hlt => ?_) (fun _ => ?_)
  · rw [if_pos h0, if_neg (by omega)]
    have hv := hb2 _ (rd_mem h0 hlt)
    rw [wrap64_id (by omega) (by omega)]
    have := tmod_range hv.1 hn
    exact Gives.ret ⟨this.1, this.2, rfl⟩
  · have hq := tmod_range h0 hl
    have hw : 0 ≤ wrap64 (wrap64 (p * 7) + 3) := by rw [wrap64_id (n := p * 7) (by omega) (by omega), wrap64_id (by omega) (by omega)]; omega
    have hr := tmod_range hw hl
    rw [if_neg (by omega), if_pos hq.1, if_pos hq.2, if_pos hr.1, if_pos hr.2, if_neg (by omega)]
    have hv1 := hb2 _ (rd_mem hq.1 hq.2)
    have hv2 := hb2 _ (rd_mem hr.1 hr.2)
    have hd : 0 ≤ Int.tdiv p (b.length : Int) ∧ Int.tdiv p (b.length : Int) ≤ 100000 := by
      refine ⟨Int.tdiv_nonneg h0 (by omega), ?_⟩
      rw [Int.tdiv_eq_ediv_of_nonneg h0]
      have := Int.ediv_le_self (b.length : Int) h0
      omega
    have hm := mix hv1 hv2 ⟨h0, by omega⟩ hd
    have hx := tmod_range (xor_pos hm.1 hm.2) hn
    exact Gives.ret ⟨hx.1, hx.2, rfl⟩
theorem one_gives {k : Nat} {b : List Int} (hb : Bytes b) {p : Int} (h0 : 0 ≤ p) (h1 : p ≤ 10000) {l : List Int} (hl : 1 ≤ (l.length : Int)) (hk : 0 < k) : Gives (spec_l20Rd_one.f k b p l) (fun v => v.1 ∈ l ∧ v.2 = p + 1) := by
  unfold spec_l20Rd_one.f
  refine (pick_gives hb h0 h1 hl hk).bind fun v hv => ?_
  rw [if_pos hv.1, if_pos hv.2.1]
  exact Gives.ret ⟨rd_mem hv.1 hv.2.1, hv.2.2⟩
theorem imm_gives {k : Nat} {b : List Int} (hb : Bytes b) {p : Int} (h0 : 0 ≤ p) (h1 : p ≤ 10000) (hk : 0 < k) : Gives (spec_l20Imm.f k b p) (fun v => N32 v.1 ∧ v.2 = p + 1) := by
  unfold spec_l20Imm.f
  refine (one_gives hb h0 h1 (by decide) hk).bind fun v hv => Gives.ret ⟨?_, hv.2⟩
  have := hv.1
  simp only [List.mem_cons, List.not_mem_nil, or_false] at this
  show N32 v.1
  unfold N32
  omega
theorem number_gives {k : Nat} {b : List Int} (hb : Bytes b) {p : Int} (h0 : 0 ≤ p) (h1 : p ≤ 9990) (hk : 0 < k) : Gives (spec_l20Number.f k b p) (fun v => N32 v.1 ∧ 0 ≤ v.2 ∧ v.2 ≤ p + 3) := by
  unfold spec_l20Number.f
  refine (pick_gives hb h0 (by omega) (by decide) hk).bind fun v hv => ?_
  obtain ⟨_, _, hv⟩ := hv
  refine Gives.ite (fun _ => ?_) (fun _ => Gives.ite (fun _ => ?_) (fun _ => ?_))
  · exact (imm_gives hb (by omega) (by omega) hk).bind fun u hu => Gives.ret ⟨hu.1, by omega, by omega⟩
  · exact (pick_gives hb (by omega) (by omega) (by decide) hk).bind fun u hu => Gives.ret ⟨⟨hu.1, by omega⟩, by omega, by omega⟩
  · refine (pick_gives hb (by omega) (by omega) (by decide) hk).bind fun u hu => ?_
    obtain ⟨hu0, hu1, hu2⟩ := hu
    refine (one_gives hb (by omega) (by omega) (by decide) hk).bind fun s hs => ?_
    obtain ⟨hs1, hs2⟩ := hs
    simp only [List.mem_cons, List.not_mem_nil, or_false] at hs1
    rw [if_pos (by omega)]
    refine Gives.ret ⟨?_, by omega, by omega⟩
    obtain ⟨a, ha⟩ := Int.eq_ofNat_of_zero_le hu0
    show N32 (shl .i64 u.1 s.1)
    rw [ha] at hu1 ⊢
    have ha' : a < 256 := by omega
    unfold N32
    rcases hs1 with h | h | h | h | h <;> rw [h]
    · have := shl_nat (a := a) (k := 0) (by decide) (by omega); rw [show (0 : Int) = ((0 : Nat) : Int) from rfl, this]; omega
    · have := shl_nat (a := a) (k := 4) (by decide) (by omega); rw [show (4 : Int) = ((4 : Nat) : Int) from rfl, this]; omega
    · have := shl_nat (a := a) (k := 8) (by decide) (by omega); rw [show (8 : Int) = ((8 : Nat) : Int) from rfl, this]; omega
    · have := shl_nat (a := a) (k := 16) (by decide) (by omega); rw [show (16 : Int) = ((16 : Nat) : Int) from rfl, this]; omega
    · have := shl_nat (a := a) (k := 24) (by decide) (by omega); rw [show (24 : Int) = ((24 : Nat) : Int) from rfl, this]; omega

theorem drawHolds_gives {k : Nat} {l : List Int} (hl : ∀ x ∈ l, (Lit.int .u8 x).wf = true) (hk : 90 < k) : Gives (spec_DrawRangeHolds.f k l) (fun _ => True) := by
  unfold spec_DrawRangeHolds.f
  refine (open_gives hl).bind fun b hb => ?_
  obtain ⟨hb, h0⟩ := hb
  refine (number_gives hb (by omega) (by omega) (by omega)).bind fun u hu => ?_
  refine (one_gives hb (by have := hu.2; omega) (by have := hu.2; omega) (by simp) (by omega)).bind fun t ht => ?_
  refine (number_gives hb (by have := ht.2; have := hu.2; omega) (by have := ht.2; have := hu.2; omega) (by omega)).bind fun w hw => ?_
  exact (one_gives hb (by have := hw.2; omega) (by have := ht.2; have := hw.2; have := hu.2; omega) (by simp) (by omega)).bind fun s hs => Gives.ret trivial
/-- Whether an op that asks holds of two numbers. -/
def holdsI (op a b : Int) : Bool := decide ((12 ≤ op ∧ op ≤ 15) ∧ (0 ≤ a ∧ a ≤ 4294967295) ∧ (0 ≤ b ∧ b ≤ 4294967295)) && (if op = 12 then a == b else if op = 13 then a != b else if op = 14 then decide (a < b) else decide (a > b))
theorem implHolds_sem (op a b : Int) : impl_RangeHolds.f op a b = some (holdsI op a b) := by
  unfold impl_RangeHolds.f impl_kind_asks.f holdsI impl_holds.f
  simp only [numOk_eq, within_eq, Option.bind_some, decide_eq_true_eq]
  by_cases h1 : 12 ≤ op ∧ op ≤ 15
  · by_cases h2 : 0 ≤ a ∧ a ≤ 4294967295
    · by_cases h3 : 0 ≤ b ∧ b ≤ 4294967295
      · simp only [h1, h2, h3, if_true, and_self, decide_true, Bool.true_and]
        repeat' split
        all_goals rfl
      · simp only [h1, h2, h3, and_self, if_true, if_false, and_false, decide_false, Bool.false_and]
    · simp only [h1, h2, and_self, if_true, if_false, false_and, and_false, decide_false, Bool.false_and]
  · simp only [h1, if_false, false_and, decide_false, Bool.false_and]
theorem specHolds_sem (op a b : Int) : spec_RangeHolds.f op a b = some (holdsI op a b) := by
  unfold spec_RangeHolds.f spec_l1Jump.f holdsI spec_l2Holds.f
  simp only [l1In_eq, Option.bind_some, decide_eq_true_eq]
  by_cases h1 : 12 ≤ op ∧ op ≤ 15
  · by_cases h2 : 0 ≤ a ∧ a ≤ 4294967295
    · by_cases h3 : 0 ≤ b ∧ b ≤ 4294967295
      · simp only [h1, h2, h3, if_true, and_self, decide_true, Bool.true_and]
        repeat' split
        all_goals rfl
      · simp only [h1, h2, h3, and_self, if_true, if_false, and_false, decide_false, Bool.false_and]
    · simp only [h1, h2, and_self, if_true, if_false, false_and, and_false, decide_false, Bool.false_and]
  · simp only [h1, if_false, false_and, decide_false, Bool.false_and]
theorem holds_out {op a b : Int} (h : ¬ ((0 ≤ a ∧ a ≤ 4294967295) ∧ (0 ≤ b ∧ b ≤ 4294967295))) : holdsI op a b = false := by
  unfold holdsI
  rw [decide_eq_false (fun x => h x.2)]; rfl
theorem holds_in {op a b : Int} (h : (0 ≤ a ∧ a ≤ 4294967295) ∧ (0 ≤ b ∧ b ≤ 4294967295)) (ho : 12 ≤ op ∧ op ≤ 15) : holdsI op a b = (if op = 12 then a == b else if op = 13 then a != b else if op = 14 then decide (a < b) else decide (a > b)) := by
  unfold holdsI
  rw [decide_eq_true ⟨ho, h⟩, Bool.true_and]
theorem wl {n m : Int} (h : n = m) (h0 : -9223372036854775808 ≤ n) (h1 : n ≤ 9223372036854775807) : wrap64 n = m := by rw [wrap64_id h0 h1, h]
theorem w12 : wrap64 (12 + 1) = 13 := wl rfl (by decide) (by decide)
theorem w13 : wrap64 (13 + 1) = 14 := wl rfl (by decide) (by decide)
theorem w14 : wrap64 (14 + 1) = 15 := wl rfl (by decide) (by decide)
theorem w15 : wrap64 (15 + 1) = 16 := wl rfl (by decide) (by decide)
theorem w0 : wrap64 (0 + 1) = 1 := wl rfl (by decide) (by decide)
theorem FnHolds : laws_FnHolds.Pure := by
  intro l _ _ hl
  refine ⟨300, ?_⟩
  unfold laws_FnHolds.f
  split
  · rfl
  obtain ⟨v, hv, _⟩ := drawHolds_gives (k := 300) hl (by decide)
  obtain ⟨op, a, b⟩ := v
  rw [hv]
  simp only [Option.bind_some, implHolds_sem, specHolds_sem, bne_self_eq_false, Bool.false_eq_true, if_false]
  have out : ¬ ((0 ≤ a ∧ a ≤ 4294967295) ∧ (0 ≤ b ∧ b ≤ 4294967295)) → laws_FnHolds.j0 300 a b (holdsI op a b) true = some true := by
    intro h
    rw [laws_FnHolds.j0, holds_out h]; rfl
  by_cases c1 : a < 0
  · rw [if_pos c1]; exact out (by omega)
  rw [if_neg c1]
  by_cases c2 : b < 0
  · rw [if_pos c2]; exact out (by omega)
  rw [if_neg c2]
  by_cases c3 : a > 4294967295
  · rw [if_pos c3]; exact out (by omega)
  rw [if_neg c3]
  by_cases c4 : b > 4294967295
  · rw [decide_eq_true c4]; exact out (by omega)
  rw [decide_eq_false c4]
  have hi : (0 ≤ a ∧ a ≤ 4294967295) ∧ (0 ≤ b ∧ b ≤ 4294967295) := by omega
  have hj : (0 ≤ b ∧ b ≤ 4294967295) ∧ (0 ≤ a ∧ a ≤ 4294967295) := by omega
  have e12 : holdsI 12 a b = (a == b) := by rw [holds_in hi (by decide)]; rfl
  have e13 : holdsI 13 a b = (a != b) := by rw [holds_in hi (by decide)]; rfl
  have e14 : holdsI 14 a b = decide (a < b) := by rw [holds_in hi (by decide)]; rfl
  have e15 : holdsI 15 a b = decide (a > b) := by rw [holds_in hi (by decide)]; rfl
  have f15 : holdsI 15 b a = decide (b > a) := by rw [holds_in hj (by decide)]; rfl
  rw [laws_FnHolds.j0]
  simp only [Bool.false_eq_true, if_false]
  rw [laws_FnHolds.l0]
  simp only [implHolds_sem, Option.bind_some, e12, f15, e13, e14, show ((12 : Int) ≤ 15) = True from by simp, show ((12 : Int) = 13) = False from by simp, if_true, if_false, w12, w0]
  have l13 : ∀ n : Int, laws_FnHolds.l0 298 a b n 13 = laws_FnHolds.l0 297 a b n 14 := by intro n; rw [laws_FnHolds.l0, if_pos (by decide), if_pos rfl, w13]
  have l14 : ∀ n : Int, laws_FnHolds.l0 297 a b n 14 = if a < b then laws_FnHolds.l0 296 a b (wrap64 (n + 1)) 15 else laws_FnHolds.l0 296 a b n 15 := by
    intro n
    rw [laws_FnHolds.l0]
    rw [if_pos (by decide), if_neg (by decide), w14]
    simp only [implHolds_sem, Option.bind_some, e14, decide_eq_true_eq]
  have l15 : ∀ n : Int, laws_FnHolds.l0 296 a b n 15 = if a > b then laws_FnHolds.l0 295 a b (wrap64 (n + 1)) 16 else laws_FnHolds.l0 295 a b n 16 := by
    intro n
    rw [laws_FnHolds.l0]
    rw [if_pos (by decide), if_neg (by decide), w15]
    simp only [implHolds_sem, Option.bind_some, e15, decide_eq_true_eq]
  have l16 : laws_FnHolds.l0 295 a b 1 16 = some true := by
    rw [laws_FnHolds.l0]
    simp only [implHolds_sem, Option.bind_some, e12, e13, e14, f15]
    rw [if_neg (by decide), if_pos trivial]
    by_cases h : a = b
    · subst h; simp
    · have h1 : (a == b) = false := beq_eq_false_iff_ne.mpr h
      have h2 : (a != b) = true := bne_iff_ne.mpr h
      rw [h1, h2]; simp
  simp only [l13, l14, l15, w0]
  by_cases h : a = b
  · subst h
    simp only [beq_self_eq_true, if_true, Int.lt_irrefl, if_false, gt_iff_lt]
    exact l16
  · have h1 : (a == b) = false := beq_eq_false_iff_ne.mpr h
    rw [h1]
    simp only [Bool.false_eq_true, if_false]
    by_cases h2 : a < b
    · rw [if_pos h2, if_neg (by omega)]; exact l16
    · rw [if_neg h2, if_pos (by omega)]; exact l16

end Go.Proofs.Ytabencccbmjnbaa.Pure
