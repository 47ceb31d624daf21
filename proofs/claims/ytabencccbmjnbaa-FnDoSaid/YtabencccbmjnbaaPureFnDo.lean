/- The law FnDo, as a statement about numbers and lists alone: the numbers that ops make answer to one another as they should, whatever bytes are drawn from. It holds at every input. -/
import Derived.Test.YtabencccbmjnbaaQ24
import Derived.Test.YtabencccbmjnbaaMath
namespace Go.Proofs.Ytabencccbmjnbaa.Pure
open Go Go.RowKit Go.Proofs.Ytabencccbmjnbaa.Q Go.Proofs.YtabencccbmjnbaaW.PrintWords Go.Proofs.YtabencccbmjnbaaW.PrintLast Go.Proofs.YtabencccbmjnbaaW.PrintMore Rg

theorem l1In_eq (a b c : Int) : spec_l1In.f a b c = some (decide (b ≤ a ∧ a ≤ c)) := by
  unfold spec_l1In.f
  by_cases h : a ≥ b
  · rw [if_pos h]; simp [show b ≤ a from h]
  · rw [if_neg h]; simp [show ¬ b ≤ a from h]
theorem within_eq (a b c : Int) : impl_within.f a b c = some (decide (b ≤ a ∧ a ≤ c)) := by
  unfold impl_within.f
  by_cases h : a ≥ b
  · rw [if_pos h]; simp [show b ≤ a from h]
  · rw [if_neg h]; simp [show ¬ b ≤ a from h]
theorem numOk_eq (a : Int) : impl_numOk.f a = some (decide (0 ≤ a ∧ a ≤ 4294967295)) := by
  unfold impl_numOk.f
  rw [within_eq]; rfl
theorem l2Do_eq {op a b : Nat} (h1 : 1 ≤ op) (h2 : op ≤ 11) (ha : a < 2 ^ 32) (hb : b < 2 ^ 32) : spec_l2Do.f op a b = some ((doR op a b : Nat) : Int) := by
  have h32 : b % 32 < 32 := Nat.mod_lt _ (by decide)
  unfold spec_l2Do.f spec_l2Wrap.f
  simp only [Option.bind_some, and_top, wrap_mod, and_31 hb]
  obtain rfl | rfl | rfl | rfl | rfl | rfl | rfl | rfl | rfl | rfl | rfl : op = 1 ∨ op = 2 ∨ op = 3 ∨ op = 4 ∨ op = 5 ∨ op = 6 ∨ op = 7 ∨ op = 8 ∨ op = 9 ∨ op = 10 ∨ op = 11 := by omega
  · repeat rw [if_neg (by decide)]
    rw [if_pos (by decide), doR1]
  · repeat rw [if_neg (by decide)]
    rw [if_pos (by decide), doR2]
    congr 1; try omega
  · repeat rw [if_neg (by decide)]
    rw [if_pos (by decide), doR3]
    congr 1; try omega
  · repeat rw [if_neg (by decide)]
    rw [if_pos (by decide), doR4]
    rw [← mod_top, Int.natCast_mul]
  · repeat rw [if_neg (by decide)]
    rw [if_pos (by decide), doR5, band (i32 ha) (i32 hb)]
  · repeat rw [if_neg (by decide)]
    rw [if_pos (by decide), doR6, bor (i32 ha) (i32 hb)]
  · repeat rw [if_neg (by decide)]
    rw [if_pos (by decide), doR7, bxor (i32 ha) (i32 hb)]
  · repeat rw [if_neg (by decide)]
    rw [if_pos (by decide), if_pos (by omega), doR8, shl_mod ha h32]
  · repeat rw [if_neg (by decide)]
    rw [if_pos (by decide), if_pos (by omega), doR9, shr_nat a (by omega)]
  · repeat rw [if_neg (by decide)]
    rw [if_pos (by decide), doR10]
    by_cases c : b = 0
    · subst c; rw [if_pos (by decide), Nat.div_zero]; rfl
    · rw [if_neg (by omega), tdiv_nat, wrap64_nat (Nat.lt_of_le_of_lt (Nat.div_le_self _ _) (i32 ha))]
  · repeat rw [if_neg (by decide)]
    rw [doR11]
    by_cases c : b = 0
    · subst c; rw [if_pos (by decide), Nat.mod_zero]
    · rw [if_neg (by omega), tmod_nat]
theorem reckon_eq {op a b : Nat} (h1 : 1 ≤ op) (h2 : op ≤ 11) (ha : a < 2 ^ 32) (hb : b < 2 ^ 32) : impl_reckon.f op a b = some ((doR op a b : Nat) : Int) := by
  have h32 : b % 32 < 32 := Nat.mod_lt _ (by decide)
  have t32 : Int.tmod (b : Int) 32 = ((b % 32 : Nat) : Int) := rfl
  unfold impl_reckon.f
  simp only [and_top, wrap_mod, t32]
  obtain rfl | rfl | rfl | rfl | rfl | rfl | rfl | rfl | rfl | rfl | rfl : op = 1 ∨ op = 2 ∨ op = 3 ∨ op = 4 ∨ op = 5 ∨ op = 6 ∨ op = 7 ∨ op = 8 ∨ op = 9 ∨ op = 10 ∨ op = 11 := by omega
  · repeat rw [if_neg (by decide)]
    rw [doR1]
  · repeat rw [if_neg (by decide)]
    rw [if_pos (by decide), doR2]
    congr 1; try omega
  · repeat rw [if_neg (by decide)]
    rw [if_pos (by decide), doR3]
    congr 1; try omega
  · repeat rw [if_neg (by decide)]
    rw [if_pos (by decide), doR4]
    rw [← mod_top, Int.natCast_mul, ← Int.mul_emod]
  · repeat rw [if_neg (by decide)]
    rw [if_pos (by decide), doR5, band (i32 ha) (i32 hb)]
  · repeat rw [if_neg (by decide)]
    rw [if_pos (by decide), doR6, bor (i32 ha) (i32 hb)]
  · repeat rw [if_neg (by decide)]
    rw [if_pos (by decide), doR7, bxor (i32 ha) (i32 hb)]
  · repeat rw [if_neg (by decide)]
    rw [if_pos (by decide), if_pos (by omega), doR8, shl_mod ha h32]
  · repeat rw [if_neg (by decide)]
    rw [if_pos (by decide), if_pos (by omega), doR9, shr_nat a (by omega)]
  · repeat rw [if_neg (by decide)]
    rw [if_pos (by decide), doR10]
    by_cases c : b = 0
    · subst c; rw [if_pos (by decide), Nat.div_zero]; rfl
    · rw [if_neg (by omega), tdiv_nat, wrap64_nat (Nat.lt_of_le_of_lt (Nat.div_le_self _ _) (i32 ha))]
  · repeat rw [if_neg (by decide)]
    rw [if_pos (by decide), doR11]
    by_cases c : b = 0
    · subst c; rw [if_pos (by decide), Nat.mod_zero]
    · rw [if_neg (by omega), tmod_nat]
/-- What RangeDo answers. -/
def doI (op a b : Int) : Int := if (1 ≤ op ∧ op ≤ 11) ∧ (0 ≤ a ∧ a ≤ 4294967295) ∧ (0 ≤ b ∧ b ≤ 4294967295) then ((doR op.toNat a.toNat b.toNat : Nat) : Int) else -1
theorem specDo_eq (op a b : Int) {k : Nat} (hk : 1 < k) : spec_RangeDo.f k op a b = some (doI op a b) := by
  obtain ⟨k, rfl⟩ : ∃ m, k = m + 1 := ⟨k - 1, by omega⟩
  unfold spec_RangeDo.f spec_l1Alu.f doI
  simp only [spec_RangeDo.j0, l1In_eq, Option.bind_some, decide_eq_true_eq]
  by_cases h1 : 1 ≤ op ∧ op ≤ 11
  · by_cases h2 : 0 ≤ a ∧ a ≤ 4294967295
    · by_cases h3 : 0 ≤ b ∧ b ≤ 4294967295
      · rw [if_pos h1, if_pos h2, decide_eq_true h3, if_neg (by decide), if_pos ⟨h1, h2, h3⟩]
        obtain ⟨o, rfl⟩ := Int.eq_ofNat_of_zero_le (show 0 ≤ op by omega)
        obtain ⟨x, rfl⟩ := Int.eq_ofNat_of_zero_le h2.1
        obtain ⟨y, rfl⟩ := Int.eq_ofNat_of_zero_le h3.1
        rw [l2Do_eq (by omega) (by omega) (by omega) (by omega)]; rfl
      · rw [if_pos h1, if_pos h2, decide_eq_false h3, if_pos (by decide), if_neg (fun h => h3 h.2.2)]
    · rw [if_pos h1, if_neg h2, if_pos trivial, if_neg (fun h => h2 h.2.1)]
  · rw [if_neg h1, if_pos trivial, if_neg (fun h => h1 h.1)]
theorem implDo_eq (op a b : Int) {k : Nat} (hk : 1 < k) : impl_RangeDo.f k op a b = some (doI op a b) := by
  obtain ⟨k, rfl⟩ : ∃ m, k = m + 1 := ⟨k - 1, by omega⟩
  unfold impl_RangeDo.f impl_kind_reckons.f doI
  simp only [impl_RangeDo.j0, numOk_eq, within_eq, Option.bind_some, decide_eq_true_eq]
  by_cases h1 : 1 ≤ op ∧ op ≤ 11
  · by_cases h2 : 0 ≤ a ∧ a ≤ 4294967295
    · by_cases h3 : 0 ≤ b ∧ b ≤ 4294967295
      · rw [if_pos h1, if_pos h2, decide_eq_true h3, if_neg (by decide), if_pos ⟨h1, h2, h3⟩]
        obtain ⟨o, rfl⟩ := Int.eq_ofNat_of_zero_le (show 0 ≤ op by omega)
        obtain ⟨x, rfl⟩ := Int.eq_ofNat_of_zero_le h2.1
        obtain ⟨y, rfl⟩ := Int.eq_ofNat_of_zero_le h3.1
        rw [reckon_eq (by omega) (by omega) (by omega) (by omega)]; rfl
      · rw [if_pos h1, if_pos h2, decide_eq_false h3, if_pos (by decide), if_neg (fun h => h3 h.2.2)]
    · rw [if_pos h1, if_neg h2, if_pos trivial, if_neg (fun h => h2 h.2.1)]
  · rw [if_neg h1, if_pos trivial, if_neg (fun h => h1 h.1)]
theorem open_gives {l : List Int} (hl : ∀ x ∈ l, (Lit.int .u8 x).wf = true) : Gives (spec_l20Open.f l) (fun v => Bytes v.1 ∧ v.2 = 0) := by
  unfold spec_l20Open.f
  refine Gives.ite (fun h => ?_) (fun h => ?_)
  · rw [if_pos (by omega)]
    exact Gives.ret ⟨⟨by rw [List.length_take]; omega, fun x hx => u8_wf (hl x (List.mem_of_mem_take hx))⟩, rfl⟩
  · exact Gives.ret ⟨⟨by show l.length ≤ 2000; omega, fun x hx => u8_wf (hl x hx)⟩, rfl⟩
theorem pick_gives {k : Nat} {b : List Int} (hb : Bytes b) {p n : Int} (h0 : 0 ≤ p) (h1 : p ≤ 10000) (hn : 1 ≤ n) (hk : 0 < k) : Gives (spec_l20Rd_pick.f k b p n) (fun v => 0 ≤ v.1 ∧ v.1 < n ∧ v.2 = p + 1) := by
  obtain ⟨k, rfl⟩ : ∃ m, k = m + 1 := ⟨k - 1, by omega⟩
  unfold spec_l20Rd_pick.f
  rw [if_neg (by omega)]
  simp only [spec_l20Rd_pick.j0]
  rw [wrap64_id (n := p + 1) (by omega) (by omega), wrap64_id (n := p + 1 - 1) (by omega) (by omega), show p + 1 - 1 = p by omega]
  obtain ⟨hb1, hb2⟩ := hb
  refine Gives.ite (fun _ => Gives.ret ⟨by omega, by omega, rfl⟩) (fun he => ?_)
  have hl : 1 ≤ (b.length : Int) := by
    rcases b with _ | ⟨x, l⟩
    · simp at he
    · simp; omega
  refine Gives.ite (fun hlt => ?_) (fun _ => ?_)
  · rw [if_pos h0, if_neg (by omega)]
    have hv := hb2 _ (rd_mem h0 hlt)
    rw [wrap64_id (by omega) (by omega)]
    have := tmod_range hv.1 hn
    exact Gives.ret ⟨this.1, this.2, rfl⟩
  · have hq := tmod_range h0 hl
    have hw : 0 ≤ wrap64 (wrap64 (p * 7) + 3) := by rw [wrap64_id (n := p * 7) (by omega) (by omega), wrap64_id (by omega) (by omega)]; omega
    have hr := tmod_range hw hl
    rw [if_neg (by omega), if_pos hq.1, if_pos hq.2, if_pos hr.1, if_pos hr.2, if_neg (by omega)]
    have hv1 := hb2 _ (rd_mem hq.1 hq.2)
    have hv2 := hb2 _ (rd_mem hr.1 hr.2)
    have hd : 0 ≤ Int.tdiv p (b.length : Int) ∧ Int.tdiv p (b.length : Int) ≤ 100000 := by
      refine ⟨Int.tdiv_nonneg h0 (by omega), ?_⟩
      rw [Int.tdiv_eq_ediv_of_nonneg h0]
      have := Int.ediv_le_self (b.length : Int) h0
      omega
    have hm := mix hv1 hv2 ⟨h0, by omega⟩ hd
    have hx := tmod_range (xor_pos hm.1 hm.2) hn
    exact Gives.ret ⟨hx.1, hx.2, rfl⟩
theorem one_gives {k : Nat} {b : List Int} (hb : Bytes b) {p : Int} (h0 : 0 ≤ p) (h1 : p ≤ 10000) {l : List Int} (hl : 1 ≤ (l.length : Int)) (hk : 0 < k) : Gives (spec_l20Rd_one.f k b p l) (fun v => v.1 ∈ l ∧ v.2 = p + 1) := by
  unfold spec_l20Rd_one.f
  refine (pick_gives hb h0 h1 hl hk).bind fun v hv => ?_
  rw [if_pos hv.1, if_pos hv.2.1]
  exact Gives.ret ⟨rd_mem hv.1 hv.2.1, hv.2.2⟩
theorem imm_gives {k : Nat} {b : List Int} (hb : Bytes b) {p : Int} (h0 : 0 ≤ p) (h1 : p ≤ 10000) (hk : 0 < k) : Gives (spec_l20Imm.f k b p) (fun v => N32 v.1 ∧ v.2 = p + 1) := by
  unfold spec_l20Imm.f
  refine (one_gives hb h0 h1 (by decide) hk).bind fun v hv => Gives.ret ⟨?_, hv.2⟩
  have := hv.1
  simp only [List.mem_cons, List.not_mem_nil, or_false] at this
  show N32 v.1
  unfold N32
  omega
theorem number_gives {k : Nat} {b : List Int} (hb : Bytes b) {p : Int} (h0 : 0 ≤ p) (h1 : p ≤ 9990) (hk : 0 < k) : Gives (spec_l20Number.f k b p) (fun v => N32 v.1 ∧ 0 ≤ v.2 ∧ v.2 ≤ p + 3) := by
  unfold spec_l20Number.f
  refine (pick_gives hb h0 (by omega) (by decide) hk).bind fun v hv => ?_
  obtain ⟨_, _, hv⟩ := hv
  refine Gives.ite (fun _ => ?_) (fun _ => Gives.ite (fun _ => ?_) (fun _ => ?_))
  · exact (imm_gives hb (by omega) (by omega) hk).bind fun u hu => Gives.ret ⟨hu.1, by omega, by omega⟩
  · exact (pick_gives hb (by omega) (by omega) (by decide) hk).bind fun u hu => Gives.ret ⟨⟨hu.1, by omega⟩, by omega, by omega⟩
  · refine (pick_gives hb (by omega) (by omega) (by decide) hk).bind fun u hu => ?_
    obtain ⟨hu0, hu1, hu2⟩ := hu
    refine (one_gives hb (by omega) (by omega) (by decide) hk).bind fun s hs => ?_
    obtain ⟨hs1, hs2⟩ := hs
    simp only [List.mem_cons, List.not_mem_nil, or_false] at hs1
    rw [if_pos (by omega)]
    refine Gives.ret ⟨?_, by omega, by omega⟩
    obtain ⟨a, ha⟩ := Int.eq_ofNat_of_zero_le hu0
    show N32 (shl .i64 u.1 s.1)
    rw [ha] at hu1 ⊢
    have ha' : a < 256 := by omega
    unfold N32
    rcases hs1 with h | h | h | h | h <;> rw [h]
    · have := shl_nat (a := a) (k := 0) (by decide) (by omega); rw [show (0 : Int) = ((0 : Nat) : Int) from rfl, this]; omega
    · have := shl_nat (a := a) (k := 4) (by decide) (by omega); rw [show (4 : Int) = ((4 : Nat) : Int) from rfl, this]; omega
    · have := shl_nat (a := a) (k := 8) (by decide) (by omega); rw [show (8 : Int) = ((8 : Nat) : Int) from rfl, this]; omega
    · have := shl_nat (a := a) (k := 16) (by decide) (by omega); rw [show (16 : Int) = ((16 : Nat) : Int) from rfl, this]; omega
    · have := shl_nat (a := a) (k := 24) (by decide) (by omega); rw [show (24 : Int) = ((24 : Nat) : Int) from rfl, this]; omega

theorem drawDo_gives {k : Nat} {l : List Int} (hl : ∀ x ∈ l, (Lit.int .u8 x).wf = true) (hk : 0 < k) : Gives (spec_DrawRangeDo.f k l) (fun _ => True) := by
  unfold spec_DrawRangeDo.f
  refine (open_gives hl).bind fun b hb => ?_
  obtain ⟨hb, h0⟩ := hb
  refine (one_gives hb (by omega) (by omega) (by decide) hk).bind fun v hv => ?_
  refine (number_gives hb (by have := hv.2; omega) (by have := hv.2; omega) hk).bind fun u hu => ?_
  refine (number_gives hb (by have := hv.2; omega) (by have := hu.2; have := hv.2; omega) hk).bind fun t ht => ?_
  refine (one_gives hb (by have := ht.2; omega) (by have := ht.2; have := hu.2; have := hv.2; omega) (by simp) hk).bind fun s hs => ?_
  exact Gives.ret trivial

theorem bits_xx {a b : Nat} : (a ^^^ b) ^^^ b = a := by
  apply eq_of_bits
  intro i
  rw [Nat.testBit_xor, Nat.testBit_xor]
  cases a.testBit i <;> cases b.testBit i <;> rfl

theorem doI_nat {op a b : Nat} (h1 : 1 ≤ op) (h2 : op ≤ 11) (ha : a < 2 ^ 32) (hb : b < 2 ^ 32) : doI op a b = ((doR op a b : Nat) : Int) := by
  unfold doI
  rw [if_pos ⟨⟨by omega, by omega⟩, ⟨by omega, by omega⟩, by omega, by omega⟩]; rfl
theorem do_back {a b : Nat} (ha : a < 4294967296) (hb : b < 4294967296) : ((a + b) % 4294967296 + 4294967296 - b) % 4294967296 = a := by omega
theorem div_back {a b : Nat} (ha : a < 4294967296) : (a / b * b % 4294967296 + a % b) % 4294967296 = a := by
  have h := Nat.div_add_mod a b
  rw [Nat.mul_comm] at h
  generalize a / b * b = x at *
  generalize a % b = y at *
  omega
theorem do_laws {a b : Nat} (ha : a < 2 ^ 32) (hb : b < 2 ^ 32) {op x : Int} (hx : x ≤ 4294967295) : laws_FnDo.j0 300 op a b x false = some true := by
  rw [laws_FnDo.j0]
  have L := fun (o : Nat) (h1 : 1 ≤ o) (h2 : o ≤ 11) {u : Nat} (hu : u < 2 ^ 32) => doI_nat h1 h2 hu hb
  have e2 : doI 2 a b = ((doR 2 a b : Nat) : Int) := L 2 (by decide) (by decide) ha
  have e7 : doI 7 a b = ((doR 7 a b : Nat) : Int) := L 7 (by decide) (by decide) ha
  have e10 : doI 10 a b = ((doR 10 a b : Nat) : Int) := L 10 (by decide) (by decide) ha
  have e11 : doI 11 a b = ((doR 11 a b : Nat) : Int) := L 11 (by decide) (by decide) ha
  have e1 : doI 1 a b = ((doR 1 a b : Nat) : Int) := L 1 (by decide) (by decide) ha
  have b2 := doR_lt (op := 2) ha hb
  have b7 := doR_lt (op := 7) ha hb
  have b10 := doR_lt (op := 10) ha hb
  have b11 := doR_lt (op := 11) ha hb
  have e4 : doI 4 ((doR 10 a b : Nat) : Int) b = ((doR 4 (doR 10 a b) b : Nat) : Int) := L 4 (by decide) (by decide) b10
  have b4 := doR_lt (op := 4) b10 hb
  have e22 : doI 2 ((doR 4 (doR 10 a b) b : Nat) : Int) ((doR 11 a b : Nat) : Int) = ((doR 2 (doR 4 (doR 10 a b) b) (doR 11 a b) : Nat) : Int) := doI_nat (by decide) (by decide) b4 b11
  have e3 : doI 3 ((doR 2 a b : Nat) : Int) b = ((doR 3 (doR 2 a b) b : Nat) : Int) := L 3 (by decide) (by decide) b2
  have e77 : doI 7 ((doR 7 a b : Nat) : Int) b = ((doR 7 (doR 7 a b) b : Nat) : Int) := L 7 (by decide) (by decide) b7
  have r3 : doR 3 (doR 2 a b) b = a := by rw [doR3, doR2]; exact do_back ha hb
  have r7 : doR 7 (doR 7 a b) b = a := by rw [doR7, doR7]; exact bits_xx
  have r2 : doR 2 (doR 4 (doR 10 a b) b) (doR 11 a b) = a := by rw [doR2, doR4, doR10, doR11]; exact div_back ha
  simp only [Bool.false_eq_true, if_false, implDo_eq _ _ _ (show 1 < 299 by decide), Option.bind_some, e1, e2, e7, e10, e11, e4, e22, e3, e77, r3, r7, r2, doR1, if_true, beq_self_eq_true]
  rw [if_pos hx]
theorem FnDo : laws_FnDo.Pure := by
  intro l _ _ hl
  refine ⟨300, ?_⟩
  unfold laws_FnDo.f
  split
  · rfl
  obtain ⟨v, hv, _⟩ := drawDo_gives (k := 300) hl (by decide)
  obtain ⟨op, a, b⟩ := v
  rw [hv]
  simp only [Option.bind_some, implDo_eq _ _ _ (show 1 < 300 by decide), specDo_eq _ _ _ (show 1 < 300 by decide), if_true]
  by_cases h : (1 ≤ op ∧ op ≤ 11) ∧ (0 ≤ a ∧ a ≤ 4294967295) ∧ (0 ≤ b ∧ b ≤ 4294967295)
  · obtain ⟨⟨h1, h2⟩, ⟨h3, h4⟩, h5, h6⟩ := h
    obtain ⟨o, rfl⟩ := Int.eq_ofNat_of_zero_le (show 0 ≤ op by omega)
    obtain ⟨a, rfl⟩ := Int.eq_ofNat_of_zero_le h3
    obtain ⟨b, rfl⟩ := Int.eq_ofNat_of_zero_le h5
    have ha : a < 2 ^ 32 := by omega
    have hb : b < 2 ^ 32 := by omega
    have e := doI_nat (op := o) (by omega) (by omega) ha hb
    have := doR_lt (op := o) ha hb
    rw [e, decide_eq_false (by omega)]
    exact do_laws ha hb (by omega)
  · have e : doI op a b = -1 := by unfold doI; rw [if_neg h]
    rw [e, decide_eq_true (by decide), laws_FnDo.j0]
    simp only [if_true, specDo_eq _ _ _ (show 1 < 299 by decide), Option.bind_some, e, beq_self_eq_true]

end Go.Proofs.Ytabencccbmjnbaa.Pure
