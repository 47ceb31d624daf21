/- The law FnExactRangeDo, as a statement about numbers and lists alone: the program and the reference make the same number. It holds at every input. -/
import Derived.Test.YtdpeffabhkhmbaaPFnExactRangeDox1
import Derived.Test.YtdpeffabhkhmbaaMath
namespace Go.Proofs.Ytdpeffabhkhmbaa.Pure
open Go Go.RowKit Go.Proofs.Ytdpeffabhkhmbaa.PFnExactRangeDo Go.Proofs.YtdpeffabhkhmbaaW.PrintWords Go.Proofs.YtdpeffabhkhmbaaW.PrintLast Go.Proofs.YtdpeffabhkhmbaaW.PrintMore Rg

theorem l1In_eq (a b c : Int) : spec_l1In.f a b c = some (decide (b ≤ a ∧ a ≤ c)) := by
  unfold spec_l1In.f
  by_cases h : a ≥ b
  · rw [if_pos h]; simp [show b ≤ a from h]
  · rw [if_neg h]; simp [show ¬ b ≤ a from h]

theorem within_eq (a b c : Int) : impl_within.f a b c = some (decide (b ≤ a ∧ a ≤ c)) := by
  unfold impl_within.f
  by_cases h : a ≥ b
  · rw [if_pos h]; simp [show b ≤ a from h]
  · rw [if_neg h]; simp [show ¬ b ≤ a from h]

theorem numOk_eq (a : Int) : impl_numOk.f a = some (decide (0 ≤ a ∧ a ≤ 4294967295)) := by
  unfold impl_numOk.f
  rw [within_eq]; rfl


theorem l2Do_eq {op a b : Nat} (h1 : 1 ≤ op) (h2 : op ≤ 11) (ha : a < 2 ^ 32) (hb : b < 2 ^ 32) : spec_l2Do.f op a b = some ((doR op a b : Nat) : Int) := by
  have h32 : b % 32 < 32 := Nat.mod_lt _ (by decide)
  unfold spec_l2Do.f spec_l2Wrap.f
  simp only [Option.bind_some, and_top, wrap_mod, and_31 hb]
  obtain rfl | rfl | rfl | rfl | rfl | rfl | rfl | rfl | rfl | rfl | rfl : op = 1 ∨ op = 2 ∨ op = 3 ∨ op = 4 ∨ op = 5 ∨ op = 6 ∨ op = 7 ∨ op = 8 ∨ op = 9 ∨ op = 10 ∨ op = 11 := by omega
  · repeat rw [if_neg (by decide)]
    rw [if_pos (by decide), doR1]
  · repeat rw [if_neg (by decide)]
    rw [if_pos (by decide), doR2]
    congr 1; try omega
  · repeat rw [if_neg (by decide)]
    rw [if_pos (by decide), doR3]
    congr 1; try omega
  · repeat rw [if_neg (by decide)]
    rw [if_pos (by decide), doR4]
    rw [← mod_top, Int.natCast_mul]
  · repeat rw [if_neg (by decide)]
    rw [if_pos (by decide), doR5, band (i32 ha) (i32 hb)]
  · repeat rw [if_neg (by decide)]
    rw [if_pos (by decide), doR6, bor (i32 ha) (i32 hb)]
  · repeat rw [if_neg (by decide)]
    rw [if_pos (by decide), doR7, bxor (i32 ha) (i32 hb)]
  · repeat rw [if_neg (by decide)]
    rw [if_pos (by decide), if_pos (by omega), doR8, shl_mod ha h32]
  · repeat rw [if_neg (by decide)]
    rw [if_pos (by decide), if_pos (by omega), doR9, shr_nat a (by omega)]
  · repeat rw [if_neg (by decide)]
    rw [if_pos (by decide), doR10]
    by_cases c : b = 0
    · subst c; rw [if_pos (by decide), Nat.div_zero]; rfl
    · rw [if_neg (by omega), tdiv_nat, wrap64_nat (Nat.lt_of_le_of_lt (Nat.div_le_self _ _) (i32 ha))]
  · repeat rw [if_neg (by decide)]
    rw [doR11]
    by_cases c : b = 0
    · subst c; rw [if_pos (by decide), Nat.mod_zero]
    · rw [if_neg (by omega), tmod_nat]

theorem reckon_eq {op a b : Nat} (h1 : 1 ≤ op) (h2 : op ≤ 11) (ha : a < 2 ^ 32) (hb : b < 2 ^ 32) : impl_reckon.f op a b = some ((doR op a b : Nat) : Int) := by
  have h32 : b % 32 < 32 := Nat.mod_lt _ (by decide)
  have t32 : Int.tmod (b : Int) 32 = ((b % 32 : Nat) : Int) := rfl
  unfold impl_reckon.f
  simp only [and_top, wrap_mod, t32]
  obtain rfl | rfl | rfl | rfl | rfl | rfl | rfl | rfl | rfl | rfl | rfl : op = 1 ∨ op = 2 ∨ op = 3 ∨ op = 4 ∨ op = 5 ∨ op = 6 ∨ op = 7 ∨ op = 8 ∨ op = 9 ∨ op = 10 ∨ op = 11 := by omega
  · repeat rw [if_neg (by decide)]
    rw [doR1]
  · repeat rw [if_neg (by decide)]
    rw [if_pos (by decide), doR2]
    congr 1; try omega
  · repeat rw [if_neg (by decide)]
    rw [if_pos (by decide), doR3]
    congr 1; try omega
  · repeat rw [if_neg (by decide)]
    rw [if_pos (by decide), doR4]
    rw [← mod_top, Int.natCast_mul, ← Int.mul_emod]
  · repeat rw [if_neg (by decide)]
    rw [if_pos (by decide), doR5, band (i32 ha) (i32 hb)]
  · repeat rw [if_neg (by decide)]
    rw [if_pos (by decide), doR6, bor (i32 ha) (i32 hb)]
  · repeat rw [if_neg (by decide)]
    rw [if_pos (by decide), doR7, bxor (i32 ha) (i32 hb)]
  · repeat rw [if_neg (by decide)]
    rw [if_pos (by decide), if_pos (by omega), doR8, shl_mod ha h32]
  · repeat rw [if_neg (by decide)]
    rw [if_pos (by decide), if_pos (by omega), doR9, shr_nat a (by omega)]
  · repeat rw [if_neg (by decide)]
    rw [if_pos (by decide), doR10]
    by_cases c : b = 0
    · subst c; rw [if_pos (by decide), Nat.div_zero]; rfl
    · rw [if_neg (by omega), tdiv_nat, wrap64_nat (Nat.lt_of_le_of_lt (Nat.div_le_self _ _) (i32 ha))]
  · repeat rw [if_neg (by decide)]
    rw [if_pos (by decide), doR11]
    by_cases c : b = 0
    · subst c; rw [if_pos (by decide), Nat.mod_zero]
    · rw [if_neg (by omega), tmod_nat]

/-- What RangeDo answers. -/
def doI (op a b : Int) : Int := if (1 ≤ op ∧ op ≤ 11) ∧ (0 ≤ a ∧ a ≤ 4294967295) ∧ (0 ≤ b ∧ b ≤ 4294967295) then ((doR op.toNat a.toNat b.toNat : Nat) : Int) else -1

theorem specDo_eq (op a b : Int) : spec_RangeDo.f op a b = some (doI op a b) := by
  unfold spec_RangeDo.f spec_l1Alu.f doI
  simp only [l1In_eq, Option.bind_some, decide_eq_true_eq]
  by_cases h1 : 1 ≤ op ∧ op ≤ 11
  · by_cases h2 : 0 ≤ a ∧ a ≤ 4294967295
    · by_cases h3 : 0 ≤ b ∧ b ≤ 4294967295
      · rw [if_pos h1, if_pos h2, if_pos h3, if_pos ⟨h1, h2, h3⟩]
        obtain ⟨o, rfl⟩ := Int.eq_ofNat_of_zero_le (show 0 ≤ op by omega)
        obtain ⟨x, rfl⟩ := Int.eq_ofNat_of_zero_le h2.1
        obtain ⟨y, rfl⟩ := Int.eq_ofNat_of_zero_le h3.1
        rw [l2Do_eq (by omega) (by omega) (by omega) (by omega)]; rfl
      · rw [if_pos h1, if_pos h2, if_neg h3, if_neg (fun h => h3 h.2.2)]
    · rw [if_pos h1, if_neg h2, if_neg (fun h => h2 h.2.1)]
  · rw [if_neg h1, if_neg (fun h => h1 h.1)]

theorem implDo_eq (op a b : Int) : impl_RangeDo.f op a b = some (doI op a b) := by
  unfold impl_RangeDo.f impl_kind_reckons.f doI
  simp only [numOk_eq, within_eq, Option.bind_some, decide_eq_true_eq]
  by_cases h1 : 1 ≤ op ∧ op ≤ 11
  · by_cases h2 : 0 ≤ a ∧ a ≤ 4294967295
    · by_cases h3 : 0 ≤ b ∧ b ≤ 4294967295
      · rw [if_pos h1, if_pos h2, if_pos h3, if_pos ⟨h1, h2, h3⟩]
        obtain ⟨o, rfl⟩ := Int.eq_ofNat_of_zero_le (show 0 ≤ op by omega)
        obtain ⟨x, rfl⟩ := Int.eq_ofNat_of_zero_le h2.1
        obtain ⟨y, rfl⟩ := Int.eq_ofNat_of_zero_le h3.1
        rw [reckon_eq (by omega) (by omega) (by omega) (by omega)]; rfl
      · rw [if_pos h1, if_pos h2, if_neg h3, if_neg (fun h => h3 h.2.2)]
    · rw [if_pos h1, if_neg h2, if_neg (fun h => h2 h.2.1)]
  · rw [if_neg h1, if_neg (fun h => h1 h.1)]

theorem FnExactRangeDo : laws_FnExactRangeDo.Pure := by
  intro op a b _ _ _
  unfold laws_FnExactRangeDo.f
  rw [specDo_eq, implDo_eq]; simp

end Go.Proofs.Ytdpeffabhkhmbaa.Pure
