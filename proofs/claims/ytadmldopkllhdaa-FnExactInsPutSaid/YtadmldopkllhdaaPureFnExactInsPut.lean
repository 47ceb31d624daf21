/- The law FnExactInsPut, as a statement about numbers and lists alone: the program and the reference write an op alike. It holds at every input. -/
import Derived.Test.YtadmldopkllhdaaQ9
import Derived.Test.YtadmldopkllhdaaMath
namespace Go.Proofs.Ytadmldopkllhdaa.Pure
open Go Go.RowKit Go.Proofs.Ytadmldopkllhdaa.Q Go.Proofs.YtadmldopkllhdaaW.PrintWords Go.Proofs.YtadmldopkllhdaaW.PrintLast Go.Proofs.YtadmldopkllhdaaW.PrintMore Rg

theorem l1In_eq (a b c : Int) : spec_l1In.f a b c = some (decide (b ≤ a ∧ a ≤ c)) := by
  unfold spec_l1In.f
  by_cases h : a ≥ b
  · rw [if_pos h]; simp [show b ≤ a from h]
  · rw [if_neg h]; simp [show ¬ b ≤ a from h]
theorem within_eq (a b c : Int) : impl_within.f a b c = some (decide (b ≤ a ∧ a ≤ c)) := by
  unfold impl_within.f
  by_cases h : a ≥ b
  · rw [if_pos h]; simp [show b ≤ a from h]
  · rw [if_neg h]; simp [show ¬ b ≤ a from h]
theorem numOk_eq (a : Int) : impl_numOk.f a = some (decide (0 ≤ a ∧ a ≤ 4294967295)) := by
  unfold impl_numOk.f
  rw [within_eq]; rfl
/-- A register, or a number in its place. -/
def EitherI (s m : Int) : Prop := (0 ≤ s ∧ s ≤ 10 ∧ m = 0) ∨ (s = -1 ∧ 0 ≤ m ∧ m ≤ 4294967295)
/-- How many bytes are loaded or stored. -/
def SizeI (z : Int) : Prop := z = 1 ∨ z = 2 ∨ z = 4
/-- An op that is ok. -/
def InsI (o d s f m z : Int) : Prop :=
  if 1 ≤ o ∧ o ≤ 11 then (0 ≤ d ∧ d ≤ 10) ∧ EitherI s m ∧ f = 0 ∧ z = 0
  else if 12 ≤ o ∧ o ≤ 15 then (0 ≤ d ∧ d ≤ 10) ∧ EitherI s m ∧ (-128 ≤ f ∧ f ≤ 127) ∧ z = 0
  else if o = 16 then (-128 ≤ f ∧ f ≤ 127) ∧ d = 0 ∧ s = -1 ∧ m = 0 ∧ z = 0
  else if o = 17 then (0 ≤ d ∧ d ≤ 10) ∧ (0 ≤ s ∧ s ≤ 10) ∧ m = 0 ∧ (-128 ≤ f ∧ f ≤ 127) ∧ SizeI z
  else if o = 18 then (0 ≤ d ∧ d ≤ 10) ∧ EitherI s m ∧ (-128 ≤ f ∧ f ≤ 127) ∧ SizeI z
  else if o = 19 then (1 ≤ m ∧ m ≤ 6) ∧ d = 0 ∧ s = -1 ∧ f = 0 ∧ z = 0
  else o = 20 ∧ d = 0 ∧ s = -1 ∧ f = 0 ∧ m = 0 ∧ z = 0
instance EitherI_dec (s m : Int) : Decidable (EitherI s m) := by unfold EitherI; exact inferInstance
instance SizeI_dec (z : Int) : Decidable (SizeI z) := by unfold SizeI; exact inferInstance
instance InsI_dec (o d s f m z : Int) : Decidable (InsI o d s f m z) := by unfold InsI; exact inferInstance
theorem some_eq_dec {b : Bool} {p : Prop} [Decidable p] (h : b = true ↔ p) : some b = some (decide p) := by
  congr 1
  rw [Bool.eq_iff_iff, h, decide_eq_true_eq]
theorem InsI.range {o d s f m z : Int} (h : InsI o d s f m z) : (1 ≤ o ∧ o ≤ 20) ∧ (0 ≤ d ∧ d ≤ 10) ∧ (-1 ≤ s ∧ s ≤ 10) ∧ (-128 ≤ f ∧ f ≤ 127) ∧ (0 ≤ m ∧ m ≤ 4294967295) ∧ (0 ≤ z ∧ z ≤ 4) := by
  unfold InsI EitherI SizeI at h
  repeat' split at h
  all_goals omega
theorem reckons_eq (o : Int) : impl_kind_reckons.f o = some (decide (1 ≤ o ∧ o ≤ 11)) := by unfold impl_kind_reckons.f; simp only [within_eq, Option.bind_some]
theorem asks_eq (o : Int) : impl_kind_asks.f o = some (decide (12 ≤ o ∧ o ≤ 15)) := by unfold impl_kind_asks.f; simp only [within_eq, Option.bind_some]
theorem regOk_eq (d : Int) : impl_regOk.f d = some (decide (0 ≤ d ∧ d ≤ 10)) := by unfold impl_regOk.f; simp only [within_eq, Option.bind_some]
theorem sizeOk_eq (z : Int) : impl_sizeOk.f z = some (decide (SizeI z)) := by
  unfold impl_sizeOk.f
  repeat' split
  all_goals (apply some_eq_dec; unfold SizeI; simp only [beq_iff_eq, true_iff]; omega)
theorem either_eq (o d s f m z : Int) : impl_Ins_either.f o d s f m z = some (decide (EitherI s m)) := by
  unfold impl_Ins_either.f
  simp only [regOk_eq, numOk_eq, Option.bind_some, decide_eq_true_eq]
  repeat' split
  all_goals (apply some_eq_dec; unfold EitherI; simp only [decide_eq_true_eq, true_iff, Bool.false_eq_true, false_iff]; omega)
theorem implInsOk_eq (o d s f m z : Int) : impl_InsOk.f o d s f m z = some (decide (InsI o d s f m z)) := by
  unfold impl_InsOk.f
  simp only [within_eq, regOk_eq, reckons_eq, asks_eq, sizeOk_eq, either_eq, Option.bind_some, decide_eq_true_eq]
  by_cases h1 : 1 ≤ o ∧ o ≤ 11
  · unfold InsI; simp only [h1, and_self, if_true]
    repeat' split
    all_goals (apply some_eq_dec; simp_all; try (intros; omega))
  by_cases h2 : 12 ≤ o ∧ o ≤ 15
  · unfold InsI; simp only [h1, h2, and_self, if_true, if_false]
    repeat' split
    all_goals (apply some_eq_dec; simp_all; try (intros; omega))
  by_cases h3 : o = 16
  · subst h3; unfold InsI; simp only [h1, h2, if_true, if_false]
    repeat' split
    all_goals (apply some_eq_dec; simp_all; try (intros; omega))
  by_cases h4 : o = 17
  · subst h4; unfold InsI; simp only [h1, h2, h3, if_true, if_false]
    repeat' split
    all_goals (apply some_eq_dec; simp_all; try (intros; omega))
  by_cases h5 : o = 18
  · subst h5; unfold InsI; simp only [h1, h2, h3, h4, if_true, if_false]
    repeat' split
    all_goals (apply some_eq_dec; simp_all; try (intros; omega))
  by_cases h6 : o = 19
  · subst h6; unfold InsI; simp only [h1, h2, h3, h4, h5, if_true, if_false]
    repeat' split
    all_goals (apply some_eq_dec; simp_all; try (intros; omega))
  · unfold InsI; simp only [h1, h2, h3, h4, h5, h6, if_false]
    apply some_eq_dec
    simp
theorem specBare_eq (o d s f m z : Int) (hs : -1 ≤ s ∧ s ≤ 10) (hd : 0 ≤ d ∧ d ≤ 10) (hf : -128 ≤ f ∧ f ≤ 127) (hm : 0 ≤ m ∧ m ≤ 4294967295) : spec_l1Bare.f o d s f m z = some (decide (InsI o d s f m z)) := by
  have he : EitherI s m ↔ (s < 0 ∨ m = 0) := by unfold EitherI; omega
  have hr : (0 ≤ s ∧ s ≤ 10) ↔ s ≥ 0 := by omega
  unfold spec_l1Bare.f spec_l1Alu.f spec_l1Jump.f
  simp only [l1In_eq, Option.bind_some, decide_eq_true_eq]
  by_cases h1 : 1 ≤ o ∧ o ≤ 11
  · unfold InsI; simp only [h1, he, hr, hd, hf, and_self, if_true, true_and]
    repeat' split
    all_goals (apply some_eq_dec; simp_all; try (intros; omega))
  by_cases h2 : 12 ≤ o ∧ o ≤ 15
  · unfold InsI; simp only [h1, h2, he, hr, hd, hf, and_self, if_true, if_false, true_and]
    repeat' split
    all_goals (apply some_eq_dec; simp_all; try (intros; omega))
  by_cases h3 : o = 16
  · subst h3; unfold InsI; simp only [h1, h2, hf, and_self, if_true, if_false, true_and]
    repeat' split
    all_goals (apply some_eq_dec; simp_all; try (intros; omega))
  by_cases h4 : o = 17
  · subst h4; unfold InsI SizeI; simp only [h1, h2, h3, hr, hd, hf, and_self, if_true, if_false, true_and]
    repeat' split
    all_goals (apply some_eq_dec; simp_all; try (intros; omega))
  by_cases h5 : o = 18
  · subst h5; unfold InsI SizeI; simp only [h1, h2, h3, h4, he, hd, hf, and_self, if_true, if_false, true_and]
    repeat' split
    all_goals (apply some_eq_dec; simp_all; try (intros; omega))
  by_cases h6 : o = 19
  · subst h6; unfold InsI; simp only [h1, h2, h3, h4, h5, if_true, if_false]
    repeat' split
    all_goals (apply some_eq_dec; simp_all; try (intros; omega))
  · unfold InsI; simp only [h1, h2, h3, h4, h5, h6, if_false]
    repeat' split
    all_goals (apply some_eq_dec; simp_all; try (intros; omega))
theorem specInsOk_eq (o d s f m z : Int) : spec_l1InsOk.f o d s f m z = some (decide (InsI o d s f m z)) := by
  unfold spec_l1InsOk.f
  simp only [l1In_eq, Option.bind_some, decide_eq_true_eq]
  by_cases h1 : 0 ≤ d ∧ d ≤ 10
  · by_cases h2 : -1 ≤ s ∧ s ≤ 10
    · by_cases h3 : -128 ≤ f ∧ f ≤ 127
      · by_cases h4 : 0 ≤ m ∧ m ≤ 4294967295
        · rw [if_pos h1, if_pos h2, if_pos h3, if_pos h4, specBare_eq o d s f m z h2 h1 h3 h4]; rfl
        · rw [if_pos h1, if_pos h2, if_pos h3, if_neg h4, decide_eq_false (fun x => h4 (InsI.range x).2.2.2.2.1)]
      · rw [if_pos h1, if_pos h2, if_neg h3, decide_eq_false (fun x => h3 (InsI.range x).2.2.2.1)]
    · rw [if_pos h1, if_neg h2, decide_eq_false (fun x => h2 (InsI.range x).2.2.1)]
  · rw [if_neg h1, decide_eq_false (fun x => h1 (InsI.range x).2.1)]
theorem strOfNums_app (a b : List Int) : strOfNums a ++ strOfNums b = strOfNums (a ++ b) := by
  apply ByteArray.ext
  unfold strOfNums
  simp [ByteArray.data_append]
theorem and_255 (x : Int) : Go.bits .and .i64 x 255 % 256 = x % 256 := by
  show IntKind.i64.wrap ((BitVec.ofInt 64 x &&& BitVec.ofInt 64 255).toNat : Int) % 256 = _
  have e : (BitVec.ofInt 64 x &&& BitVec.ofInt 64 255).toNat = (x % 256).toNat := by
    rw [BitVec.toNat_and, show (BitVec.ofInt 64 255).toNat = 2 ^ 8 - 1 from by decide, Nat.and_two_pow_sub_one_eq_mod, BitVec.toNat_ofInt]
    omega
  rw [e, IntKind.wrap_i64]
  omega
/-- The bytes of an op. -/
def insL (o d s f m z : Int) : List Int := [o % 256, (d * 16 + s + 1) % 256, f % 256, z % 256, m % 256, m / 256 % 256, m / 65536 % 256, m / 16777216 % 256]
theorem shr_int (m : Nat) (k : Nat) (hk : k ≤ 64) : shr .i64 (m : Int) (k : Int) = (m : Int) / ((2 ^ k : Nat) : Int) := by rw [shr_nat m hk, Int.natCast_ediv]
theorem specPut_eq (o s f z : Int) {d m : Int} (hd : 0 ≤ d ∧ d ≤ 10) (hs : -1 ≤ s ∧ s ≤ 10) : spec_l1Put.f o d s f m z = some (strOfNums (insL o d s f m z)) := by
  unfold spec_l1Put.f spec_l1Four.f
  simp only [Option.bind_some, and_255]
  rw [wrap64_id (n := d * 16) (by omega) (by omega), wrap64_id (n := d * 16 + s) (by omega) (by omega), wrap64_id (n := d * 16 + s + 1) (by omega) (by omega), if_pos (by simp only [strOfNums_size, List.length_cons, List.length_nil]; omega), strOfNums_app]
  rfl
theorem implPut_eq {o d s f m z : Int} (h : InsI o d s f m z) {k : Nat} (hk : 5 ≤ k) : impl_InsPut.f k o d s f m z = some (strOfNums (insL o d s f m z)) := by
  obtain ⟨_, hd, hs, _, hm, _⟩ := InsI.range h
  obtain ⟨n, rfl⟩ := Int.eq_ofNat_of_zero_le hm.1
  obtain ⟨k, rfl⟩ : ∃ q, k = q + 5 := ⟨k - 5, by omega⟩
  unfold impl_InsPut.f
  rw [implInsOk_eq, decide_eq_true h]
  simp only [Option.bind_some, if_true]
  rw [wrap64_id (n := d * 16) (by omega) (by omega), wrap64_id (n := d * 16 + s) (by omega) (by omega), wrap64_id (n := d * 16 + s + 1) (by omega) (by omega)]
  have w0 : wrap64 (8 * 0) = ((0 : Nat) : Int) := by unfold wrap64; omega
  have w1 : wrap64 (8 * 1) = ((8 : Nat) : Int) := by unfold wrap64; omega
  have w2 : wrap64 (8 * 2) = ((16 : Nat) : Int) := by unfold wrap64; omega
  have w3 : wrap64 (8 * 3) = ((24 : Nat) : Int) := by unfold wrap64; omega
  have s1 : wrap64 (0 + 1) = 1 := by unfold wrap64; omega
  have s2 : wrap64 (1 + 1) = 2 := by unfold wrap64; omega
  have s3 : wrap64 (2 + 1) = 3 := by unfold wrap64; omega
  have s4 : wrap64 (3 + 1) = 4 := by unfold wrap64; omega
  simp only [impl_InsPut.l0, w0, w1, w2, w3, s1, s2, s3, s4]
  rw [shr_int n 0 (by omega), shr_int n 8 (by omega), shr_int n 16 (by omega), shr_int n 24 (by omega)]
  rw [if_pos (by decide), if_pos (by decide), if_pos (by simp), if_pos (by decide), if_pos (by decide), if_pos (by simp), if_pos (by decide), if_pos (by decide), if_pos (by simp), if_pos (by decide), if_pos (by decide), if_pos (by simp), if_neg (by decide)]
  simp only [List.cons_append, List.nil_append]
  unfold insL
  congr 3
  simp
theorem implPut_no {o d s f m z : Int} (h : ¬ InsI o d s f m z) (k : Nat) : impl_InsPut.f k o d s f m z = some ⟨#[]⟩ := by
  unfold impl_InsPut.f
  rw [implInsOk_eq, decide_eq_false h]; rfl
theorem specInsPut_eq (o d s f m z : Int) : spec_InsPut.f o d s f m z = some (if InsI o d s f m z then strOfNums (insL o d s f m z) else ⟨#[]⟩) := by
  unfold spec_InsPut.f
  rw [specInsOk_eq]
  by_cases h : InsI o d s f m z
  · have hr := InsI.range h
    rw [decide_eq_true h, if_pos h]
    simp only [Option.bind_some, if_true]
    rw [specPut_eq o s f z hr.2.1 hr.2.2.1]; rfl
  · rw [decide_eq_false h, if_neg h]; rfl
theorem implInsPut_eq (o d s f m z : Int) {k : Nat} (hk : 5 ≤ k) : impl_InsPut.f k o d s f m z = some (if InsI o d s f m z then strOfNums (insL o d s f m z) else ⟨#[]⟩) := by
  by_cases h : InsI o d s f m z
  · rw [if_pos h, implPut_eq h hk]
  · rw [if_neg h, implPut_no h]

theorem FnExactInsPut : laws_FnExactInsPut.Pure := by
  intro o d s f m z _ _ _ _ _ _
  refine ⟨5, ?_⟩
  unfold laws_FnExactInsPut.f laws_toIns.f
  simp only [specInsPut_eq, implInsPut_eq o d s f m z (Nat.le_refl 5), Option.bind_some, if_true]

end Go.Proofs.Ytadmldopkllhdaa.Pure
