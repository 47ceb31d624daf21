/- The law FnExactInsGet, as a statement about numbers and lists alone: the program and the reference read the same op from bytes. It holds at every input. -/
import Derived.Test.YtadmldopkllhdaaQ13
import Derived.Test.YtadmldopkllhdaaMath
namespace Go.Proofs.Ytadmldopkllhdaa.Pure
open Go Go.RowKit Go.Proofs.Ytadmldopkllhdaa.Q Go.Proofs.YtadmldopkllhdaaW.PrintWords Go.Proofs.YtadmldopkllhdaaW.PrintLast Go.Proofs.YtadmldopkllhdaaW.PrintMore Rg

theorem l1In_eq (a b c : Int) : spec_l1In.f a b c = some (decide (b ≤ a ∧ a ≤ c)) := by
  unfold spec_l1In.f
  by_cases h : a ≥ b
  · rw [if_pos h]; simp [show b ≤ a from h]
  · rw [if_neg h]; simp [show ¬ b ≤ a from h]
theorem within_eq (a b c : Int) : impl_within.f a b c = some (decide (b ≤ a ∧ a ≤ c)) := by
  unfold impl_within.f
  by_cases h : a ≥ b
  · rw [if_pos h]; simp [show b ≤ a from h]
  · rw [if_neg h]; simp [show ¬ b ≤ a from h]
theorem numOk_eq (a : Int) : impl_numOk.f a = some (decide (0 ≤ a ∧ a ≤ 4294967295)) := by
  unfold impl_numOk.f
  rw [within_eq]; rfl
/-- A register, or a number in its place. -/
def EitherI (s m : Int) : Prop := (0 ≤ s ∧ s ≤ 10 ∧ m = 0) ∨ (s = -1 ∧ 0 ≤ m ∧ m ≤ 4294967295)
/-- How many bytes are loaded or stored. -/
def SizeI (z : Int) : Prop := z = 1 ∨ z = 2 ∨ z = 4
/-- An op that is ok. -/
def InsI (o d s f m z : Int) : Prop :=
  if 1 ≤ o ∧ o ≤ 11 then (0 ≤ d ∧ d ≤ 10) ∧ EitherI s m ∧ f = 0 ∧ z = 0
  else if 12 ≤ o ∧ o ≤ 15 then (0 ≤ d ∧ d ≤ 10) ∧ EitherI s m ∧ (-128 ≤ f ∧ f ≤ 127) ∧ z = 0
  else if o = 16 then (-128 ≤ f ∧ f ≤ 127) ∧ d = 0 ∧ s = -1 ∧ m = 0 ∧ z = 0
  else if o = 17 then (0 ≤ d ∧ d ≤ 10) ∧ (0 ≤ s ∧ s ≤ 10) ∧ m = 0 ∧ (-128 ≤ f ∧ f ≤ 127) ∧ SizeI z
  else if o = 18 then (0 ≤ d ∧ d ≤ 10) ∧ EitherI s m ∧ (-128 ≤ f ∧ f ≤ 127) ∧ SizeI z
  else if o = 19 then (1 ≤ m ∧ m ≤ 6) ∧ d = 0 ∧ s = -1 ∧ f = 0 ∧ z = 0
  else o = 20 ∧ d = 0 ∧ s = -1 ∧ f = 0 ∧ m = 0 ∧ z = 0
instance EitherI_dec (s m : Int) : Decidable (EitherI s m) := by unfold EitherI; exact inferInstance
instance SizeI_dec (z : Int) : Decidable (SizeI z) := by unfold SizeI; exact inferInstance
instance InsI_dec (o d s f m z : Int) : Decidable (InsI o d s f m z) := by unfold InsI; exact inferInstance
theorem some_eq_dec {b : Bool} {p : Prop} [Decidable p] (h : b = true ↔ p) : some b = some (decide p) := by
  congr 1
  rw [Bool.eq_iff_iff, h, decide_eq_true_eq]
theorem InsI.range {o d s f m z : Int} (h : InsI o d s f m z) : (1 ≤ o ∧ o ≤ 20) ∧ (0 ≤ d ∧ d ≤ 10) ∧ (-1 ≤ s ∧ s ≤ 10) ∧ (-128 ≤ f ∧ f ≤ 127) ∧ (0 ≤ m ∧ m ≤ 4294967295) ∧ (0 ≤ z ∧ z ≤ 4) := by
  unfold InsI EitherI SizeI at h
  repeat' split at h
  all_goals omega
theorem reckons_eq (o : Int) : impl_kind_reckons.f o = some (decide (1 ≤ o ∧ o ≤ 11)) := by unfold impl_kind_reckons.f; simp only [within_eq, Option.bind_some]
theorem asks_eq (o : Int) : impl_kind_asks.f o = some (decide (12 ≤ o ∧ o ≤ 15)) := by unfold impl_kind_asks.f; simp only [within_eq, Option.bind_some]
theorem regOk_eq (d : Int) : impl_regOk.f d = some (decide (0 ≤ d ∧ d ≤ 10)) := by unfold impl_regOk.f; simp only [within_eq, Option.bind_some]
theorem sizeOk_eq (z : Int) : impl_sizeOk.f z = some (decide (SizeI z)) := by
  unfold impl_sizeOk.f
  repeat' split
  all_goals (apply some_eq_dec; unfold SizeI; simp only [beq_iff_eq, true_iff]; omega)
theorem either_eq (o d s f m z : Int) : impl_Ins_either.f o d s f m z = some (decide (EitherI s m)) := by
  unfold impl_Ins_either.f
  simp only [regOk_eq, numOk_eq, Option.bind_some, decide_eq_true_eq]
  repeat' split
  all_goals (apply some_eq_dec; unfold EitherI; simp only [decide_eq_true_eq, true_iff, Bool.false_eq_true, false_iff]; omega)
theorem implInsOk_eq (o d s f m z : Int) : impl_InsOk.f o d s f m z = some (decide (InsI o d s f m z)) := by
  unfold impl_InsOk.f
  simp only [within_eq, regOk_eq, reckons_eq, asks_eq, sizeOk_eq, either_eq, Option.bind_some, decide_eq_true_eq]
  by_cases h1 : 1 ≤ o ∧ o ≤ 11
  · unfold InsI; simp only [h1, and_self, if_true]
    repeat' split
    all_goals (apply some_eq_dec; simp_all; try (intros; omega))
  by_cases h2 : 12 ≤ o ∧ o ≤ 15
  · unfold InsI; simp only [h1, h2, and_self, if_true, if_false]
    repeat' split
    all_goals (apply some_eq_dec; simp_all; try (intros; omega))
  by_cases h3 : o = 16
  · subst h3; unfold InsI; simp only [h1, h2, if_true, if_false]
    repeat' split
    all_goals (apply some_eq_dec; simp_all; try (intros; omega))
  by_cases h4 : o = 17
  · subst h4; unfold InsI; simp only [h1, h2, h3, if_true, if_false]
    repeat' split
    all_goals (apply some_eq_dec; simp_all; try (intros; omega))
  by_cases h5 : o = 18
  · subst h5; unfold InsI; simp only [h1, h2, h3, h4, if_true, if_false]
    repeat' split
    all_goals (apply some_eq_dec; simp_all; try (intros; omega))
  by_cases h6 : o = 19
  · subst h6; unfold InsI; simp only [h1, h2, h3, h4, h5, if_true, if_false]
    repeat' split
    all_goals (apply some_eq_dec; simp_all; try (intros; omega))
  · unfold InsI; simp only [h1, h2, h3, h4, h5, h6, if_false]
    apply some_eq_dec
    simp
theorem specBare_eq (o d s f m z : Int) (hs : -1 ≤ s ∧ s ≤ 10) (hd : 0 ≤ d ∧ d ≤ 10) (hf : -128 ≤ f ∧ f ≤ 127) (hm : 0 ≤ m ∧ m ≤ 4294967295) : spec_l1Bare.f o d s f m z = some (decide (InsI o d s f m z)) := by
  have he : EitherI s m ↔ (s < 0 ∨ m = 0) := by unfold EitherI; omega
  have hr : (0 ≤ s ∧ s ≤ 10) ↔ s ≥ 0 := by omega
  unfold spec_l1Bare.f spec_l1Alu.f spec_l1Jump.f
  simp only [l1In_eq, Option.bind_some, decide_eq_true_eq]
  by_cases h1 : 1 ≤ o ∧ o ≤ 11
  · unfold InsI; simp only [h1, he, hr, hd, hf, and_self, if_true, true_and]
    repeat' split
    all_goals (apply some_eq_dec; simp_all; try (intros; omega))
  by_cases h2 : 12 ≤ o ∧ o ≤ 15
  · unfold InsI; simp only [h1, h2, he, hr, hd, hf, and_self, if_true, if_false, true_and]
    repeat' split
    all_goals (apply some_eq_dec; simp_all; try (intros; omega))
  by_cases h3 : o = 16
  · subst h3; unfold InsI; simp only [h1, h2, hf, and_self, if_true, if_false, true_and]
    repeat' split
    all_goals (apply some_eq_dec; simp_all; try (intros; omega))
  by_cases h4 : o = 17
  · subst h4; unfold InsI SizeI; simp only [h1, h2, h3, hr, hd, hf, and_self, if_true, if_false, true_and]
    repeat' split
    all_goals (apply some_eq_dec; simp_all; try (intros; omega))
  by_cases h5 : o = 18
  · subst h5; unfold InsI SizeI; simp only [h1, h2, h3, h4, he, hd, hf, and_self, if_true, if_false, true_and]
    repeat' split
    all_goals (apply some_eq_dec; simp_all; try (intros; omega))
  by_cases h6 : o = 19
  · subst h6; unfold InsI; simp only [h1, h2, h3, h4, h5, if_true, if_false]
    repeat' split
    all_goals (apply some_eq_dec; simp_all; try (intros; omega))
  · unfold InsI; simp only [h1, h2, h3, h4, h5, h6, if_false]
    repeat' split
    all_goals (apply some_eq_dec; simp_all; try (intros; omega))
theorem specInsOk_eq (o d s f m z : Int) : spec_l1InsOk.f o d s f m z = some (decide (InsI o d s f m z)) := by
  unfold spec_l1InsOk.f
  simp only [l1In_eq, Option.bind_some, decide_eq_true_eq]
  by_cases h1 : 0 ≤ d ∧ d ≤ 10
  · by_cases h2 : -1 ≤ s ∧ s ≤ 10
    · by_cases h3 : -128 ≤ f ∧ f ≤ 127
      · by_cases h4 : 0 ≤ m ∧ m ≤ 4294967295
        · rw [if_pos h1, if_pos h2, if_pos h3, if_pos h4, specBare_eq o d s f m z h2 h1 h3 h4]; rfl
        · rw [if_pos h1, if_pos h2, if_pos h3, if_neg h4, decide_eq_false (fun x => h4 (InsI.range x).2.2.2.2.1)]
      · rw [if_pos h1, if_pos h2, if_neg h3, decide_eq_false (fun x => h3 (InsI.range x).2.2.2.1)]
    · rw [if_pos h1, if_neg h2, decide_eq_false (fun x => h2 (InsI.range x).2.2.1)]
  · rw [if_neg h1, decide_eq_false (fun x => h1 (InsI.range x).2.1)]
theorem strOfNums_app (a b : List Int) : strOfNums a ++ strOfNums b = strOfNums (a ++ b) := by
  apply ByteArray.ext
  unfold strOfNums
  simp [ByteArray.data_append]
theorem and_255 (x : Int) : Go.bits .and .i64 x 255 % 256 = x % 256 := by
  show IntKind.i64.wrap ((BitVec.ofInt 64 x &&& BitVec.ofInt 64 255).toNat : Int) % 256 = _
  have e : (BitVec.ofInt 64 x &&& BitVec.ofInt 64 255).toNat = (x % 256).toNat := by
    rw [BitVec.toNat_and, show (BitVec.ofInt 64 255).toNat = 2 ^ 8 - 1 from by decide, Nat.and_two_pow_sub_one_eq_mod, BitVec.toNat_ofInt]
    omega
  rw [e, IntKind.wrap_i64]
  omega
/-- The bytes of an op. -/
def insL (o d s f m z : Int) : List Int := [o % 256, (d * 16 + s + 1) % 256, f % 256, z % 256, m % 256, m / 256 % 256, m / 65536 % 256, m / 16777216 % 256]
theorem shr_int (m : Nat) (k : Nat) (hk : k ≤ 64) : shr .i64 (m : Int) (k : Int) = (m : Int) / ((2 ^ k : Nat) : Int) := by rw [shr_nat m hk, Int.natCast_ediv]
theorem specPut_eq (o s f z : Int) {d m : Int} (hd : 0 ≤ d ∧ d ≤ 10) (hs : -1 ≤ s ∧ s ≤ 10) : spec_l1Put.f o d s f m z = some (strOfNums (insL o d s f m z)) := by
  unfold spec_l1Put.f spec_l1Four.f
  simp only [Option.bind_some, and_255]
  rw [wrap64_id (n := d * 16) (by omega) (by omega), wrap64_id (n := d * 16 + s) (by omega) (by omega), wrap64_id (n := d * 16 + s + 1) (by omega) (by omega), if_pos (by simp only [strOfNums_size, List.length_cons, List.length_nil]; omega), strOfNums_app]
  rfl
theorem implPut_eq {o d s f m z : Int} (h : InsI o d s f m z) {k : Nat} (hk : 5 ≤ k) : impl_InsPut.f k o d s f m z = some (strOfNums (insL o d s f m z)) := by
  obtain ⟨_, hd, hs, _, hm, _⟩ := InsI.range h
  obtain ⟨n, rfl⟩ := Int.eq_ofNat_of_zero_le hm.1
  obtain ⟨k, rfl⟩ : ∃ q, k = q + 5 := ⟨k - 5, by omega⟩
  unfold impl_InsPut.f
  rw [implInsOk_eq, decide_eq_true h]
  simp only [Option.bind_some, if_true]
  rw [wrap64_id (n := d * 16) (by omega) (by omega), wrap64_id (n := d * 16 + s) (by omega) (by omega), wrap64_id (n := d * 16 + s + 1) (by omega) (by omega)]
  have w0 : wrap64 (8 * 0) = ((0 : Nat) : Int) := by unfold wrap64; omega
  have w1 : wrap64 (8 * 1) = ((8 : Nat) : Int) := by unfold wrap64; omega
  have w2 : wrap64 (8 * 2) = ((16 : Nat) : Int) := by unfold wrap64; omega
  have w3 : wrap64 (8 * 3) = ((24 : Nat) : Int) := by unfold wrap64; omega
  have s1 : wrap64 (0 + 1) = 1 := by unfold wrap64; omega
  have s2 : wrap64 (1 + 1) = 2 := by unfold wrap64; omega
  have s3 : wrap64 (2 + 1) = 3 := by unfold wrap64; omega
  have s4 : wrap64 (3 + 1) = 4 := by unfold wrap64; omega
  simp only [impl_InsPut.l0, w0, w1, w2, w3, s1, s2, s3, s4]
  rw [shr_int n 0 (by omega), shr_int n 8 (by omega), shr_int n 16 (by omega), shr_int n 24 (by omega)]
  rw [if_pos (by decide), if_pos (by decide), if_pos (by simp), if_pos (by decide), if_pos (by decide), if_pos (by simp), if_pos (by decide), if_pos (by decide), if_pos (by simp), if_pos (by decide), if_pos (by decide), if_pos (by simp), if_neg (by decide)]
  simp only [List.cons_append, List.nil_append]
  unfold insL
  congr 3
  simp
theorem bt_range (s : ByteArray) (i : Int) : 0 ≤ bt s i ∧ bt s i ≤ 255 := by
  unfold bt
  split
  · rename_i h
    have := (s[i.toNat]'h).toNat_lt
    omega
  · omega
/-- The op that bytes tell. -/
def decO (s : ByteArray) : Int := bt s 0
def decD (s : ByteArray) : Int := bt s 1 / 16
def decS (s : ByteArray) : Int := bt s 1 % 16 - 1
def decF (s : ByteArray) : Int := if bt s 2 > 127 then bt s 2 - 256 else bt s 2
def decM (s : ByteArray) : Int := bt s 4 + bt s 5 * 256 + bt s 6 * 65536 + bt s 7 * 16777216
def decZ (s : ByteArray) : Int := bt s 3
theorem or_shift {a b k : Nat} (ha : a < 2 ^ k) (hk : k ≤ 32) (hb : b < 256) : Go.bits .or .i64 (a : Int) ((b * 2 ^ k : Nat) : Int) = ((a + b * 2 ^ k : Nat) : Int) := by
  have h1 := Nat.pow_le_pow_right (n := 2) (by decide) hk
  have h2 : b * 2 ^ k ≤ 255 * 4294967296 := Nat.mul_le_mul (by omega) h1
  rw [bor (by omega) (by omega), Nat.or_comm, Nat.add_comm, Nat.mul_comm, ← Nat.two_pow_add_eq_or_of_lt ha b]
theorem decM_or {b4 b5 b6 b7 : Int} (h4 : 0 ≤ b4 ∧ b4 ≤ 255) (h5 : 0 ≤ b5 ∧ b5 ≤ 255) (h6 : 0 ≤ b6 ∧ b6 ≤ 255) (h7 : 0 ≤ b7 ∧ b7 ≤ 255) :
    Go.bits .or .i64 (Go.bits .or .i64 (Go.bits .or .i64 b4 (b5 * 256)) (b6 * 65536)) (b7 * 16777216) = b4 + b5 * 256 + b6 * 65536 + b7 * 16777216 := by
  obtain ⟨x4, rfl⟩ := Int.eq_ofNat_of_zero_le h4.1
  obtain ⟨x5, rfl⟩ := Int.eq_ofNat_of_zero_le h5.1
  obtain ⟨x6, rfl⟩ := Int.eq_ofNat_of_zero_le h6.1
  obtain ⟨x7, rfl⟩ := Int.eq_ofNat_of_zero_le h7.1
  have e1 := or_shift (a := x4) (b := x5) (k := 8) (by omega) (by omega) (by omega)
  have e2 := or_shift (a := x4 + x5 * 2 ^ 8) (b := x6) (k := 16) (by omega) (by omega) (by omega)
  have e3 := or_shift (a := x4 + x5 * 2 ^ 8 + x6 * 2 ^ 16) (b := x7) (k := 24) (by omega) (by omega) (by omega)
  rw [show (x5 : Int) * 256 = ((x5 * 2 ^ 8 : Nat) : Int) by omega, show (x6 : Int) * 65536 = ((x6 * 2 ^ 16 : Nat) : Int) by omega, show (x7 : Int) * 16777216 = ((x7 * 2 ^ 24 : Nat) : Int) by omega, e1, e2, e3]
  omega
theorem specGet_eq {s : ByteArray} (h : (s.size : Int) = 8) : spec_l1Get.f s = some (decO s, decD s, decS s, decF s, decM s, decZ s) := by
  unfold spec_l1Get.f decO decD decS decF decM decZ
  have r0 := bt_range s 0
  have r1 := bt_range s 1
  have r2 := bt_range s 2
  have r3 := bt_range s 3
  have r4 := bt_range s 4
  have r5 := bt_range s 5
  have r6 := bt_range s 6
  have r7 := bt_range s 7
  rw [wrap64_id (n := bt s 0) (by omega) (by omega), wrap64_id (n := bt s 1) (by omega) (by omega), wrap64_id (n := bt s 2) (by omega) (by omega), wrap64_id (n := bt s 3) (by omega) (by omega), wrap64_id (n := bt s 4) (by omega) (by omega), wrap64_id (n := bt s 5) (by omega) (by omega), wrap64_id (n := bt s 6) (by omega) (by omega), wrap64_id (n := bt s 7) (by omega) (by omega)]
  rw [wrap64_id (n := bt s 5 * 256) (by omega) (by omega), wrap64_id (n := bt s 6 * 65536) (by omega) (by omega), wrap64_id (n := bt s 7 * 16777216) (by omega) (by omega), decM_or r4 r5 r6 r7, Int.tdiv_eq_ediv_of_nonneg r1.1, Int.tmod_eq_emod_of_nonneg r1.1]
  rw [wrap64_id (n := bt s 1 / 16) (by omega) (by omega), wrap64_id (n := bt s 1 % 16 - 1) (by omega) (by omega), wrap64_id (n := bt s 2 - 256) (by omega) (by omega)]
  rw [h]
  by_cases c : bt s 2 > 127
  · simp [c]
  · simp [c]
theorem shl_byte {b : Int} (h : 0 ≤ b ∧ b ≤ 255) {k : Nat} (hk : k ≤ 24) : shl .i64 b (k : Int) = b * ((2 ^ k : Nat) : Int) := by
  obtain ⟨x, rfl⟩ := Int.eq_ofNat_of_zero_le h.1
  have h1 := Nat.pow_le_pow_right (n := 2) (by decide) hk
  have h2 : x * 2 ^ k ≤ 255 * 2 ^ 24 := Nat.mul_le_mul (by omega) h1
  rw [shl_nat (by omega) (by omega), Int.natCast_mul]
/-- What reading an op answers. -/
def getO (s : ByteArray) : Int × Int × Int × Int × Int × Int × Bool :=
  if (s.size : Int) = 8 ∧ InsI (decO s) (decD s) (decS s) (decF s) (decM s) (decZ s) ∧ (strOfNums (insL (decO s) (decD s) (decS s) (decF s) (decM s) (decZ s))).toList = s.toList
  then (decO s, decD s, decS s, decF s, decM s, decZ s, true) else (0, 0, 0, 0, 0, 0, false)
theorem specInsGet_eq (s : ByteArray) : spec_InsGet.f s = some (getO s) := by
  unfold spec_InsGet.f getO
  by_cases h : (s.size : Int) = 8
  · rw [if_pos h, specGet_eq h]
    simp only [Option.bind_some, specInsOk_eq, decide_eq_true_eq]
    by_cases hi : InsI (decO s) (decD s) (decS s) (decF s) (decM s) (decZ s)
    · have hr := InsI.range hi
      rw [if_pos hi, specPut_eq _ _ _ _ hr.2.1 hr.2.2.1]
      simp only [Option.bind_some]
      by_cases e : (strOfNums (insL (decO s) (decD s) (decS s) (decF s) (decM s) (decZ s))).toList = s.toList
      · rw [if_pos e, if_pos ⟨h, hi, e⟩]
      · rw [if_neg e, if_neg (fun x => e x.2.2)]
    · rw [if_neg hi, if_neg (fun x => hi x.2.1)]
  · rw [if_neg h, if_neg (fun x => h x.1)]
theorem i8_eq (b : Int) : IntKind.i8.wrap b = if b % 256 ≥ 128 then b % 256 - 256 else b % 256 := by
  unfold IntKind.wrap
  simp [IntKind.bits, IntKind.signed]
theorem implInsGet_eq (s : ByteArray) {k : Nat} (hk : 10 ≤ k) : impl_InsGet.f k s = some (getO s) := by
  obtain ⟨k, rfl⟩ : ∃ q, k = q + 10 := ⟨k - 10, by omega⟩
  unfold impl_InsGet.f getO
  by_cases h : (s.size : Int) = 8
  · rw [if_pos h, if_pos (by omega), if_pos (by omega), if_pos (by omega), if_pos (by omega)]
    have r0 := bt_range s 0
    have r1 := bt_range s 1
    have r2 := bt_range s 2
    have r3 := bt_range s 3
    have r4 := bt_range s 4
    have r5 := bt_range s 5
    have r6 := bt_range s 6
    have r7 := bt_range s 7
    have i0 : wrap64 (4 + 0) = 4 := by unfold wrap64; omega
    have i1 : wrap64 (4 + 1) = 5 := by unfold wrap64; omega
    have i2 : wrap64 (4 + 2) = 6 := by unfold wrap64; omega
    have i3 : wrap64 (4 + 3) = 7 := by unfold wrap64; omega
    have w0 : wrap64 (8 * 0) = ((0 : Nat) : Int) := by unfold wrap64; omega
    have w1 : wrap64 (8 * 1) = ((8 : Nat) : Int) := by unfold wrap64; omega
    have w2 : wrap64 (8 * 2) = ((16 : Nat) : Int) := by unfold wrap64; omega
    have w3 : wrap64 (8 * 3) = ((24 : Nat) : Int) := by unfold wrap64; omega
    have s1 : wrap64 (0 + 1) = 1 := by unfold wrap64; omega
    have s2 : wrap64 (1 + 1) = 2 := by unfold wrap64; omega
    have s3 : wrap64 (2 + 1) = 3 := by unfold wrap64; omega
    have s4 : wrap64 (3 + 1) = 4 := by unfold wrap64; omega
    simp only [impl_InsGet.l0, i0, i1, i2, i3, w0, w1, w2, w3, s1, s2, s3, s4]
    rw [if_pos (by decide), if_pos (by decide), if_pos (by omega), if_pos (by decide), if_pos (by decide), if_pos (by decide), if_pos (by omega), if_pos (by decide), if_pos (by decide), if_pos (by decide), if_pos (by omega), if_pos (by decide), if_pos (by decide), if_pos (by decide), if_pos (by omega), if_pos (by decide), if_neg (by decide)]
    rw [wrap64_id (n := bt s 0) (by omega) (by omega), wrap64_id (n := bt s 3) (by omega) (by omega), wrap64_id (n := bt s 4) (by omega) (by omega), wrap64_id (n := bt s 5) (by omega) (by omega), wrap64_id (n := bt s 6) (by omega) (by omega), wrap64_id (n := bt s 7) (by omega) (by omega)]
    rw [shl_byte r4 (k := 0) (by omega), shl_byte r5 (k := 8) (by omega), shl_byte r6 (k := 16) (by omega), shl_byte r7 (k := 24) (by omega)]
    have z0 : Go.bits .or .i64 0 (bt s 4 * ((2 ^ 0 : Nat) : Int)) = bt s 4 := by
      obtain ⟨x, hx⟩ := Int.eq_ofNat_of_zero_le r4.1
      rw [hx, show (x : Int) * ((2 ^ 0 : Nat) : Int) = (x : Int) by simp, show (0 : Int) = ((0 : Nat) : Int) from rfl, bor (by decide) (by omega), Nat.zero_or]
    have eM : Go.bits .or .i64 (Go.bits .or .i64 (Go.bits .or .i64 (Go.bits .or .i64 0 (bt s 4 * ((2 ^ 0 : Nat) : Int))) (bt s 5 * ((2 ^ 8 : Nat) : Int))) (bt s 6 * ((2 ^ 16 : Nat) : Int))) (bt s 7 * ((2 ^ 24 : Nat) : Int)) = decM s := by
      rw [z0]; exact decM_or r4 r5 r6 r7
    have eD : Int.tdiv (bt s 1) 16 % 256 = decD s := by unfold decD; rw [Int.tdiv_eq_ediv_of_nonneg r1.1]; omega
    have eS : wrap64 (wrap64 (Int.tmod (bt s 1) 16) - 1) = decS s := by
      unfold decS
      rw [Int.tmod_eq_emod_of_nonneg r1.1, wrap64_id (n := bt s 1 % 16) (by omega) (by omega), wrap64_id (by omega) (by omega)]
    have eF : wrap64 (IntKind.i8.wrap (bt s 2)) = decF s := by
      unfold decF
      rw [i8_eq]
      by_cases c : bt s 2 > 127
      · rw [if_pos (by omega), if_pos c]; unfold wrap64; omega
      · rw [if_neg (by omega), if_neg c]; unfold wrap64; omega
    rw [eM, eD, eS, eF, implInsOk_eq]
    simp only [Option.bind_some, decide_eq_true_eq]
    show (if InsI (decO s) (decD s) (decS s) (decF s) (decM s) (decZ s) then _ else _) = _
    by_cases hi : InsI (decO s) (decD s) (decS s) (decF s) (decM s) (decZ s)
    · rw [if_pos hi]
      have := implPut_eq hi (k := k + 5) (by omega)
      show (impl_InsPut.f (k + 5) (decO s) (decD s) (decS s) (decF s) (decM s) (decZ s)).bind _ = _
      rw [this]
      simp only [Option.bind_some]
      by_cases e : (strOfNums (insL (decO s) (decD s) (decS s) (decF s) (decM s) (decZ s))).toList = s.toList
      · rw [if_pos e, if_pos ⟨h, hi, e⟩]; rfl
      · rw [if_neg e, if_neg (fun x => e x.2.2)]
    · rw [if_neg hi, if_neg (fun x => hi x.2.1)]
  · rw [if_neg h, if_neg (fun x => h x.1)]
theorem eqIns_self (a b c d e f : Int) : laws_eqIns.f a b c d e f a b c d e f = some true := by
  unfold laws_eqIns.f
  simp

theorem FnExactInsGet : laws_FnExactInsGet.Pure := by
  intro s _
  refine ⟨10, ?_⟩
  unfold laws_FnExactInsGet.f
  split
  · rfl
  · simp only [specInsGet_eq, implInsGet_eq s (Nat.le_refl 10), Option.bind_some, eqIns_self, if_true, bne_self_eq_false, Bool.false_eq_true, if_false]

end Go.Proofs.Ytadmldopkllhdaa.Pure
