/- The law FnExactProgGet, as a statement about numbers and lists alone: the program and the reference read the same program from bytes, and what is read is its own. It holds at every input. -/
import Derived.Test.YtdfgaaeieneaoaaQ12
import Derived.Test.YtdfgaaeieneaoaaMath
namespace Go.Proofs.Ytdfgaaeieneaoaa.Pure
open Go Go.RowKit Go.Proofs.Ytdfgaaeieneaoaa.Q Go.Proofs.YtdfgaaeieneaoaaW.PrintWords Go.Proofs.YtdfgaaeieneaoaaW.PrintLast Go.Proofs.YtdfgaaeieneaoaaW.PrintMore Rg

theorem l1In_eq (a b c : Int) : spec_l1In.f a b c = some (decide (b ≤ a ∧ a ≤ c)) := by
  unfold spec_l1In.f
  by_cases h : a ≥ b
  · rw [if_pos h]; simp [show b ≤ a from h]
  · rw [if_neg h]; simp [show ¬ b ≤ a from h]
theorem within_eq (a b c : Int) : impl_within.f a b c = some (decide (b ≤ a ∧ a ≤ c)) := by
  unfold impl_within.f
  by_cases h : a ≥ b
  · rw [if_pos h]; simp [show b ≤ a from h]
  · rw [if_neg h]; simp [show ¬ b ≤ a from h]
theorem numOk_eq (a : Int) : impl_numOk.f a = some (decide (0 ≤ a ∧ a ≤ 4294967295)) := by
  unfold impl_numOk.f
  rw [within_eq]; rfl
/-- A register, or a number in its place. -/
def EitherI (s m : Int) : Prop := (0 ≤ s ∧ s ≤ 10 ∧ m = 0) ∨ (s = -1 ∧ 0 ≤ m ∧ m ≤ 4294967295)
/-- How many bytes are loaded or stored. -/
def SizeI (z : Int) : Prop := z = 1 ∨ z = 2 ∨ z = 4
/-- An op that is ok. -/
def InsI (o d s f m z : Int) : Prop :=
  if 1 ≤ o ∧ o ≤ 11 then (0 ≤ d ∧ d ≤ 10) ∧ EitherI s m ∧ f = 0 ∧ z = 0
  else if 12 ≤ o ∧ o ≤ 15 then (0 ≤ d ∧ d ≤ 10) ∧ EitherI s m ∧ (-128 ≤ f ∧ f ≤ 127) ∧ z = 0
  else if o = 16 then (-128 ≤ f ∧ f ≤ 127) ∧ d = 0 ∧ s = -1 ∧ m = 0 ∧ z = 0
  else if o = 17 then (0 ≤ d ∧ d ≤ 10) ∧ (0 ≤ s ∧ s ≤ 10) ∧ m = 0 ∧ (-128 ≤ f ∧ f ≤ 127) ∧ SizeI z
  else if o = 18 then (0 ≤ d ∧ d ≤ 10) ∧ EitherI s m ∧ (-128 ≤ f ∧ f ≤ 127) ∧ SizeI z
  else if o = 19 then (1 ≤ m ∧ m ≤ 6) ∧ d = 0 ∧ s = -1 ∧ f = 0 ∧ z = 0
  else o = 20 ∧ d = 0 ∧ s = -1 ∧ f = 0 ∧ m = 0 ∧ z = 0
instance EitherI_dec (s m : Int) : Decidable (EitherI s m) := by unfold EitherI; exact inferInstance
instance SizeI_dec (z : Int) : Decidable (SizeI z) := by unfold SizeI; exact inferInstance
instance InsI_dec (o d s f m z : Int) : Decidable (InsI o d s f m z) := by unfold InsI; exact inferInstance
theorem some_eq_dec {b : Bool} {p : Prop} [Decidable p] (h : b = true ↔ p) : some b = some (decide p) := by
  congr 1
  rw [Bool.eq_iff_iff, h, decide_eq_true_eq]
theorem InsI.range {o d s f m z : Int} (h : InsI o d s f m z) : (1 ≤ o ∧ o ≤ 20) ∧ (0 ≤ d ∧ d ≤ 10) ∧ (-1 ≤ s ∧ s ≤ 10) ∧ (-128 ≤ f ∧ f ≤ 127) ∧ (0 ≤ m ∧ m ≤ 4294967295) ∧ (0 ≤ z ∧ z ≤ 4) := by
  unfold InsI EitherI SizeI at h
  repeat' split at h
  all_goals omega
theorem reckons_eq (o : Int) : impl_kind_reckons.f o = some (decide (1 ≤ o ∧ o ≤ 11)) := by unfold impl_kind_reckons.f; simp only [within_eq, Option.bind_some]
theorem asks_eq (o : Int) : impl_kind_asks.f o = some (decide (12 ≤ o ∧ o ≤ 15)) := by unfold impl_kind_asks.f; simp only [within_eq, Option.bind_some]
theorem regOk_eq (d : Int) : impl_regOk.f d = some (decide (0 ≤ d ∧ d ≤ 10)) := by unfold impl_regOk.f; simp only [within_eq, Option.bind_some]
theorem sizeOk_eq (z : Int) : impl_sizeOk.f z = some (decide (SizeI z)) := by
  unfold impl_sizeOk.f
  repeat' split
  all_goals (apply some_eq_dec; unfold SizeI; simp only [beq_iff_eq, true_iff]; omega)
theorem either_eq (o d s f m z : Int) : impl_Ins_either.f o d s f m z = some (decide (EitherI s m)) := by
  unfold impl_Ins_either.f
  simp only [regOk_eq, numOk_eq, Option.bind_some, decide_eq_true_eq]
  repeat' split
  all_goals (apply some_eq_dec; unfold EitherI; simp only [decide_eq_true_eq, true_iff, Bool.false_eq_true, false_iff]; omega)
theorem implInsOk_eq (o d s f m z : Int) : impl_InsOk.f o d s f m z = some (decide (InsI o d s f m z)) := by
  unfold impl_InsOk.f
  simp only [within_eq, regOk_eq, reckons_eq, asks_eq, sizeOk_eq, either_eq, Option.bind_some, decide_eq_true_eq]
  by_cases h1 : 1 ≤ o ∧ o ≤ 11
  · unfold InsI; simp only [h1, and_self, if_true]
    repeat' split
    all_goals (apply some_eq_dec; simp_all; try (intros; omega))
  by_cases h2 : 12 ≤ o ∧ o ≤ 15
  · unfold InsI; simp only [h1, h2, and_self, if_true, if_false]
    repeat' split
    all_goals (apply some_eq_dec; simp_all; try (intros; omega))
  by_cases h3 : o = 16
  · subst h3; unfold InsI; simp only [h1, h2, if_true, if_false]
    repeat' split
    all_goals (apply some_eq_dec; simp_all; try (intros; omega))
  by_cases h4 : o = 17
  · subst h4; unfold InsI; simp only [h1, h2, h3, if_true, if_false]
    repeat' split
    all_goals (apply some_eq_dec; simp_all; try (intros; omega))
  by_cases h5 : o = 18
  · subst h5; unfold InsI; simp only [h1, h2, h3, h4, if_true, if_false]
    repeat' split
    all_goals (apply some_eq_dec; simp_all; try (intros; omega))
  by_cases h6 : o = 19
  · subst h6; unfold InsI; simp only [h1, h2, h3, h4, h5, if_true, if_false]
    repeat' split
    all_goals (apply some_eq_dec; simp_all; try (intros; omega))
  · unfold InsI; simp only [h1, h2, h3, h4, h5, h6, if_false]
    apply some_eq_dec
    simp
theorem specBare_eq (o d s f m z : Int) (hs : -1 ≤ s ∧ s ≤ 10) (hd : 0 ≤ d ∧ d ≤ 10) (hf : -128 ≤ f ∧ f ≤ 127) (hm : 0 ≤ m ∧ m ≤ 4294967295) : spec_l1Bare.f o d s f m z = some (decide (InsI o d s f m z)) := by
  have he : EitherI s m ↔ (s < 0 ∨ m = 0) := by unfold EitherI; omega
  have hr : (0 ≤ s ∧ s ≤ 10) ↔ s ≥ 0 := by omega
  unfold spec_l1Bare.f spec_l1Alu.f spec_l1Jump.f
  simp only [l1In_eq, Option.bind_some, decide_eq_true_eq]
  by_cases h1 : 1 ≤ o ∧ o ≤ 11
  · unfold InsI; simp only [h1, he, hr, hd, hf, and_self, if_true, true_and]
    repeat' split
    all_goals (apply some_eq_dec; simp_all; try (intros; omega))
  by_cases h2 : 12 ≤ o ∧ o ≤ 15
  · unfold InsI; simp only [h1, h2, he, hr, hd, hf, and_self, if_true, if_false, true_and]
    repeat' split
    all_goals (apply some_eq_dec; simp_all; try (intros; omega))
  by_cases h3 : o = 16
  · subst h3; unfold InsI; simp only [h1, h2, hf, and_self, if_true, if_false, true_and]
    repeat' split
    all_goals (apply some_eq_dec; simp_all; try (intros; omega))
  by_cases h4 : o = 17
  · subst h4; unfold InsI SizeI; simp only [h1, h2, h3, hr, hd, hf, and_self, if_true, if_false, true_and]
    repeat' split
    all_goals (apply some_eq_dec; simp_all; try (intros; omega))
  by_cases h5 : o = 18
  · subst h5; unfold InsI SizeI; simp only [h1, h2, h3, h4, he, hd, hf, and_self, if_true, if_false, true_and]
    repeat' split
    all_goals (apply some_eq_dec; simp_all; try (intros; omega))
  by_cases h6 : o = 19
  · subst h6; unfold InsI; simp only [h1, h2, h3, h4, h5, if_true, if_false]
    repeat' split
    all_goals (apply some_eq_dec; simp_all; try (intros; omega))
  · unfold InsI; simp only [h1, h2, h3, h4, h5, h6, if_false]
    repeat' split
    all_goals (apply some_eq_dec; simp_all; try (intros; omega))
theorem specInsOk_eq (o d s f m z : Int) : spec_l1InsOk.f o d s f m z = some (decide (InsI o d s f m z)) := by
  unfold spec_l1InsOk.f
  simp only [l1In_eq, Option.bind_some, decide_eq_true_eq]
  by_cases h1 : 0 ≤ d ∧ d ≤ 10
  · by_cases h2 : -1 ≤ s ∧ s ≤ 10
    · by_cases h3 : -128 ≤ f ∧ f ≤ 127
      · by_cases h4 : 0 ≤ m ∧ m ≤ 4294967295
        · rw [if_pos h1, if_pos h2, if_pos h3, if_pos h4, specBare_eq o d s f m z h2 h1 h3 h4]; rfl
        · rw [if_pos h1, if_pos h2, if_pos h3, if_neg h4, decide_eq_false (fun x => h4 (InsI.range x).2.2.2.2.1)]
      · rw [if_pos h1, if_pos h2, if_neg h3, decide_eq_false (fun x => h3 (InsI.range x).2.2.2.1)]
    · rw [if_pos h1, if_neg h2, decide_eq_false (fun x => h2 (InsI.range x).2.2.1)]
  · rw [if_neg h1, decide_eq_false (fun x => h1 (InsI.range x).2.1)]
theorem strOfNums_app (a b : List Int) : strOfNums a ++ strOfNums b = strOfNums (a ++ b) := by
  apply ByteArray.ext
  unfold strOfNums
  simp [ByteArray.data_append]
theorem and_255 (x : Int) : Go.bits .and .i64 x 255 % 256 = x % 256 := by
  show IntKind.i64.wrap ((BitVec.ofInt 64 x &&& BitVec.ofInt 64 255).toNat : Int) % 256 = _
  have e : (BitVec.ofInt 64 x &&& BitVec.ofInt 64 255).toNat = (x % 256).toNat := by
    rw [BitVec.toNat_and, show (BitVec.ofInt 64 255).toNat = 2 ^ 8 - 1 from by decide, Nat.and_two_pow_sub_one_eq_mod, BitVec.toNat_ofInt]
    omega
  rw [e, IntKind.wrap_i64]
  omega
/-- The bytes of an op. -/
def insL (o d s f m z : Int) : List Int := [o % 256, (d * 16 + s + 1) % 256, f % 256, z % 256, m % 256, m / 256 % 256, m / 65536 % 256, m / 16777216 % 256]
theorem shr_int (m : Nat) (k : Nat) (hk : k ≤ 64) : shr .i64 (m : Int) (k : Int) = (m : Int) / ((2 ^ k : Nat) : Int) := by rw [shr_nat m hk, Int.natCast_ediv]
theorem specPut_eq (o s f z : Int) {d m : Int} (hd : 0 ≤ d ∧ d ≤ 10) (hs : -1 ≤ s ∧ s ≤ 10) : spec_l1Put.f o d s f m z = some (strOfNums (insL o d s f m z)) := by
  unfold spec_l1Put.f spec_l1Four.f
  simp only [Option.bind_some, and_255]
  rw [wrap64_id (n := d * 16) (by omega) (by omega), wrap64_id (n := d * 16 + s) (by omega) (by omega), wrap64_id (n := d * 16 + s + 1) (by omega) (by omega), if_pos (by simp only [strOfNums_size, List.length_cons, List.length_nil]; omega), strOfNums_app]
  rfl
theorem implPut_eq {o d s f m z : Int} (h : InsI o d s f m z) {k : Nat} (hk : 5 ≤ k) : impl_InsPut.f k o d s f m z = some (strOfNums (insL o d s f m z)) := by
  obtain ⟨_, hd, hs, _, hm, _⟩ := InsI.range h
  obtain ⟨n, rfl⟩ := Int.eq_ofNat_of_zero_le hm.1
  obtain ⟨k, rfl⟩ : ∃ q, k = q + 5 := ⟨k - 5, by omega⟩
  unfold impl_InsPut.f
  rw [implInsOk_eq, decide_eq_true h]
  simp only [Option.bind_some, if_true]
  rw [wrap64_id (n := d * 16) (by omega) (by omega), wrap64_id (n := d * 16 + s) (by omega) (by omega), wrap64_id (n := d * 16 + s + 1) (by omega) (by omega)]
  have w0 : wrap64 (8 * 0) = ((0 : Nat) : Int) := by unfold wrap64; omega
  have w1 : wrap64 (8 * 1) = ((8 : Nat) : Int) := by unfold wrap64; omega
  have w2 : wrap64 (8 * 2) = ((16 : Nat) : Int) := by unfold wrap64; omega
  have w3 : wrap64 (8 * 3) = ((24 : Nat) : Int) := by unfold wrap64; omega
  have s1 : wrap64 (0 + 1) = 1 := by unfold wrap64; omega
  have s2 : wrap64 (1 + 1) = 2 := by unfold wrap64; omega
  have s3 : wrap64 (2 + 1) = 3 := by unfold wrap64; omega
  have s4 : wrap64 (3 + 1) = 4 := by unfold wrap64; omega
  simp only [impl_InsPut.l0, w0, w1, w2, w3, s1, s2, s3, s4]
  rw [shr_int n 0 (by omega), shr_int n 8 (by omega), shr_int n 16 (by omega), shr_int n 24 (by omega)]
  rw [if_pos (by decide), if_pos (by decide), if_pos (by simp), if_pos (by decide), if_pos (by decide), if_pos (by simp), if_pos (by decide), if_pos (by decide), if_pos (by simp), if_pos (by decide), if_pos (by decide), if_pos (by simp), if_neg (by decide)]
  simp only [List.cons_append, List.nil_append]
  unfold insL
  congr 3
  simp
theorem bt_range (s : ByteArray) (i : Int) : 0 ≤ bt s i ∧ bt s i ≤ 255 := by
  unfold bt
  split
  · rename_i h
    have := (s[i.toNat]'h).toNat_lt
    omega
  · omega
/-- The op that bytes tell. -/
def decO (s : ByteArray) : Int := bt s 0
def decD (s : ByteArray) : Int := bt s 1 / 16
def decS (s : ByteArray) : Int := bt s 1 % 16 - 1
def decF (s : ByteArray) : Int := if bt s 2 > 127 then bt s 2 - 256 else bt s 2
def decM (s : ByteArray) : Int := bt s 4 + bt s 5 * 256 + bt s 6 * 65536 + bt s 7 * 16777216
def decZ (s : ByteArray) : Int := bt s 3
theorem or_shift {a b k : Nat} (ha : a < 2 ^ k) (hk : k ≤ 32) (hb : b < 256) : Go.bits .or .i64 (a : Int) ((b * 2 ^ k : Nat) : Int) = ((a + b * 2 ^ k : Nat) : Int) := by
  have h1 := Nat.pow_le_pow_right (n := 2) (by decide) hk
  have h2 : b * 2 ^ k ≤ 255 * 4294967296 := Nat.mul_le_mul (by omega) h1
  rw [bor (by omega) (by omega), Nat.or_comm, Nat.add_comm, Nat.mul_comm, ← Nat.two_pow_add_eq_or_of_lt ha b]
theorem decM_or {b4 b5 b6 b7 : Int} (h4 : 0 ≤ b4 ∧ b4 ≤ 255) (h5 : 0 ≤ b5 ∧ b5 ≤ 255) (h6 : 0 ≤ b6 ∧ b6 ≤ 255) (h7 : 0 ≤ b7 ∧ b7 ≤ 255) :
    Go.bits .or .i64 (Go.bits .or .i64 (Go.bits .or .i64 b4 (b5 * 256)) (b6 * 65536)) (b7 * 16777216) = b4 + b5 * 256 + b6 * 65536 + b7 * 16777216 := by
  obtain ⟨x4, rfl⟩ := Int.eq_ofNat_of_zero_le h4.1
  obtain ⟨x5, rfl⟩ := Int.eq_ofNat_of_zero_le h5.1
  obtain ⟨x6, rfl⟩ := Int.eq_ofNat_of_zero_le h6.1
  obtain ⟨x7, rfl⟩ := Int.eq_ofNat_of_zero_le h7.1
  have e1 := or_shift (a := x4) (b := x5) (k := 8) (by omega) (by omega) (by omega)
  have e2 := or_shift (a := x4 + x5 * 2 ^ 8) (b := x6) (k := 16) (by omega) (by omega) (by omega)
  have e3 := or_shift (a := x4 + x5 * 2 ^ 8 + x6 * 2 ^ 16) (b := x7) (k := 24) (by omega) (by omega) (by omega)
  rw [show (x5 : Int) * 256 = ((x5 * 2 ^ 8 : Nat) : Int) by omega, show (x6 : Int) * 65536 = ((x6 * 2 ^ 16 : Nat) : Int) by omega, show (x7 : Int) * 16777216 = ((x7 * 2 ^ 24 : Nat) : Int) by omega, e1, e2, e3]
  omega
theorem specGet_eq {s : ByteArray} (h : (s.size : Int) = 8) : spec_l1Get.f s = some (decO s, decD s, decS s, decF s, decM s, decZ s) := by
  unfold spec_l1Get.f decO decD decS decF decM decZ
  have r0 := bt_range s 0
  have r1 := bt_range s 1
  have r2 := bt_range s 2
  have r3 := bt_range s 3
  have r4 := bt_range s 4
  have r5 := bt_range s 5
  have r6 := bt_range s 6
  have r7 := bt_range s 7
  rw [wrap64_id (n := bt s 0) (by omega) (by omega), wrap64_id (n := bt s 1) (by omega) (by omega), wrap64_id (n := bt s 2) (by omega) (by omega), wrap64_id (n := bt s 3) (by omega) (by omega), wrap64_id (n := bt s 4) (by omega) (by omega), wrap64_id (n := bt s 5) (by omega) (by omega), wrap64_id (n := bt s 6) (by omega) (by omega), wrap64_id (n := bt s 7) (by omega) (by omega)]
  rw [wrap64_id (n := bt s 5 * 256) (by omega) (by omega), wrap64_id (n := bt s 6 * 65536) (by omega) (by omega), wrap64_id (n := bt s 7 * 16777216) (by omega) (by omega), decM_or r4 r5 r6 r7, Int.tdiv_eq_ediv_of_nonneg r1.1, Int.tmod_eq_emod_of_nonneg r1.1]
  rw [wrap64_id (n := bt s 1 / 16) (by omega) (by omega), wrap64_id (n := bt s 1 % 16 - 1) (by omega) (by omega), wrap64_id (n := bt s 2 - 256) (by omega) (by omega)]
  rw [h]
  by_cases c : bt s 2 > 127
  · simp [c]
  · simp [c]
theorem shl_byte {b : Int} (h : 0 ≤ b ∧ b ≤ 255) {k : Nat} (hk : k ≤ 24) : shl .i64 b (k : Int) = b * ((2 ^ k : Nat) : Int) := by
  obtain ⟨x, rfl⟩ := Int.eq_ofNat_of_zero_le h.1
  have h1 := Nat.pow_le_pow_right (n := 2) (by decide) hk
  have h2 : x * 2 ^ k ≤ 255 * 2 ^ 24 := Nat.mul_le_mul (by omega) h1
  rw [shl_nat (by omega) (by omega), Int.natCast_mul]
/-- What reading an op answers. -/
def getO (s : ByteArray) : Int × Int × Int × Int × Int × Int × Bool :=
  if (s.size : Int) = 8 ∧ InsI (decO s) (decD s) (decS s) (decF s) (decM s) (decZ s) ∧ (strOfNums (insL (decO s) (decD s) (decS s) (decF s) (decM s) (decZ s))).toList = s.toList
  then (decO s, decD s, decS s, decF s, decM s, decZ s, true) else (0, 0, 0, 0, 0, 0, false)
theorem specInsGet_eq (s : ByteArray) : spec_InsGet.f s = some (getO s) := by
  unfold spec_InsGet.f getO
  by_cases h : (s.size : Int) = 8
  · rw [if_pos h, specGet_eq h]
    simp only [Option.bind_some, specInsOk_eq, decide_eq_true_eq]
    by_cases hi : InsI (decO s) (decD s) (decS s) (decF s) (decM s) (decZ s)
    · have hr := InsI.range hi
      rw [if_pos hi, specPut_eq _ _ _ _ hr.2.1 hr.2.2.1]
      simp only [Option.bind_some]
      by_cases e : (strOfNums (insL (decO s) (decD s) (decS s) (decF s) (decM s) (decZ s))).toList = s.toList
      · rw [if_pos e, if_pos ⟨h, hi, e⟩]
      · rw [if_neg e, if_neg (fun x => e x.2.2)]
    · rw [if_neg hi, if_neg (fun x => hi x.2.1)]
  · rw [if_neg h, if_neg (fun x => h x.1)]
theorem i8_eq (b : Int) : IntKind.i8.wrap b = if b % 256 ≥ 128 then b % 256 - 256 else b % 256 := by
  unfold IntKind.wrap
  simp [IntKind.bits, IntKind.signed]
theorem implInsGet_eq (s : ByteArray) {k : Nat} (hk : 10 ≤ k) : impl_InsGet.f k s = some (getO s) := by
  obtain ⟨k, rfl⟩ : ∃ q, k = q + 10 := ⟨k - 10, by omega⟩
  unfold impl_InsGet.f getO
  by_cases h : (s.size : Int) = 8
  · rw [if_pos h, if_pos (by omega), if_pos (by omega), if_pos (by omega), if_pos (by omega)]
    have r0 := bt_range s 0
    have r1 := bt_range s 1
    have r2 := bt_range s 2
    have r3 := bt_range s 3
    have r4 := bt_range s 4
    have r5 := bt_range s 5
    have r6 := bt_range s 6
    have r7 := bt_range s 7
    have i0 : wrap64 (4 + 0) = 4 := by unfold wrap64; omega
    have i1 : wrap64 (4 + 1) = 5 := by unfold wrap64; omega
    have i2 : wrap64 (4 + 2) = 6 := by unfold wrap64; omega
    have i3 : wrap64 (4 + 3) = 7 := by unfold wrap64; omega
    have w0 : wrap64 (8 * 0) = ((0 : Nat) : Int) := by unfold wrap64; omega
    have w1 : wrap64 (8 * 1) = ((8 : Nat) : Int) := by unfold wrap64; omega
    have w2 : wrap64 (8 * 2) = ((16 : Nat) : Int) := by unfold wrap64; omega
    have w3 : wrap64 (8 * 3) = ((24 : Nat) : Int) := by unfold wrap64; omega
    have s1 : wrap64 (0 + 1) = 1 := by unfold wrap64; omega
    have s2 : wrap64 (1 + 1) = 2 := by unfold wrap64; omega
    have s3 : wrap64 (2 + 1) = 3 := by unfold wrap64; omega
    have s4 : wrap64 (3 + 1) = 4 := by unfold wrap64; omega
    simp only [impl_InsGet.l0, i0, i1, i2, i3, w0, w1, w2, w3, s1, s2, s3, s4]
    rw [if_pos (by decide), if_pos (by decide), if_pos (by omega), if_pos (by decide), if_pos (by decide), if_pos (by decide), if_pos (by omega), if_pos (by decide), if_pos (by decide), if_pos (by decide), if_pos (by omega), if_pos (by decide), if_pos (by decide), if_pos (by decide), if_pos (by omega), if_pos (by decide), if_neg (by decide)]
    rw [wrap64_id (n := bt s 0) (by omega) (by omega), wrap64_id (n := bt s 3) (by omega) (by omega), wrap64_id (n := bt s 4) (by omega) (by omega), wrap64_id (n := bt s 5) (by omega) (by omega), wrap64_id (n := bt s 6) (by omega) (by omega), wrap64_id (n := bt s 7) (by omega) (by omega)]
    rw [shl_byte r4 (k := 0) (by omega), shl_byte r5 (k := 8) (by omega), shl_byte r6 (k := 16) (by omega), shl_byte r7 (k := 24) (by omega)]
    have z0 : Go.bits .or .i64 0 (bt s 4 * ((2 ^ 0 : Nat) : Int)) = bt s 4 := by
      obtain ⟨x, hx⟩ := Int.eq_ofNat_of_zero_le r4.1
      rw [hx, show (x : Int) * ((2 ^ 0 : Nat) : Int) = (x : Int) by simp, show (0 : Int) = ((0 : Nat) : Int) from rfl, bor (by decide) (by omega), Nat.zero_or]
    have eM : Go.bits .or .i64 (Go.bits .or .i64 (Go.bits .or .i64 (Go.bits .or .i64 0 (bt s 4 * ((2 ^ 0 : Nat) : Int))) (bt s 5 * ((2 ^ 8 : Nat) : Int))) (bt s 6 * ((2 ^ 16 : Nat) : Int))) (bt s 7 * ((2 ^ 24 : Nat) : Int)) = decM s := by
      rw [z0]; exact decM_or r4 r5 r6 r7
    have eD : Int.tdiv (bt s 1) 16 % 256 = decD s := by unfold decD; rw [Int.tdiv_eq_ediv_of_nonneg r1.1]; omega
    have eS : wrap64 (wrap64 (Int.tmod (bt s 1) 16) - 1) = decS s := by
      unfold decS
      rw [Int.tmod_eq_emod_of_nonneg r1.1, wrap64_id (n := bt s 1 % 16) (by omega) (by omega), wrap64_id (by omega) (by omega)]
    have eF : wrap64 (IntKind.i8.wrap (bt s 2)) = decF s := by
      unfold decF
      rw [i8_eq]
      by_cases c : bt s 2 > 127
      · rw [if_pos (by omega), if_pos c]; unfold wrap64; omega
      · rw [if_neg (by omega), if_neg c]; unfold wrap64; omega
    rw [eM, eD, eS, eF, implInsOk_eq]
    simp only [Option.bind_some, decide_eq_true_eq]
    show (if InsI (decO s) (decD s) (decS s) (decF s) (decM s) (decZ s) then _ else _) = _
    by_cases hi : InsI (decO s) (decD s) (decS s) (decF s) (decM s) (decZ s)
    · rw [if_pos hi]
      have := implPut_eq hi (k := k + 5) (by omega)
      show (impl_InsPut.f (k + 5) (decO s) (decD s) (decS s) (decF s) (decM s) (decZ s)).bind _ = _
      rw [this]
      simp only [Option.bind_some]
      by_cases e : (strOfNums (insL (decO s) (decD s) (decS s) (decF s) (decM s) (decZ s))).toList = s.toList
      · rw [if_pos e, if_pos ⟨h, hi, e⟩]; rfl
      · rw [if_neg e, if_neg (fun x => e x.2.2)]
    · rw [if_neg hi, if_neg (fun x => hi x.2.1)]
  · rw [if_neg h, if_neg (fun x => h x.1)]
def okIns (x : S38) : Prop := InsI x.f0 x.f1 x.f2 x.f3 x.f4 x.f5
/-- An op of a program that is ok, and leads nowhere beyond. -/
def okAt (l : List S38) (i : Nat) : Prop := okIns (rd_T38 l i) ∧ (12 ≤ (rd_T38 l i).f0 ∧ (rd_T38 l i).f0 ≤ 16 → 0 ≤ (i : Int) + 1 + (rd_T38 l i).f3 ∧ (i : Int) + 1 + (rd_T38 l i).f3 ≤ (l.length : Int) - 1)
def allAt (l : List S38) (p : Nat) : Prop := ∀ i : Nat, p ≤ i → i < l.length → okAt l i
/-- What is told of a program whose ops are ok. -/
def tailI (l : List S38) : Int := if (l.length : Int) > 48 then 3 else if (l.length : Int) = 0 then 4 else if (rd_T38 l ((l.length : Int) - 1)).f0 = 20 ∨ (rd_T38 l ((l.length : Int) - 1)).f0 = 16 then 0 else 4
def FormOf (l : List S38) (p : Nat) (r : Int) : Prop := (allAt l p → r = tailI l) ∧ (¬ allAt l p → r = 1 ∨ r = 2)
theorem allAt_step {l : List S38} {p : Nat} (hp : p < l.length) : allAt l p ↔ okAt l p ∧ allAt l (p + 1) := by
  constructor
  · exact fun h => ⟨h p (Nat.le_refl p) hp, fun i h1 h2 => h i (by omega) h2⟩
  · rintro ⟨h, h'⟩ i h1 h2
    by_cases e : i = p
    · rw [e]; exact h
    · exact h' i (by omega) h2
theorem FormOf.step {l : List S38} {p : Nat} {r : Int} (hp : p < l.length) (h : okAt l p) (f : FormOf l (p + 1) r) : FormOf l p r :=
  ⟨fun a => f.1 ((allAt_step hp).1 a).2, fun n => f.2 (fun a => n ((allAt_step hp).2 ⟨h, a⟩))⟩
theorem FormOf.bad {l : List S38} {p : Nat} {r : Int} (hp : p < l.length) (h : ¬ okAt l p) (hr : r = 1 ∨ r = 2) : FormOf l p r :=
  ⟨fun a => absurd ((allAt_step hp).1 a).1 h, fun _ => hr⟩
theorem goes_eq (o : Int) : impl_kind_goes.f o = some (decide (12 ≤ o ∧ o ≤ 16)) := by unfold impl_kind_goes.f; simp only [within_eq, Option.bind_some]
theorem form_both (l : List S38) (hl : l.length ≤ 2000000) (d : Nat) : ∀ (k j p : Nat), p + d = l.length → 2 * d + 3 < k → 2 * d + 3 < j →
    ∃ r, impl_ProgForm.l0 k l l (l.length : Int) (p : Int) = some r ∧ spec_l1Form.l0 j l (p : Int) = some r ∧ FormOf l p r := by
  induction d with
  | zero =>
    intro k j p hp hk hj
    obtain ⟨k, rfl⟩ : ∃ m, k = m + 2 := ⟨k - 2, by omega⟩
    obtain ⟨j, rfl⟩ : ∃ m, j = m + 2 := ⟨j - 2, by omega⟩
    refine ⟨tailI l, ?_, ?_, fun _ => rfl, fun n => absurd (fun i h1 h2 => absurd h1 (by omega)) n⟩
    · rw [impl_ProgForm.l0, if_neg (by omega)]
      unfold tailI
      by_cases c1 : (l.length : Int) > 48
      · rw [if_pos c1, if_pos c1]
      rw [if_neg c1, if_neg c1]
      by_cases c2 : (l.length : Int) = 0
      · rw [if_pos c2, if_pos c2, impl_ProgForm.j1, if_pos (by rw [beq_iff_eq]; exact c2)]
      rw [if_neg c2, if_neg c2, wrap64_id (n := (l.length : Int) - 1) (by omega) (by omega), if_pos (by omega), if_pos (by omega), impl_ProgForm.j1, impl_ProgForm.j1]
      by_cases c3 : (rd_T38 l ((l.length : Int) - 1)).f0 = 20
      · rw [if_pos c3, if_pos (Or.inl c3), if_neg (by decide)]
      by_cases c4 : (rd_T38 l ((l.length : Int) - 1)).f0 = 16
      · rw [if_neg c3, if_pos (Or.inr c4), c4]; rfl
      · rw [if_neg c3, if_neg (show ¬ ((rd_T38 l ((l.length : Int) - 1)).f0 = 20 ∨ (rd_T38 l ((l.length : Int) - 1)).f0 = 16) by omega), if_pos (by rw [bne_iff_ne]; exact c4)]
    · rw [spec_l1Form.l0, if_neg (by omega)]
      unfold tailI
      by_cases c1 : (l.length : Int) > 48
      · rw [if_pos c1, if_pos c1]
      rw [if_neg c1, if_neg c1]
      by_cases c2 : (l.length : Int) = 0
      · rw [if_pos c2, if_pos c2, spec_l1Form.j2, if_pos rfl]
      rw [if_neg c2, if_neg c2, wrap64_id (n := (l.length : Int) - 1) (by omega) (by omega), if_pos (by omega), if_pos (by omega), spec_l1Form.j2, spec_l1Form.j2]
      by_cases c3 : (rd_T38 l ((l.length : Int) - 1)).f0 = 20
      · rw [if_pos c3, if_pos (Or.inl c3), if_neg (by decide)]
      by_cases c4 : (rd_T38 l ((l.length : Int) - 1)).f0 = 16
      · rw [if_neg c3, if_pos (Or.inr c4), c4]; rfl
      · rw [if_neg c3, if_neg (show ¬ ((rd_T38 l ((l.length : Int) - 1)).f0 = 20 ∨ (rd_T38 l ((l.length : Int) - 1)).f0 = 16) by omega), if_pos (by rw [bne_iff_ne]; exact c4)]
  | succ d ih =>
    intro k j p hp hk hj
    obtain ⟨k, rfl⟩ : ∃ m, k = m + 2 := ⟨k - 2, by omega⟩
    obtain ⟨j, rfl⟩ : ∃ m, j = m + 2 := ⟨j - 2, by omega⟩
    have hlt : p < l.length := by omega
    rw [impl_ProgForm.l0, if_pos (by omega), if_pos (by omega), if_pos (by omega), spec_l1Form.l0, if_pos (by omega), if_pos (by omega), implInsOk_eq, specInsOk_eq, goes_eq]
    simp only [Option.bind_some, decide_eq_true_eq]
    by_cases h : InsI (rd_T38 l p).f0 (rd_T38 l p).f1 (rd_T38 l p).f2 (rd_T38 l p).f3 (rd_T38 l p).f4 (rd_T38 l p).f5
    · have hr := (InsI.range h).2.2.2.1
      have tgt : wrap64 (wrap64 ((p : Int) + 1) + (rd_T38 l p).f3) = (p : Int) + 1 + (rd_T38 l p).f3 := by
        rw [wrap64_id (n := (p : Int) + 1) (by omega) (by omega), wrap64_id (by omega) (by omega)]
      have len1 : wrap64 ((l.length : Int) - 1) = (l.length : Int) - 1 := wrap64_id (by omega) (by omega)
      have js : (spec_l1Jump.f (rd_T38 l p).f0).bind (fun t669 => if t669 = true then spec_l1Form.j1 (j + 1) l p true else spec_l1Form.j1 (j + 1) l p ((rd_T38 l p).f0 == 16)) = spec_l1Form.j1 (j + 1) l p (decide (12 ≤ (rd_T38 l p).f0 ∧ (rd_T38 l p).f0 ≤ 16)) := by
        unfold spec_l1Jump.f
        simp only [l1In_eq, Option.bind_some, decide_eq_true_eq]
        by_cases c : 12 ≤ (rd_T38 l p).f0 ∧ (rd_T38 l p).f0 ≤ 15
        · rw [if_pos c, decide_eq_true (by omega)]
        · rw [if_neg c]
          congr 1
          rw [Bool.eq_iff_iff, beq_iff_eq, decide_eq_true_eq]
          omega
      rw [if_pos h, if_pos h, js, spec_l1Form.j1]
      unfold impl_target.f
      rw [if_pos (show (0 : Int) ≤ p by omega), if_pos (show (p : Int) < l.length by omega), tgt, len1]
      simp only [Option.bind_some, within_eq, l1In_eq, decide_eq_true_eq, w_succ (show p < 4611686018427387904 by omega)]
      by_cases c : 12 ≤ (rd_T38 l p).f0 ∧ (rd_T38 l p).f0 ≤ 16
      · rw [if_pos c, if_pos c, if_pos (show (0 : Int) ≤ p by omega), if_pos (show (p : Int) < l.length by omega)]
        by_cases t : 0 ≤ (p : Int) + 1 + (rd_T38 l p).f3 ∧ (p : Int) + 1 + (rd_T38 l p).f3 ≤ (l.length : Int) - 1
        · rw [if_pos t, if_pos t]
          obtain ⟨r, e1, e2, e3⟩ := ih (k + 1) j (p + 1) (by omega) (by omega) (by omega)
          exact ⟨r, e1, e2, FormOf.step hlt ⟨h, fun _ => t⟩ e3⟩
        · rw [if_neg t, if_neg t]
          exact ⟨2, rfl, rfl, FormOf.bad hlt (fun q => t (q.2 c)) (Or.inr rfl)⟩
      · rw [if_neg c, if_neg c]
        obtain ⟨r, e1, e2, e3⟩ := ih (k + 1) j (p + 1) (by omega) (by omega) (by omega)
        exact ⟨r, e1, e2, FormOf.step hlt ⟨h, fun q => absurd q c⟩ e3⟩
    · rw [if_neg h, if_neg h]
      exact ⟨1, rfl, rfl, FormOf.bad hlt (fun q => h q.1) (Or.inl rfl)⟩
theorem eqIns_loop (l : List S38) (hl : l.length ≤ 2000000) (d : Nat) : ∀ (k p : Nat), p + d = l.length → d < k → laws_eqInsS.l0 k l l (p : Int) = some true := by
  induction d with
  | zero =>
    intro k p hp hk
    obtain ⟨k, rfl⟩ : ∃ m, k = m + 1 := ⟨k - 1, by omega⟩
    rw [laws_eqInsS.l0, if_neg (by omega)]
  | succ d ih =>
    intro k p hp hk
    obtain ⟨k, rfl⟩ : ∃ m, k = m + 1 := ⟨k - 1, by omega⟩
    rw [laws_eqInsS.l0, if_pos (by omega), if_pos (by omega), if_pos (by omega), w_succ (by omega)]
    unfold laws_eqIns.f
    rw [if_pos rfl, if_pos rfl, if_pos rfl, if_pos rfl, if_pos rfl, if_pos rfl]
    simp only [Option.bind_some, if_true]
    exact ih k (p + 1) (by omega) (by omega)
theorem eqInsS_eq (l : List S38) (hl : l.length ≤ 2000000) {k : Nat} (hk : l.length < k) : laws_eqInsS.f k l l = some true := by
  unfold laws_eqInsS.f
  rw [if_pos rfl]
  exact eqIns_loop l hl l.length k 0 (by omega) hk
def insOf7 (g : Int × Int × Int × Int × Int × Int × Bool) : S38 := ⟨g.1, g.2.1, g.2.2.1, g.2.2.2.1, g.2.2.2.2.1, g.2.2.2.2.2.1⟩
/-- The ops of bytes, from one on, behind others; none, if one is none. -/
def opsFrom (s : ByteArray) : Nat → Nat → List S38 → Option (List S38)
  | 0, _, acc => some acc
  | d + 1, p, acc => if (getO (s.extract (8 * p) (8 * p + 8))).2.2.2.2.2.2 = true then opsFrom s d (p + 1) (acc ++ [insOf7 (getO (s.extract (8 * p) (8 * p + 8)))]) else none
theorem opsFrom_len (s : ByteArray) (d : Nat) : ∀ (p : Nat) (acc l : List S38), opsFrom s d p acc = some l → l.length = acc.length + d := by
  induction d with
  | zero => intro p acc l h; obtain rfl := Option.some.inj h; rfl
  | succ d ih =>
    intro p acc l h
    unfold opsFrom at h
    by_cases c : (getO (s.extract (8 * p) (8 * p + 8))).2.2.2.2.2.2 = true
    · rw [if_pos c] at h
      rw [ih _ _ _ h, List.length_append]
      simp only [List.length_cons, List.length_nil]
      omega
    · rw [if_neg c] at h; cases h
theorem wrap_8 {p : Nat} (h : p ≤ 100000) : wrap64 (((8 * p : Nat) : Int) + 8) = ((8 * (p + 1) : Nat) : Int) := by rw [wrap64_id (by omega) (by omega)]; omega
/-- What is told of the ops of bytes. -/
def GetOf (L : Option (List S38)) (v : List S38 × Bool) : Prop :=
  (L = none ∧ v = ([], false)) ∨ ∃ l r, L = some l ∧ FormOf l 0 r ∧ v = (if r = 0 then (l, true) else ([], false))
theorem get_loops (s : ByteArray) (n : Nat) (hn : n ≤ 48) (hs : s.size = 8 * n) (d : Nat) : ∀ (k j p : Nat) (acc : List S38), p + d = n → acc.length = p → 2 * n + d + 30 < k → 2 * n + d + 30 < j →
    ∃ v, impl_ProgGet.l0 k s acc ((8 * p : Nat) : Int) = some v ∧ spec_ProgGet.l0 j s acc ((8 * p : Nat) : Int) = some v ∧ GetOf (opsFrom s d p acc) v := by
  induction d with
  | zero =>
    intro k j p acc hp ha hk hj
    obtain ⟨k, rfl⟩ : ∃ m, k = m + 1 := ⟨k - 1, by omega⟩
    obtain ⟨j, rfl⟩ : ∃ m, j = m + 1 := ⟨j - 1, by omega⟩
    obtain ⟨r, e1, e2, e3⟩ := form_both acc (by omega) acc.length k j 0 (by omega) (by omega) (by omega)
    have e1 : impl_ProgForm.f k acc = some r := e1
    have e2 : spec_l1Form.f j acc = some r := e2
    refine ⟨if r = 0 then (acc, true) else ([], false), ?_, ?_, Or.inr ⟨acc, r, rfl, e3, rfl⟩⟩
    · rw [impl_ProgGet.l0, if_neg (by omega), e1]
      simp only [Option.bind_some]
      by_cases c : r = 0
      · rw [if_pos c, if_pos c]
      · rw [if_neg c, if_neg c]
    · rw [spec_ProgGet.l0, if_neg (by omega), e2]
      simp only [Option.bind_some]
      by_cases c : r = 0
      · rw [if_pos c, if_pos c]
      · rw [if_neg c, if_neg c]
  | succ d ih =>
    intro k j p acc hp ha hk hj
    obtain ⟨k, rfl⟩ : ∃ m, k = m + 1 := ⟨k - 1, by omega⟩
    obtain ⟨j, rfl⟩ : ∃ m, j = m + 1 := ⟨j - 1, by omega⟩
    have t1 : ((8 * p : Nat) : Int).toNat = 8 * p := Int.toNat_natCast _
    have t2 : ((8 * (p + 1) : Nat) : Int).toNat = 8 * p + 8 := by rw [Int.toNat_natCast]; omega
    rw [impl_ProgGet.l0, if_pos (by omega), if_pos (by omega), wrap_8 (by omega), if_pos (by omega), if_pos (by omega), t1, t2, implInsGet_eq _ (by omega)]
    rw [spec_ProgGet.l0, if_pos (by omega), if_pos (by omega), wrap_8 (by omega), if_pos (by omega), if_pos (by omega), t1, t2, specInsGet_eq]
    simp only [Option.bind_some]
    unfold opsFrom
    by_cases c : (getO (s.extract (8 * p) (8 * p + 8))).2.2.2.2.2.2 = true
    · rw [if_pos c, if_pos c, if_pos c, if_pos (by omega), if_pos (by omega)]
      exact ih k j (p + 1) _ (by omega) (by rw [List.length_append, ha]; rfl) (by omega) (by omega)
    · rw [if_neg c, if_neg c, if_neg c]
      exact ⟨_, rfl, rfl, Or.inl ⟨rfl, rfl⟩⟩
/-- What is told of bytes. -/
def GetsOf (s : ByteArray) (v : List S38 × Bool) : Prop := ((s.size > 384 ∨ s.size % 8 ≠ 0) ∧ v = ([], false)) ∨ (s.size ≤ 384 ∧ s.size % 8 = 0 ∧ GetOf (opsFrom s (s.size / 8) 0 []) v)
theorem progGet_ex (s : ByteArray) (hs : s.size ≤ 140737488351232) {k j : Nat} (hk : 300 < k) (hj : 300 < j) : ∃ v, impl_ProgGet.f k s = some v ∧ spec_ProgGet.f j s = some v ∧ GetsOf s v := by
  obtain ⟨k, rfl⟩ : ∃ m, k = m + 1 := ⟨k - 1, by omega⟩
  obtain ⟨j, rfl⟩ : ∃ m, j = m + 1 := ⟨j - 1, by omega⟩
  unfold impl_ProgGet.f spec_ProgGet.f
  by_cases c1 : (s.size : Int) > 384
  · refine ⟨([], false), ?_, ?_, Or.inl ⟨Or.inl (by omega), rfl⟩⟩
    · rw [if_pos c1, impl_ProgGet.j0, if_pos rfl]
    · by_cases c2 : (s.size : Int) % 8 = 0
      · rw [if_pos c2, decide_eq_true c1, spec_ProgGet.j0, if_pos rfl]
      · rw [if_neg c2, spec_ProgGet.j0, if_pos rfl]
  · by_cases c2 : (s.size : Int) % 8 = 0
    · obtain ⟨v, e1, e2, e3⟩ := get_loops s (s.size / 8) (by omega) (by omega) (s.size / 8) k j 0 [] (by omega) rfl (by omega) (by omega)
      have e1 : impl_ProgGet.l0 k s [] 0 = some v := e1
      have e2 : spec_ProgGet.l0 j s [] 0 = some v := e2
      refine ⟨v, ?_, ?_, Or.inr ⟨by omega, by omega, e3⟩⟩
      · rw [if_neg c1, c2, impl_ProgGet.j0, if_neg (by decide), wrap64_id (n := (s.size : Int) / 8) (by omega) (by omega), if_pos (by omega), if_pos (by omega)]
        exact e1
      · rw [if_pos c2, decide_eq_false c1, spec_ProgGet.j0, if_neg (by decide)]
        exact e2
    · refine ⟨([], false), ?_, ?_, Or.inl ⟨Or.inr (by omega), rfl⟩⟩
      · rw [if_neg c1, show ((s.size : Int) % 8 != 0) = true from bne_iff_ne.mpr c2, impl_ProgGet.j0, if_pos rfl]
      · rw [if_neg c2, spec_ProgGet.j0, if_pos rfl]
theorem getsOf_len {s : ByteArray} {v : List S38 × Bool} (h : GetsOf s v) : v.1.length ≤ 48 := by
  rcases h with ⟨_, rfl⟩ | ⟨h1, h2, ⟨_, rfl⟩ | ⟨l, r, h3, _, rfl⟩⟩
  · exact Nat.zero_le _
  · exact Nat.zero_le _
  · have := opsFrom_len s _ _ _ _ h3
    by_cases c : r = 0
    · rw [if_pos c]; simp only [List.length_nil] at this; show l.length ≤ 48; omega
    · rw [if_neg c]; exact Nat.zero_le _
/-- The op whose values are the six numbers from one on. -/
def mark6 (a : Int) : S38 := ⟨a, a + 1, a + 2, a + 3, a + 4, a + 5⟩
theorem rd_set (l : List S38) (p : Nat) (hp : p < l.length) (x : S38) : rd_T38 (l.set p x) (p : Int) = x := by
  unfold rd_T38
  rw [List.getD_eq_getElem?_getD, Int.toNat_natCast, List.getElem?_set_self hp]
  rfl
def Marked (l : List S38) (a : Int) (n : Nat) : Prop := ∀ j : Nat, j < n → rd_T38 l (j : Int) = mark6 (a + 6 * j)
theorem mark_loop (d : Nat) : ∀ (k p : Nat) (l : List S38) (a : Int), p + d = l.length → d < k → l.length ≤ 1000 → 0 ≤ a → a ≤ 100 → Marked l a p →
    ∃ l', laws_markInsS.l0 k l (a + 6 * p) (p : Int) = some (a + 6 * l.length, l') ∧ l'.length = l.length ∧ Marked l' a l'.length := by
  induction d with
  | zero =>
    intro k p l a hp hk hl h0 h1 hm
    obtain ⟨k, rfl⟩ : ∃ m, k = m + 1 := ⟨k - 1, by omega⟩
    have e : p = l.length := by omega
    subst e
    exact ⟨l, by rw [laws_markInsS.l0, if_neg (by omega)], rfl, hm⟩
  | succ d ih =>
    intro k p l a hp hk hl h0 h1 hm
    obtain ⟨k, rfl⟩ : ∃ m, k = m + 1 := ⟨k - 1, by omega⟩
    have hpl : p < l.length := by omega
    rw [laws_markInsS.l0, if_pos (by omega), if_pos (by omega)]
    simp only [Option.bind_some, Int.toNat_natCast]
    simp only [rd_set, hpl, List.set_set]
    rw [wrap64_id (n := a + 6 * p + 1) (by omega) (by omega), wrap64_id (n := a + 6 * p + 1 + 1) (by omega) (by omega), wrap64_id (n := a + 6 * p + 1 + 1 + 1) (by omega) (by omega), wrap64_id (n := a + 6 * p + 1 + 1 + 1 + 1) (by omega) (by omega),
      wrap64_id (n := a + 6 * p + 1 + 1 + 1 + 1 + 1) (by omega) (by omega), wrap64_id (n := a + 6 * p + 1 + 1 + 1 + 1 + 1 + 1) (by omega) (by omega), w_succ (by omega)]
    have e : (⟨a + 6 * p, a + 6 * p + 1, a + 6 * p + 1 + 1, a + 6 * p + 1 + 1 + 1, a + 6 * p + 1 + 1 + 1 + 1, a + 6 * p + 1 + 1 + 1 + 1 + 1⟩ : S38) = mark6 (a + 6 * p) := by
      unfold mark6
      congr 1 <;> omega
    rw [e, show a + 6 * (p : Int) + 1 + 1 + 1 + 1 + 1 + 1 = a + 6 * ((p + 1 : Nat) : Int) by omega]
    obtain ⟨l', e1, e2, e3⟩ := ih k (p + 1) (l.set p (mark6 (a + 6 * p))) a (by rw [List.length_set]; omega) (by omega) (by rw [List.length_set]; exact hl) h0 h1 (fun j hj => by
      by_cases c : j = p
      · rw [c]; exact rd_set l p hpl _
      · have := hm j (by omega)
        rw [← this]
        unfold rd_T38
        rw [List.getD_eq_getElem?_getD, List.getD_eq_getElem?_getD, Int.toNat_natCast, List.getElem?_set_ne (by omega)])
    rw [List.length_set] at e1 e2
    exact ⟨l', e1, e2, e3⟩
theorem held_loop (l : List S38) (a : Int) (hl : l.length ≤ 1000) (h0 : 0 ≤ a) (h1 : a ≤ 100) (hm : Marked l a l.length) (d : Nat) : ∀ (k p : Nat), p + d = l.length → d < k → laws_heldInsS.l0 k l (a + 6 * p) (p : Int) = some (a + 6 * l.length) := by
  induction d with
  | zero =>
    intro k p hp hk
    obtain ⟨k, rfl⟩ : ∃ m, k = m + 1 := ⟨k - 1, by omega⟩
    have e : p = l.length := by omega
    rw [laws_heldInsS.l0, if_neg (by omega), e]
  | succ d ih =>
    intro k p hp hk
    obtain ⟨k, rfl⟩ : ∃ m, k = m + 1 := ⟨k - 1, by omega⟩
    rw [laws_heldInsS.l0, if_pos (by omega), if_pos (by omega), hm p (by omega)]
    rw [wrap64_id (n := a + 6 * p + 1) (by omega) (by omega), wrap64_id (n := a + 6 * p + 1 + 1) (by omega) (by omega), wrap64_id (n := a + 6 * p + 1 + 1 + 1) (by omega) (by omega), wrap64_id (n := a + 6 * p + 1 + 1 + 1 + 1) (by omega) (by omega),
      wrap64_id (n := a + 6 * p + 1 + 1 + 1 + 1 + 1) (by omega) (by omega), wrap64_id (n := a + 6 * p + 1 + 1 + 1 + 1 + 1 + 1) (by omega) (by omega), w_succ (by omega)]
    unfold mark6
    rw [if_pos rfl, if_pos rfl, if_pos (by show a + 6 * (p : Int) + 2 = _; omega), if_pos (by show a + 6 * (p : Int) + 3 = _; omega), if_pos (by show a + 6 * (p : Int) + 4 = _; omega), if_pos (by show a + 6 * (p : Int) + 5 = _; omega), show a + 6 * (p : Int) + 1 + 1 + 1 + 1 + 1 + 1 = a + 6 * ((p + 1 : Nat) : Int) by omega]
    exact ih k (p + 1) (by omega) (by omega)
theorem mark_ex (l : List S38) (hl : l.length ≤ 1000) {k : Nat} (hk : l.length < k) : ∃ l', laws_markInsS.f k l 1 = some (1 + 6 * (l.length : Int), l') ∧ l'.length = l.length ∧ Marked l' 1 l'.length :=
  mark_loop l.length k 0 l 1 (by omega) hk hl (by omega) (by omega) (fun j hj => absurd hj (by omega))
theorem held_eq (l : List S38) (hl : l.length ≤ 1000) (hm : Marked l 1 l.length) {k : Nat} (hk : l.length < k) : laws_heldInsS.f k l 1 = some (1 + 6 * (l.length : Int)) :=
  held_loop l 1 hl (by omega) (by omega) hm l.length k 0 (by omega) hk

theorem FnExactProgGet : laws_FnExactProgGet.Pure := by
  intro s hs
  obtain ⟨k, hk⟩ : ∃ k : Nat, k = 3000 := ⟨_, rfl⟩
  refine ⟨k + 2, ?_⟩
  unfold laws_FnExactProgGet.f
  by_cases c : (s.size : Int) > 1048576
  · rw [if_pos c]
  rw [if_neg c]
  obtain ⟨v, e1, e2, e3⟩ := progGet_ex s hs (k := k + 2) (j := k + 2) (by omega) (by omega)
  obtain ⟨u, g1, _, _⟩ := progGet_ex s hs (k := k + 1) (j := k + 2) (by omega) (by omega)
  obtain ⟨u', g1', g2', _⟩ := progGet_ex s hs (k := k + 1) (j := k + 2) (by omega) (by omega)
  have eu : u = v := by
    rw [g1] at g1'
    rw [e2] at g2'
    rw [Option.some.inj g1', Option.some.inj g2']
  subst eu
  have hl := getsOf_len e3
  obtain ⟨l', m1, m2, m3⟩ := mark_ex u.1 (by omega) (k := k + 1) (by omega)
  have h1 := held_eq l' (by omega) m3 (k := k + 1) (by omega)
  have h2 := held_eq l' (by omega) m3 (k := k) (by omega)
  rw [e1, e2]
  simp only [Option.bind_some, eqInsS_eq u.1 (show u.1.length ≤ 2000000 by omega) (k := k + 2) (by omega), if_true, bne_self_eq_false]
  rw [laws_FnExactProgGet.j0, if_neg (by decide), m1]
  simp only [Option.bind_some, h1]
  rw [if_neg (by omega), if_pos (by omega), g1]
  simp only [Option.bind_some, eqInsS_eq u.1 (show u.1.length ≤ 2000000 by omega) (k := k + 1) (by omega), if_true, bne_self_eq_false]
  rw [laws_FnExactProgGet.j1, if_neg (by decide), h2]
  simp only [Option.bind_some]
  rw [if_neg (by omega), if_pos (by omega)]

end Go.Proofs.Ytdfgaaeieneaoaa.Pure
