/- The law FnProgGet, as a statement about numbers and lists alone: what is read as a program can be one, and is written just so, whatever bytes are drawn from. It holds at every input. -/
import Derived.Test.YtdfgaaeieneaoaaQ24
import Derived.Test.YtdfgaaeieneaoaaMath
namespace Go.Proofs.Ytdfgaaeieneaoaa.Pure
open Go Go.RowKit Go.Proofs.Ytdfgaaeieneaoaa.Q Go.Proofs.YtdfgaaeieneaoaaW.PrintWords Go.Proofs.YtdfgaaeieneaoaaW.PrintLast Go.Proofs.YtdfgaaeieneaoaaW.PrintMore Rg

theorem l1In_eq (a b c : Int) : spec_l1In.f a b c = some (decide (b ≤ a ∧ a ≤ c)) := by
  unfold spec_l1In.f
  by_cases h : a ≥ b
  · rw [if_pos h]; simp [show b ≤ a from h]
  · rw [if_neg h]; simp [show ¬ b ≤ a from h]
theorem within_eq (a b c : Int) : impl_within.f a b c = some (decide (b ≤ a ∧ a ≤ c)) := by
  unfold impl_within.f
  by_cases h : a ≥ b
  · rw [if_pos h]; simp [show b ≤ a from h]
  · rw [if_neg h]; simp [show ¬ b ≤ a from h]
theorem numOk_eq (a : Int) : impl_numOk.f a = some (decide (0 ≤ a ∧ a ≤ 4294967295)) := by
  unfold impl_numOk.f
  rw [within_eq]; rfl
theorem open_gives {l : List Int} (hl : ∀ x ∈ l, (Lit.int .u8 x).wf = true) : Gives (spec_l20Open.f l) (fun v => Bytes v.1 ∧ v.2 = 0) := by
  unfold spec_l20Open.f
  refine Gives.ite (fun h => ?_) (fun h => ?_)
  · rw [if_pos (by omega)]
    exact Gives.ret ⟨⟨by rw [List.length_take]; omega, fun x hx => u8_wf (hl x (List.mem_of_mem_take hx))⟩, rfl⟩
  · exact Gives.ret ⟨⟨by show l.length ≤ 2000; omega, fun x hx => u8_wf (hl x hx)⟩, rfl⟩
theorem pick_gives {k : Nat} {b : List Int} (hb : Bytes b) {p n : Int} (h0 : 0 ≤ p) (h1 : p ≤ 10000) (hn : 1 ≤ n) (hk : 0 < k) : Gives (spec_l20Rd_pick.f k b p n) (fun v => 0 ≤ v.1 ∧ v.1 < n ∧ v.2 = p + 1) := by
  obtain ⟨k, rfl⟩ : ∃ m, k = m + 1 := ⟨k - 1, by omega⟩
  unfold spec_l20Rd_pick.f
  rw [if_neg (by omega)]
  simp only [spec_l20Rd_pick.j0]
  rw [wrap64_id (n := p + 1) (by omega) (by omega), wrap64_id (n := p + 1 - 1) (by omega) (by omega), show p + 1 - 1 = p by omega]
  obtain ⟨hb1, hb2⟩ := hb
  refine Gives.ite (fun _ => Gives.ret ⟨by omega, by omega, rfl⟩) (fun he => ?_)
  have hl : 1 ≤ (b.length : Int) := by
    rcases b with _ | ⟨x, l⟩
    · simp at he
    · simp; omega
  refine Gives.ite (fun hlt => ?_) (fun _ => ?_)
  · rw [if_pos h0, if_neg (by omega)]
    have hv := hb2 _ (rd_mem h0 hlt)
    rw [wrap64_id (by omega) (by omega)]
    have := tmod_range hv.1 hn
    exact Gives.ret ⟨this.1, this.2, rfl⟩
  · have hq := tmod_range h0 hl
    have hw : 0 ≤ wrap64 (wrap64 (p * 7) + 3) := by rw [wrap64_id (n := p * 7) (by omega) (by omega), wrap64_id (by omega) (by omega)]; omega
    have hr := tmod_range hw hl
    rw [if_neg (by omega), if_pos hq.1, if_pos hq.2, if_pos hr.1, if_pos hr.2, if_neg (by omega)]
    have hv1 := hb2 _ (rd_mem hq.1 hq.2)
    have hv2 := hb2 _ (rd_mem hr.1 hr.2)
    have hd : 0 ≤ Int.tdiv p (b.length : Int) ∧ Int.tdiv p (b.length : Int) ≤ 100000 := by
      refine ⟨Int.tdiv_nonneg h0 (by omega), ?_⟩
      rw [Int.tdiv_eq_ediv_of_nonneg h0]
      have := Int.ediv_le_self (b.length : Int) h0
      omega
    have hm := mix hv1 hv2 ⟨h0, by omega⟩ hd
    have hx := tmod_range (xor_pos hm.1 hm.2) hn
    exact Gives.ret ⟨hx.1, hx.2, rfl⟩
theorem one_gives {k : Nat} {b : List Int} (hb : Bytes b) {p : Int} (h0 : 0 ≤ p) (h1 : p ≤ 10000) {l : List Int} (hl : 1 ≤ (l.length : Int)) (hk : 0 < k) : Gives (spec_l20Rd_one.f k b p l) (fun v => v.1 ∈ l ∧ v.2 = p + 1) := by
  unfold spec_l20Rd_one.f
  refine (pick_gives hb h0 h1 hl hk).bind fun v hv => ?_
  rw [if_pos hv.1, if_pos hv.2.1]
  exact Gives.ret ⟨rd_mem hv.1 hv.2.1, hv.2.2⟩
theorem imm_gives {k : Nat} {b : List Int} (hb : Bytes b) {p : Int} (h0 : 0 ≤ p) (h1 : p ≤ 10000) (hk : 0 < k) : Gives (spec_l20Imm.f k b p) (fun v => N32 v.1 ∧ v.2 = p + 1) := by
  unfold spec_l20Imm.f
  refine (one_gives hb h0 h1 (by decide) hk).bind fun v hv => Gives.ret ⟨?_, hv.2⟩
  have := hv.1
  simp only [List.mem_cons, List.not_mem_nil, or_false] at this
  show N32 v.1
  unfold N32
  omega
/-- A register, or a number in its place. -/
def EitherI (s m : Int) : Prop := (0 ≤ s ∧ s ≤ 10 ∧ m = 0) ∨ (s = -1 ∧ 0 ≤ m ∧ m ≤ 4294967295)
/-- How many bytes are loaded or stored. -/
def SizeI (z : Int) : Prop := z = 1 ∨ z = 2 ∨ z = 4
/-- An op that is ok. -/
def InsI (o d s f m z : Int) : Prop :=
  if 1 ≤ o ∧ o ≤ 11 then (0 ≤ d ∧ d ≤ 10) ∧ EitherI s m ∧ f = 0 ∧ z = 0
  else if 12 ≤ o ∧ o ≤ 15 then (0 ≤ d ∧ d ≤ 10) ∧ EitherI s m ∧ (-128 ≤ f ∧ f ≤ 127) ∧ z = 0
  else if o = 16 then (-128 ≤ f ∧ f ≤ 127) ∧ d = 0 ∧ s = -1 ∧ m = 0 ∧ z = 0
  else if o = 17 then (0 ≤ d ∧ d ≤ 10) ∧ (0 ≤ s ∧ s ≤ 10) ∧ m = 0 ∧ (-128 ≤ f ∧ f ≤ 127) ∧ SizeI z
  else if o = 18 then (0 ≤ d ∧ d ≤ 10) ∧ EitherI s m ∧ (-128 ≤ f ∧ f ≤ 127) ∧ SizeI z
  else if o = 19 then (1 ≤ m ∧ m ≤ 6) ∧ d = 0 ∧ s = -1 ∧ f = 0 ∧ z = 0
  else o = 20 ∧ d = 0 ∧ s = -1 ∧ f = 0 ∧ m = 0 ∧ z = 0
instance EitherI_dec (s m : Int) : Decidable (EitherI s m) := by unfold EitherI; exact inferInstance
instance SizeI_dec (z : Int) : Decidable (SizeI z) := by unfold SizeI; exact inferInstance
instance InsI_dec (o d s f m z : Int) : Decidable (InsI o d s f m z) := by unfold InsI; exact inferInstance
theorem some_eq_dec {b : Bool} {p : Prop} [Decidable p] (h : b = true ↔ p) : some b = some (decide p) := by
  congr 1
  rw [Bool.eq_iff_iff, h, decide_eq_true_eq]
theorem InsI.range {o d s f m z : Int} (h : InsI o d s f m z) : (1 ≤ o ∧ o ≤ 20) ∧ (0 ≤ d ∧ d ≤ 10) ∧ (-1 ≤ s ∧ s ≤ 10) ∧ (-128 ≤ f ∧ f ≤ 127) ∧ (0 ≤ m ∧ m ≤ 4294967295) ∧ (0 ≤ z ∧ z ≤ 4) := by
  unfold InsI EitherI SizeI at h
  repeat' split at h
  all_goals omega
theorem reckons_eq (o : Int) : impl_kind_reckons.f o = some (decide (1 ≤ o ∧ o ≤ 11)) := by unfold impl_kind_reckons.f; simp only [within_eq, Option.bind_some]
theorem asks_eq (o : Int) : impl_kind_asks.f o = some (decide (12 ≤ o ∧ o ≤ 15)) := by unfold impl_kind_asks.f; simp only [within_eq, Option.bind_some]
theorem regOk_eq (d : Int) : impl_regOk.f d = some (decide (0 ≤ d ∧ d ≤ 10)) := by unfold impl_regOk.f; simp only [within_eq, Option.bind_some]
theorem sizeOk_eq (z : Int) : impl_sizeOk.f z = some (decide (SizeI z)) := by
  unfold impl_sizeOk.f
  repeat' split
  all_goals (apply some_eq_dec; unfold SizeI; simp only [beq_iff_eq, true_iff]; omega)
theorem either_eq (o d s f m z : Int) : impl_Ins_either.f o d s f m z = some (decide (EitherI s m)) := by
  unfold impl_Ins_either.f
  simp only [regOk_eq, numOk_eq, Option.bind_some, decide_eq_true_eq]
  repeat' split
  all_goals (apply some_eq_dec; unfold EitherI; simp only [decide_eq_true_eq, true_iff, Bool.false_eq_true, false_iff]; omega)
theorem implInsOk_eq (o d s f m z : Int) : impl_InsOk.f o d s f m z = some (decide (InsI o d s f m z)) := by
  unfold impl_InsOk.f
  simp only [within_eq, regOk_eq, reckons_eq, asks_eq, sizeOk_eq, either_eq, Option.bind_some, decide_eq_true_eq]
  by_cases h1 : 1 ≤ o ∧ o ≤ 11
  · unfold InsI; simp only [h1, and_self, if_true]
    repeat' split
    all_goals (apply some_eq_dec; simp_all; try (intros; omega))
  by_cases h2 : 12 ≤ o ∧ o ≤ 15
  · unfold InsI; simp only [h1, h2, and_self, if_true, if_false]
    repeat' split
    all_goals (apply some_eq_dec; simp_all; try (intros; omega))
  by_cases h3 : o = 16
  · subst h3; unfold InsI; simp only [h1, h2, if_true, if_false]
    repeat' split
    all_goals (apply some_eq_dec; simp_all; try (intros; omega))
  by_cases h4 : o = 17
  · subst h4; unfold InsI; simp only [h1, h2, h3, if_true, if_false]
    repeat' split
    all_goals (apply some_eq_dec; simp_all; try (intros; omega))
  by_cases h5 : o = 18
  · subst h5; unfold InsI; simp only [h1, h2, h3, h4, if_true, if_false]
    repeat' split
    all_goals (apply some_eq_dec; simp_all; try (intros; omega))
  by_cases h6 : o = 19
  · subst h6; unfold InsI; simp only [h1, h2, h3, h4, h5, if_true, if_false]
    repeat' split
    all_goals (apply some_eq_dec; simp_all; try (intros; omega))
  · unfold InsI; simp only [h1, h2, h3, h4, h5, h6, if_false]
    apply some_eq_dec
    simp
theorem specBare_eq (o d s f m z : Int) (hs : -1 ≤ s ∧ s ≤ 10) (hd : 0 ≤ d ∧ d ≤ 10) (hf : -128 ≤ f ∧ f ≤ 127) (hm : 0 ≤ m ∧ m ≤ 4294967295) : spec_l1Bare.f o d s f m z = some (decide (InsI o d s f m z)) := by
  have he : EitherI s m ↔ (s < 0 ∨ m = 0) := by unfold EitherI; omega
  have hr : (0 ≤ s ∧ s ≤ 10) ↔ s ≥ 0 := by omega
  unfold spec_l1Bare.f spec_l1Alu.f spec_l1Jump.f
  simp only [l1In_eq, Option.bind_some, decide_eq_true_eq]
  by_cases h1 : 1 ≤ o ∧ o ≤ 11
  · unfold InsI; simp only [h1, he, hr, hd, hf, and_self, if_true, true_and]
    repeat' split
    all_goals (apply some_eq_dec; simp_all; try (intros; omega))
  by_cases h2 : 12 ≤ o ∧ o ≤ 15
  · unfold InsI; simp only [h1, h2, he, hr, hd, hf, and_self, if_true, if_false, true_and]
    repeat' split
    all_goals (apply some_eq_dec; simp_all; try (intros; omega))
  by_cases h3 : o = 16
  · subst h3; unfold InsI; simp only [h1, h2, hf, and_self, if_true, if_false, true_and]
    repeat' split
    all_goals (apply some_eq_dec; simp_all; try (intros; omega))
  by_cases h4 : o = 17
  · subst h4; unfold InsI SizeI; simp only [h1, h2, h3, hr, hd, hf, and_self, if_true, if_false, true_and]
    repeat' split
    all_goals (apply some_eq_dec; simp_all; try (intros; omega))
  by_cases h5 : o = 18
  · subst h5; unfold InsI SizeI; simp only [h1, h2, h3, h4, he, hd, hf, and_self, if_true, if_false, true_and]
    repeat' split
    all_goals (apply some_eq_dec; simp_all; try (intros; omega))
  by_cases h6 : o = 19
  · subst h6; unfold InsI; simp only [h1, h2, h3, h4, h5, if_true, if_false]
    repeat' split
    all_goals (apply some_eq_dec; simp_all; try (intros; omega))
  · unfold InsI; simp only [h1, h2, h3, h4, h5, h6, if_false]
    repeat' split
    all_goals (apply some_eq_dec; simp_all; try (intros; omega))
theorem specInsOk_eq (o d s f m z : Int) : spec_l1InsOk.f o d s f m z = some (decide (InsI o d s f m z)) := by
  unfold spec_l1InsOk.f
  simp only [l1In_eq, Option.bind_some, decide_eq_true_eq]
  by_cases h1 : 0 ≤ d ∧ d ≤ 10
  · by_cases h2 : -1 ≤ s ∧ s ≤ 10
    · by_cases h3 : -128 ≤ f ∧ f ≤ 127
      · by_cases h4 : 0 ≤ m ∧ m ≤ 4294967295
        · rw [if_pos h1, if_pos h2, if_pos h3, if_pos h4, specBare_eq o d s f m z h2 h1 h3 h4]; rfl
        · rw [if_pos h1, if_pos h2, if_pos h3, if_neg h4, decide_eq_false (fun x => h4 (InsI.range x).2.2.2.2.1)]
      · rw [if_pos h1, if_pos h2, if_neg h3, decide_eq_false (fun x => h3 (InsI.range x).2.2.2.1)]
    · rw [if_pos h1, if_neg h2, decide_eq_false (fun x => h2 (InsI.range x).2.2.1)]
  · rw [if_neg h1, decide_eq_false (fun x => h1 (InsI.range x).2.1)]
theorem strOfNums_app (a b : List Int) : strOfNums a ++ strOfNums b = strOfNums (a ++ b) := by
  apply ByteArray.ext
  unfold strOfNums
  simp [ByteArray.data_append]
theorem and_255 (x : Int) : Go.bits .and .i64 x 255 % 256 = x % 256 := by
  show IntKind.i64.wrap ((BitVec.ofInt 64 x &&& BitVec.ofInt 64 255).toNat : Int) % 256 = _
  have e : (BitVec.ofInt 64 x &&& BitVec.ofInt 64 255).toNat = (x % 256).toNat := by
    rw [BitVec.toNat_and, show (BitVec.ofInt 64 255).toNat = 2 ^ 8 - 1 from by decide, Nat.and_two_pow_sub_one_eq_mod, BitVec.toNat_ofInt]
    omega
  rw [e, IntKind.wrap_i64]
  omega
/-- The bytes of an op. -/
def insL (o d s f m z : Int) : List Int := [o % 256, (d * 16 + s + 1) % 256, f % 256, z % 256, m % 256, m / 256 % 256, m / 65536 % 256, m / 16777216 % 256]
theorem shr_int (m : Nat) (k : Nat) (hk : k ≤ 64) : shr .i64 (m : Int) (k : Int) = (m : Int) / ((2 ^ k : Nat) : Int) := by rw [shr_nat m hk, Int.natCast_ediv]
theorem specPut_eq (o s f z : Int) {d m : Int} (hd : 0 ≤ d ∧ d ≤ 10) (hs : -1 ≤ s ∧ s ≤ 10) : spec_l1Put.f o d s f m z = some (strOfNums (insL o d s f m z)) := by
  unfold spec_l1Put.f spec_l1Four.f
  simp only [Option.bind_some, and_255]
  rw [wrap64_id (n := d * 16) (by omega) (by omega), wrap64_id (n := d * 16 + s) (by omega) (by omega), wrap64_id (n := d * 16 + s + 1) (by omega) (by omega), if_pos (by simp only [strOfNums_size, List.length_cons, List.length_nil]; omega), strOfNums_app]
  rfl
theorem implPut_eq {o d s f m z : Int} (h : InsI o d s f m z) {k : Nat} (hk : 5 ≤ k) : impl_InsPut.f k o d s f m z = some (strOfNums (insL o d s f m z)) := by
  obtain ⟨_, hd, hs, _, hm, _⟩ := InsI.range h
  obtain ⟨n, rfl⟩ := Int.eq_ofNat_of_zero_le hm.1
  obtain ⟨k, rfl⟩ : ∃ q, k = q + 5 := ⟨k - 5, by omega⟩
  unfold impl_InsPut.f
  rw [implInsOk_eq, decide_eq_true h]
  simp only [Option.bind_some, if_true]
  rw [wrap64_id (n := d * 16) (by omega) (by omega), wrap64_id (n := d * 16 + s) (by omega) (by omega), wrap64_id (n := d * 16 + s + 1) (by omega) (by omega)]
  have w0 : wrap64 (8 * 0) = ((0 : Nat) : Int) := by unfold wrap64; omega
  have w1 : wrap64 (8 * 1) = ((8 : Nat) : Int) := by unfold wrap64; omega
  have w2 : wrap64 (8 * 2) = ((16 : Nat) : Int) := by unfold wrap64; omega
  have w3 : wrap64 (8 * 3) = ((24 : Nat) : Int) := by unfold wrap64; omega
  have s1 : wrap64 (0 + 1) = 1 := by unfold wrap64; omega
  have s2 : wrap64 (1 + 1) = 2 := by unfold wrap64; omega
  have s3 : wrap64 (2 + 1) = 3 := by unfold wrap64; omega
  have s4 : wrap64 (3 + 1) = 4 := by unfold wrap64; omega
  simp only [impl_InsPut.l0, w0, w1, w2, w3, s1, s2, s3, s4]
  rw [shr_int n 0 (by omega), shr_int n 8 (by omega), shr_int n 16 (by omega), shr_int n 24 (by omega)]
  rw [if_pos (by decide), if_pos (by decide), if_pos (by simp), if_pos (by decide), if_pos (by decide), if_pos (by simp), if_pos (by decide), if_pos (by decide), if_pos (by simp), if_pos (by decide), if_pos (by decide), if_pos (by simp), if_neg (by decide)]
  simp only [List.cons_append, List.nil_append]
  unfold insL
  congr 3
  simp
/-- What a byte of an op's bytes is. -/
theorem insL_len (o d s f m z : Int) : (strOfNums (insL o d s f m z)).size = 8 := by rw [strOfNums_size]; rfl
theorem bt_range (s : ByteArray) (i : Int) : 0 ≤ bt s i ∧ bt s i ≤ 255 := by
  unfold bt
  split
  · rename_i h
    have := (s[i.toNat]'h).toNat_lt
    omega
  · omega
/-- The op that bytes tell. -/
def decO (s : ByteArray) : Int := bt s 0
def decD (s : ByteArray) : Int := bt s 1 / 16
def decS (s : ByteArray) : Int := bt s 1 % 16 - 1
def decF (s : ByteArray) : Int := if bt s 2 > 127 then bt s 2 - 256 else bt s 2
def decM (s : ByteArray) : Int := bt s 4 + bt s 5 * 256 + bt s 6 * 65536 + bt s 7 * 16777216
def decZ (s : ByteArray) : Int := bt s 3
theorem or_shift {a b k : Nat} (ha : a < 2 ^ k) (hk : k ≤ 32) (hb : b < 256) : Go.bits .or .i64 (a : Int) ((b * 2 ^ k : Nat) : Int) = ((a + b * 2 ^ k : Nat) : Int) := by
  have h1 := Nat.pow_le_pow_right (n := 2) (by decide) hk
  have h2 : b * 2 ^ k ≤ 255 * 4294967296 := Nat.mul_le_mul (by omega) h1
  rw [bor (by omega) (by omega), Nat.or_comm, Nat.add_comm, Nat.mul_comm, ← Nat.two_pow_add_eq_or_of_lt ha b]
theorem decM_or {b4 b5 b6 b7 : Int} (h4 : 0 ≤ b4 ∧ b4 ≤ 255) (h5 : 0 ≤ b5 ∧ b5 ≤ 255) (h6 : 0 ≤ b6 ∧ b6 ≤ 255) (h7 : 0 ≤ b7 ∧ b7 ≤ 255) :
    Go.bits .or .i64 (Go.bits .or .i64 (Go.bits .or .i64 b4 (b5 * 256)) (b6 * 65536)) (b7 * 16777216) = b4 + b5 * 256 + b6 * 65536 + b7 * 16777216 := by
  obtain ⟨x4, rfl⟩ := Int.eq_ofNat_of_zero_le h4.1
  obtain ⟨x5, rfl⟩ := Int.eq_ofNat_of_zero_le h5.1
  obtain ⟨x6, rfl⟩ := Int.eq_ofNat_of_zero_le h6.1
  obtain ⟨x7, rfl⟩ := Int.eq_ofNat_of_zero_le h7.1
  have e1 := or_shift (a := x4) (b := x5) (k := 8) (by omega) (by omega) (by omega)
  have e2 := or_shift (a := x4 + x5 * 2 ^ 8) (b := x6) (k := 16) (by omega) (by omega) (by omega)
  have e3 := or_shift (a := x4 + x5 * 2 ^ 8 + x6 * 2 ^ 16) (b := x7) (k := 24) (by omega) (by omega) (by omega)
  rw [show (x5 : Int) * 256 = ((x5 * 2 ^ 8 : Nat) : Int) by omega, show (x6 : Int) * 65536 = ((x6 * 2 ^ 16 : Nat) : Int) by omega, show (x7 : Int) * 16777216 = ((x7 * 2 ^ 24 : Nat) : Int) by omega, e1, e2, e3]
  omega
theorem specGet_eq {s : ByteArray} (h : (s.size : Int) = 8) : spec_l1Get.f s = some (decO s, decD s, decS s, decF s, decM s, decZ s) := by
  unfold spec_l1Get.f decO decD decS decF decM decZ
  have r0 := bt_range s 0
  have r1 := bt_range s 1
  have r2 := bt_range s 2
  have r3 := bt_range s 3
  have r4 := bt_range s 4
  have r5 := bt_range s 5
  have r6 := bt_range s 6
  have r7 := bt_range s 7
  rw [wrap64_id (n := bt s 0) (by omega) (by omega), wrap64_id (n := bt s 1) (by omega) (by omega), wrap64_id (n := bt s 2) (by omega) (by omega), wrap64_id (n := bt s 3) (by omega) (by omega), wrap64_id (n := bt s 4) (by omega) (by omega), wrap64_id (n := bt s 5) (by omega) (by omega), wrap64_id (n := bt s 6) (by omega) (by omega), wrap64_id (n := bt s 7) (by omega) (by omega)]
  rw [wrap64_id (n := bt s 5 * 256) (by omega) (by omega), wrap64_id (n := bt s 6 * 65536) (by omega) (by omega), wrap64_id (n := bt s 7 * 16777216) (by omega) (by omega), decM_or r4 r5 r6 r7, Int.tdiv_eq_ediv_of_nonneg r1.1, Int.tmod_eq_emod_of_nonneg r1.1]
  rw [wrap64_id (n := bt s 1 / 16) (by omega) (by omega), wrap64_id (n := bt s 1 % 16 - 1) (by omega) (by omega), wrap64_id (n := bt s 2 - 256) (by omega) (by omega)]
  rw [h]
  by_cases c : bt s 2 > 127
  · simp [c]
  · simp [c]
theorem shl_byte {b : Int} (h : 0 ≤ b ∧ b ≤ 255) {k : Nat} (hk : k ≤ 24) : shl .i64 b (k : Int) = b * ((2 ^ k : Nat) : Int) := by
  obtain ⟨x, rfl⟩ := Int.eq_ofNat_of_zero_le h.1
  have h1 := Nat.pow_le_pow_right (n := 2) (by decide) hk
  have h2 : x * 2 ^ k ≤ 255 * 2 ^ 24 := Nat.mul_le_mul (by omega) h1
  rw [shl_nat (by omega) (by omega), Int.natCast_mul]
/-- What reading an op answers. -/
def getO (s : ByteArray) : Int × Int × Int × Int × Int × Int × Bool :=
  if (s.size : Int) = 8 ∧ InsI (decO s) (decD s) (decS s) (decF s) (decM s) (decZ s) ∧ (strOfNums (insL (decO s) (decD s) (decS s) (decF s) (decM s) (decZ s))).toList = s.toList
  then (decO s, decD s, decS s, decF s, decM s, decZ s, true) else (0, 0, 0, 0, 0, 0, false)
theorem specInsGet_eq (s : ByteArray) : spec_InsGet.f s = some (getO s) := by
  unfold spec_InsGet.f getO
  by_cases h : (s.size : Int) = 8
  · rw [if_pos h, specGet_eq h]
    simp only [Option.bind_some, specInsOk_eq, decide_eq_true_eq]
    by_cases hi : InsI (decO s) (decD s) (decS s) (decF s) (decM s) (decZ s)
    · have hr := InsI.range hi
      rw [if_pos hi, specPut_eq _ _ _ _ hr.2.1 hr.2.2.1]
      simp only [Option.bind_some]
      by_cases e : (strOfNums (insL (decO s) (decD s) (decS s) (decF s) (decM s) (decZ s))).toList = s.toList
      · rw [if_pos e, if_pos ⟨h, hi, e⟩]
      · rw [if_neg e, if_neg (fun x => e x.2.2)]
    · rw [if_neg hi, if_neg (fun x => hi x.2.1)]
  · rw [if_neg h, if_neg (fun x => h x.1)]
theorem i8_eq (b : Int) : IntKind.i8.wrap b = if b % 256 ≥ 128 then b % 256 - 256 else b % 256 := by
  unfold IntKind.wrap
  simp [IntKind.bits, IntKind.signed]
theorem implInsGet_eq (s : ByteArray) {k : Nat} (hk : 10 ≤ k) : impl_InsGet.f k s = some (getO s) := by
  obtain ⟨k, rfl⟩ : ∃ q, k = q + 10 := ⟨k - 10, by omega⟩
  unfold impl_InsGet.f getO
  by_cases h : (s.size : Int) = 8
  · rw [if_pos h, if_pos (by omega), if_pos (by omega), if_pos (by omega), if_pos (by omega)]
    have r0 := bt_range s 0
    have r1 := bt_range s 1
    have r2 := bt_range s 2
    have r3 := bt_range s 3
    have r4 := bt_range s 4
    have r5 := bt_range s 5
    have r6 := bt_range s 6
    have r7 := bt_range s 7
    have i0 : wrap64 (4 + 0) = 4 := by unfold wrap64; omega
    have i1 : wrap64 (4 + 1) = 5 := by unfold wrap64; omega
    have i2 : wrap64 (4 + 2) = 6 := by unfold wrap64; omega
    have i3 : wrap64 (4 + 3) = 7 := by unfold wrap64; omega
    have w0 : wrap64 (8 * 0) = ((0 : Nat) : Int) := by unfold wrap64; omega
    have w1 : wrap64 (8 * 1) = ((8 : Nat) : Int) := by unfold wrap64; omega
    have w2 : wrap64 (8 * 2) = ((16 : Nat) : Int) := by unfold wrap64; omega
    have w3 : wrap64 (8 * 3) = ((24 : Nat) : Int) := by unfold wrap64; omega
    have s1 : wrap64 (0 + 1) = 1 := by unfold wrap64; omega
    have s2 : wrap64 (1 + 1) = 2 := by unfold wrap64; omega
    have s3 : wrap64 (2 + 1) = 3 := by unfold wrap64; omega
    have s4 : wrap64 (3 + 1) = 4 := by unfold wrap64; omega
    simp only [impl_InsGet.l0, i0, i1, i2, i3, w0, w1, w2, w3, s1, s2, s3, s4]
    rw [if_pos (by decide), if_pos (by decide), if_pos (by omega), if_pos (by decide), if_pos (by decide), if_pos (by decide), if_pos (by omega), if_pos (by decide), if_pos (by decide), if_pos (by decide), if_pos (by omega), if_pos (by decide), if_pos (by decide), if_pos (by decide), if_pos (by omega), if_pos (by decide), if_neg (by decide)]
    rw [wrap64_id (n := bt s 0) (by omega) (by omega), wrap64_id (n := bt s 3) (by omega) (by omega), wrap64_id (n := bt s 4) (by omega) (by omega), wrap64_id (n := bt s 5) (by omega) (by omega), wrap64_id (n := bt s 6) (by omega) (by omega), wrap64_id (n := bt s 7) (by omega) (by omega)]
    rw [shl_byte r4 (k := 0) (by omega), shl_byte r5 (k := 8) (by omega), shl_byte r6 (k := 16) (by omega), shl_byte r7 (k := 24) (by omega)]
    have z0 : Go.bits .or .i64 0 (bt s 4 * ((2 ^ 0 : Nat) : Int)) = bt s 4 := by
      obtain ⟨x, hx⟩ := Int.eq_ofNat_of_zero_le r4.1
      rw [hx, show (x : Int) * ((2 ^ 0 : Nat) : Int) = (x : Int) by simp, show (0 : Int) = ((0 : Nat) : Int) from rfl, bor (by decide) (by omega), Nat.zero_or]
    have eM : Go.bits .or .i64 (Go.bits .or .i64 (Go.bits .or .i64 (Go.bits .or .i64 0 (bt s 4 * ((2 ^ 0 : Nat) : Int))) (bt s 5 * ((2 ^ 8 : Nat) : Int))) (bt s 6 * ((2 ^ 16 : Nat) : Int))) (bt s 7 * ((2 ^ 24 : Nat) : Int)) = decM s := by
      rw [z0]; exact decM_or r4 r5 r6 r7
    have eD : Int.tdiv (bt s 1) 16 % 256 = decD s := by unfold decD; rw [Int.tdiv_eq_ediv_of_nonneg r1.1]; omega
    have eS : wrap64 (wrap64 (Int.tmod (bt s 1) 16) - 1) = decS s := by
      unfold decS
      rw [Int.tmod_eq_emod_of_nonneg r1.1, wrap64_id (n := bt s 1 % 16) (by omega) (by omega), wrap64_id (by omega) (by omega)]
    have eF : wrap64 (IntKind.i8.wrap (bt s 2)) = decF s := by
      unfold decF
      rw [i8_eq]
      by_cases c : bt s 2 > 127
      · rw [if_pos (by omega), if_pos c]; unfold wrap64; omega
      · rw [if_neg (by omega), if_neg c]; unfold wrap64; omega
    rw [eM, eD, eS, eF, implInsOk_eq]
    simp only [Option.bind_some, decide_eq_true_eq]
    show (if InsI (decO s) (decD s) (decS s) (decF s) (decM s) (decZ s) then _ else _) = _
    by_cases hi : InsI (decO s) (decD s) (decS s) (decF s) (decM s) (decZ s)
    · rw [if_pos hi]
      have := implPut_eq hi (k := k + 5) (by omega)
      show (impl_InsPut.f (k + 5) (decO s) (decD s) (decS s) (decF s) (decM s) (decZ s)).bind _ = _
      rw [this]
      simp only [Option.bind_some]
      by_cases e : (strOfNums (insL (decO s) (decD s) (decS s) (decF s) (decM s) (decZ s))).toList = s.toList
      · rw [if_pos e, if_pos ⟨h, hi, e⟩]; rfl
      · rw [if_neg e, if_neg (fun x => e x.2.2)]
    · rw [if_neg hi, if_neg (fun x => hi x.2.1)]
  · rw [if_neg h, if_neg (fun x => h x.1)]
theorem Gives.iteP {α : Type} {c : Prop} [Decidable c] {a b : Option α} {P : α → Prop} (h : c) (g : Gives a P) : Gives (if c then a else b) P := by rw [if_pos h]; exact g
theorem dec_pos (d : Nat) : d ≤ 20 → ∀ (k : Nat) (a : Int), 0 ≤ a → a ≤ 9223372036854775807 → a < 10 ^ (d + 1) → d < k → Gives (spec_l1Dec.f k a) (fun s => s.size ≤ d + 1) := by
  induction d with
  | zero =>
    intro _ k a h0 _ h1 hk
    obtain ⟨k, rfl⟩ : ∃ m, k = m + 1 := ⟨k - 1, by omega⟩
    rw [spec_l1Dec.f, if_neg (by omega), if_neg (by omega), if_pos (by omega)]
    exact Gives.ret (by rw [strOfNums_size]; simp)
  | succ d ih =>
    intro hd k a h0 hm h1 hk
    obtain ⟨k, rfl⟩ : ∃ m, k = m + 1 := ⟨k - 1, by omega⟩
    rw [spec_l1Dec.f, if_neg (by omega), if_neg (by omega)]
    refine Gives.ite (fun _ => Gives.ret (by rw [strOfNums_size]; simp)) (fun h => ?_)
    rw [Int.pow_succ] at h1
    have hlt : a / 10 < 10 ^ (d + 1) := by omega
    rw [Int.tdiv_eq_ediv_of_nonneg h0, wrap64_id (n := a / 10) (by omega) (by omega)]
    refine (ih (by omega) k (a / 10) (by omega) (by omega) hlt (by omega)).bind fun t ht => ?_
    simp only [Option.bind_some]
    refine Gives.iteP ?_ (Gives.ret ?_)
    · rw [strOfNums_size]
      simp only [List.length_cons, List.length_nil]
      omega
    · rw [ByteArray.size_append, strOfNums_size]
      simp only [List.length_cons, List.length_nil]
      omega
theorem dec_gives {a : Int} (h0 : -1000000000000 < a) (h1 : a < 1000000000000) {k : Nat} (hk : 20 < k) : Gives (spec_l1Dec.f k a) (fun s => s.size ≤ 20) := by
  by_cases h : 0 ≤ a
  · exact (dec_pos 12 (by decide) k a h (by omega) (by omega) (by omega)).mono fun s hs => by omega
  · obtain ⟨k, rfl⟩ : ∃ m, k = m + 1 := ⟨k - 1, by omega⟩
    rw [spec_l1Dec.f, if_neg (by omega), if_pos (by omega), wrap64_id (n := -a) (by omega) (by omega)]
    refine (dec_pos 12 (by decide) k (-a) (by omega) (by omega) (by omega) (by omega)).bind fun t ht => ?_
    refine Gives.iteP (by omega) (Gives.ret ?_)
    rw [ByteArray.size_append]
    have : (⟨#[45]⟩ : ByteArray).size = 1 := rfl
    omega
/-- All texts of a list are short. -/
def Texts (l : List ByteArray) (n : Nat) : Prop := ∀ s ∈ l, s.size ≤ n
theorem rdOf_mem {l : List ByteArray} {i : Int} (h0 : 0 ≤ i) (h1 : i < (l.length : Int)) : rdOf ByteArray.empty l i ∈ l := by
  unfold rdOf
  have h : i.toNat < l.length := by omega
  rw [List.getD_eq_getElem?_getD, List.getElem?_eq_getElem h]
  exact List.getElem_mem h
theorem find_text (s : ByteArray) (l : List ByteArray) (hl : l.length ≤ 1000) (d : Nat) : ∀ (k p : Nat), p + d = l.length → d < k → Gives (spec_l1Find.l0 k l s (p : Int)) (fun _ => True) := by
  induction d with
  | zero =>
    intro k p hp hk
    obtain ⟨k, rfl⟩ : ∃ m, k = m + 1 := ⟨k - 1, by omega⟩
    rw [spec_l1Find.l0, if_neg (by omega)]
    exact Gives.ret trivial
  | succ d ih =>
    intro k p hp hk
    obtain ⟨k, rfl⟩ : ∃ m, k = m + 1 := ⟨k - 1, by omega⟩
    rw [spec_l1Find.l0, if_pos (by omega), if_pos (by omega)]
    refine Gives.ite (fun _ => Gives.ret trivial) (fun _ => ?_)
    rw [w_succ (by omega)]
    exact ih k (p + 1) (by omega) (by omega)
theorem find_text_gives (s : ByteArray) (l : List ByteArray) (hl : l.length ≤ 1000) {k : Nat} (hk : l.length < k) : Gives (spec_l1Find.f k l s) (fun _ => True) := find_text s l hl l.length k 0 (by omega) hk
theorem num_from (s : ByteArray) (hs : s.size ≤ 1000) (d : Nat) : ∀ (k p : Nat) (n : Int), p + d = s.size → 2 * d + 2 < k → Gives (spec_l1Num.l0 k s n (p : Int)) (fun _ => True) := by
  induction d with
  | zero =>
    intro k p n hp hk
    obtain ⟨k, rfl⟩ : ∃ m, k = m + 2 := ⟨k - 2, by omega⟩
    rw [spec_l1Num.l0, if_neg (by omega)]
    have fin : ∀ t, Gives (spec_l1Num.j2 (k + 1) n t) (fun _ => True) := by
      intro t
      rw [spec_l1Num.j2]
      exact Gives.ite (fun _ => Gives.ret trivial) (fun _ => Gives.ret trivial)
    refine Gives.ite (fun _ => fin _) (fun h => Gives.ite (fun _ => Gives.iteP (by omega) (fin _)) (fun _ => fin _))
  | succ d ih =>
    intro k p n hp hk
    obtain ⟨k, rfl⟩ : ∃ m, k = m + 2 := ⟨k - 2, by omega⟩
    rw [spec_l1Num.l0, if_pos (by omega), if_pos (by omega)]
    have fin : ∀ t, Gives (spec_l1Num.j1 (k + 1) s n p t) (fun _ => True) := by
      intro t
      rw [spec_l1Num.j1]
      refine Gives.ite (fun _ => Gives.ret trivial) (fun _ => ?_)
      rw [if_pos (by omega), if_pos (by omega), w_succ (by omega)]
      exact ih k (p + 1) _ (by omega) (by omega)
    exact Gives.ite (fun _ => fin _) (fun _ => Gives.ite (fun _ => fin _) (fun _ => fin _))
theorem num_gives {s : ByteArray} (hs : s.size ≤ 100) {k : Nat} (hk : 210 < k) : Gives (spec_l1Num.f k s) (fun _ => True) := num_from s (by omega) s.size k 0 0 (by omega) (by omega)
theorem extract_le (s : ByteArray) (a b : Nat) : (s.extract a b).size ≤ s.size := by rw [ByteArray.size_extract]; omega
theorem readReg_gives {s : ByteArray} (hs : s.size ≤ 100) {k : Nat} (hk : 220 < k) : Gives (spec_l1ReadReg.f k s) (fun _ => True) := by
  obtain ⟨k, rfl⟩ : ∃ m, k = m + 1 := ⟨k - 1, by omega⟩
  have ht : ∀ t, (t = true → 1 ≤ s.size) → Gives (spec_l1ReadReg.j0 (k + 1) s t) (fun _ => True) := by
    intro t h
    rw [spec_l1ReadReg.j0]
    refine Gives.ite (fun e => ?_) (fun _ => (num_gives hs (by omega)).bind fun v hv => Gives.ret trivial)
    refine Gives.iteP (by have := h e; omega) ?_
    exact (num_gives (Nat.le_trans (extract_le _ _ _) hs) (by omega)).bind fun v hv => Gives.ite (fun _ => Gives.ret trivial) (fun _ => Gives.ret trivial)
  unfold spec_l1ReadReg.f
  refine Gives.ite (fun h => Gives.iteP (by omega) (ht _ fun _ => by omega)) (fun _ => ht _ fun e => by cases e)
theorem signed_gives {s : ByteArray} (hs : s.size ≤ 100) {k : Nat} (hk : 220 < k) : Gives (spec_l1Signed.f k s) (fun _ => True) := by
  obtain ⟨k, rfl⟩ : ∃ m, k = m + 1 := ⟨k - 1, by omega⟩
  have ht : ∀ t, (t = true → 1 ≤ s.size) → Gives (spec_l1Signed.j0 (k + 1) s t) (fun _ => True) := by
    intro t h
    rw [spec_l1Signed.j0]
    refine Gives.ite (fun e => ?_) (fun _ => (num_gives hs (by omega)).bind fun v hv => Gives.ite (fun _ => Gives.ret trivial) (fun _ => Gives.ret trivial))
    refine Gives.iteP (by have := h e; omega) ?_
    exact (num_gives (Nat.le_trans (extract_le _ _ _) hs) (by omega)).bind fun v hv => Gives.ite (fun _ => Gives.ret trivial) (fun _ => Gives.ret trivial)
  unfold spec_l1Signed.f
  refine Gives.ite (fun h => Gives.iteP (by omega) (ht _ fun _ => by omega)) (fun _ => ht _ fun e => by cases e)
theorem cut_from (s : ByteArray) (b m : Int) (hs : s.size ≤ 100) (d : Nat) : ∀ (k p f : Nat) (l : List ByteArray), p + d = s.size → f ≤ p → l.length ≤ p → Texts l 100 → 2 * d + 2 < k → Gives (spec_l1Cut.l0 k s b m l (f : Int) (p : Int)) (fun v => 1 ≤ v.length ∧ Texts v 100) := by
  induction d with
  | zero =>
    intro k p f l hp hf hl ht hk
    obtain ⟨k, rfl⟩ : ∃ q, k = q + 2 := ⟨k - 2, by omega⟩
    rw [spec_l1Cut.l0, if_neg (by omega), spec_l1Cut.j1, if_neg (by decide), if_pos (by omega), if_pos (by omega), if_pos (by omega)]
    refine Gives.ret ⟨by simp, fun x hx => ?_⟩
    rcases List.mem_append.1 hx with h | h
    · exact ht x h
    · rw [List.mem_singleton.1 h]; exact Nat.le_trans (extract_le _ _ _) hs
  | succ d ih =>
    intro k p f l hp hf hl ht hk
    obtain ⟨k, rfl⟩ : ∃ q, k = q + 2 := ⟨k - 2, by omega⟩
    rw [spec_l1Cut.l0, if_pos (by omega), spec_l1Cut.j1]
    have hx : ∀ {a c : Nat}, Texts (l ++ [s.extract a c]) 100 := by
      intro a c x hx
      rcases List.mem_append.1 hx with h | h
      · exact ht x h
      · rw [List.mem_singleton.1 h]; exact Nat.le_trans (extract_le _ _ _) hs
    refine Gives.ite (fun _ => ?_) (fun _ => ?_)
    · rw [if_pos (by omega), if_pos (by omega)]
      refine Gives.ite (fun _ => ?_) (fun _ => ?_)
      · rw [if_pos (by omega), if_pos (by omega), if_pos (by omega), if_pos (by omega), w_succ (by omega)]
        exact ih k (p + 1) (p + 1) _ (by omega) (by omega) (by simp; omega) hx (by omega)
      · rw [w_succ (by omega)]
        exact ih k (p + 1) f l (by omega) (by omega) (by omega) ht (by omega)
    · rw [if_pos (by omega), if_pos (by omega), if_pos (by omega)]
      exact Gives.ret ⟨by simp, hx⟩
theorem cut_gives {s : ByteArray} (b m : Int) (hs : s.size ≤ 100) {k : Nat} (hk : 210 < k) : Gives (spec_l1Cut.f k s b m) (fun v => 1 ≤ v.length ∧ Texts v 100) :=
  cut_from s b m hs s.size k 0 0 [] (by omega) (by omega) (by simp) (fun x hx => by cases hx) (by omega)
theorem toList_size {a b : ByteArray} (h : a.toList = b.toList) : a.size = b.size := by
  rw [Go.ByteArray.toList_eq, Go.ByteArray.toList_eq] at h
  have := congrArg List.length h
  simpa using this
theorem words_ex : ∃ W, spec_l1Words.f = some W ∧ W.length = 21 ∧ Texts W 10 := ⟨_, rfl, rfl, by unfold Texts; decide⟩
theorem calls_ex : ∃ W, spec_l1Calls.f = some W ∧ W.length = 7 ∧ Texts W 10 := ⟨_, rfl, rfl, by unfold Texts; decide⟩
theorem reg_gives {s m : Int} (hs : -1 ≤ s ∧ s ≤ 10) (hm : 0 ≤ m ∧ m ≤ 4294967295) {k : Nat} (hk : 20 < k) : Gives (spec_l1Reg.f k s m) (fun t => t.size ≤ 21) := by
  unfold spec_l1Reg.f
  have z1 : (⟨#[114]⟩ : ByteArray).size = 1 := rfl
  refine Gives.ite (fun _ => ?_) (fun _ => ?_)
  · refine (dec_gives (by omega) (by omega) hk).bind fun t ht => Gives.iteP (by omega) (Gives.ret ?_)
    rw [ByteArray.size_append]
    omega
  · exact (dec_gives (by omega) (by omega) hk).bind fun t ht => Gives.ret (Nat.le_trans ht (by decide))
theorem line_gives {o d s f m z : Int} (h : InsI o d s f m z) {k : Nat} (hk : 20 < k) : Gives (spec_l1Line.f k o d s f m z) (fun _ => True) := by
  obtain ⟨ho, hd, hs, hf, hm, hz⟩ := InsI.range h
  obtain ⟨W, hW, hl, hw⟩ := words_ex
  obtain ⟨C, hC, hcl, hcw⟩ := calls_ex
  have h19 : o = 19 → 1 ≤ m ∧ m ≤ 6 := by
    intro e
    subst e
    unfold InsI at h
    simp at h
    omega
  have hc19 : o = 19 → (rdOf ByteArray.empty C m).size ≤ 10 := fun e => hcw _ (rdOf_mem (by have := h19 e; omega) (by have := h19 e; omega))
  have hwo : (rdOf ByteArray.empty W o).size ≤ 10 := hw _ (rdOf_mem (by omega) (by omega))
  unfold spec_l1Line.f
  rw [hW, hC]
  simp only [Option.bind_some]
  rw [if_pos (by omega), if_pos (by omega)]
  generalize rdOf ByteArray.empty W o = w at *
  have z1 : (⟨#[32]⟩ : ByteArray).size = 1 := rfl
  have z2 : (⟨#[32, 114]⟩ : ByteArray).size = 2 := rfl
  simp only [spec_l1Alu.f, spec_l1Jump.f, l1In_eq, Option.bind_some, decide_eq_true_eq]
  clear h hW hC hw hcw
  repeat' (first
    | exact Gives.ret trivial
    | (refine Gives.iteP (by (try simp only [ByteArray.size_append, z1, z2]); omega) ?_)
    | (refine (dec_gives (by omega) (by omega) (by omega)).bind fun t ht => ?_)
    | (refine (reg_gives hs hm (by omega)).bind fun t ht => ?_)
    | (refine Gives.ite (fun h => ?_) (fun h => ?_)))
theorem read6 (l : List ByteArray) (_ht : Texts l 100) {k : Nat} (hk : 230 < k) (t : Bool) (h : t = true → l.length = 2) (a b c d e f : Int) : Gives (spec_l1Read.j6 k l t a b c d e f) (fun _ => True) := by
  obtain ⟨k, rfl⟩ : ∃ m, k = m + 1 := ⟨k - 1, by omega⟩
  obtain ⟨C, hC, hcl, hcw⟩ := calls_ex
  rw [spec_l1Read.j6, hC]
  refine Gives.ite (fun z => ?_) (fun _ => Gives.ret trivial)
  have hn := h z
  simp only [Option.bind_some]
  refine Gives.iteP (by omega) ?_
  exact (find_text_gives _ _ (by omega) (by omega)).bind fun v hv => Gives.ret trivial
theorem short {l : List ByteArray} (ht : Texts l 100) {i : Int} (h0 : 0 ≤ i) (h1 : i < (l.length : Int)) : (rdOf ByteArray.empty l i).size ≤ 100 := ht _ (rdOf_mem h0 h1)
theorem read5 (l : List ByteArray) (ht : Texts l 100) {k : Nat} (hk : 240 < k) (t : Bool) (h : t = true → l.length = 4) (a b c d e f : Int) : Gives (spec_l1Read.j5 k l (l.length : Int) t a b c d e f) (fun _ => True) := by
  obtain ⟨k, rfl⟩ : ∃ m, k = m + 1 := ⟨k - 1, by omega⟩
  rw [spec_l1Read.j5]
  refine Gives.ite (fun z => ?_) (fun _ => Gives.ite (fun _ => read6 l ht (by omega) _ (fun z => by rw [beq_iff_eq] at z; omega) _ _ _ _ _ _) (fun _ => read6 l ht (by omega) _ (fun z => by cases z) _ _ _ _ _ _))
  have hn := h z
  refine Gives.iteP (by omega) ((readReg_gives (short ht (by omega) (by omega)) (by omega)).bind fun v hv => ?_)
  refine Gives.iteP (by omega) ((readReg_gives (short ht (by omega) (by omega)) (by omega)).bind fun v hv => ?_)
  exact Gives.iteP (by omega) ((signed_gives (short ht (by omega) (by omega)) (by omega)).bind fun v hv => Gives.ret trivial)
theorem read4 (l : List ByteArray) (ht : Texts l 100) {k : Nat} (hk : 250 < k) (t : Bool) (h : t = true → l.length = 4) (a b c d e f : Int) : Gives (spec_l1Read.j4 k l (l.length : Int) t a b c d e f) (fun _ => True) := by
  obtain ⟨k, rfl⟩ : ∃ m, k = m + 1 := ⟨k - 1, by omega⟩
  rw [spec_l1Read.j4]
  refine Gives.ite (fun z => ?_) (fun _ => Gives.ite (fun _ => read5 l ht (by omega) _ (fun z => by rw [beq_iff_eq] at z; omega) _ _ _ _ _ _) (fun _ => read5 l ht (by omega) _ (fun z => by cases z) _ _ _ _ _ _))
  have hn := h z
  refine Gives.iteP (by omega) ((readReg_gives (short ht (by omega) (by omega)) (by omega)).bind fun v hv => ?_)
  refine Gives.iteP (by omega) ((readReg_gives (short ht (by omega) (by omega)) (by omega)).bind fun v hv => ?_)
  exact Gives.iteP (by omega) ((signed_gives (short ht (by omega) (by omega)) (by omega)).bind fun v hv => Gives.ret trivial)
theorem read3 (l : List ByteArray) (ht : Texts l 100) {k : Nat} (hk : 260 < k) (t : Bool) (h : t = true → l.length = 2) (a b c d e f : Int) : Gives (spec_l1Read.j3 k l (l.length : Int) t a b c d e f) (fun _ => True) := by
  obtain ⟨k, rfl⟩ : ∃ m, k = m + 1 := ⟨k - 1, by omega⟩
  rw [spec_l1Read.j3]
  refine Gives.ite (fun z => ?_) (fun _ => Gives.ite (fun _ => read4 l ht (by omega) _ (fun z => by rw [beq_iff_eq] at z; omega) _ _ _ _ _ _) (fun _ => read4 l ht (by omega) _ (fun z => by cases z) _ _ _ _ _ _))
  have hn := h z
  exact Gives.iteP (by omega) ((signed_gives (short ht (by omega) (by omega)) (by omega)).bind fun v hv => Gives.ret trivial)
theorem read2 (l : List ByteArray) (ht : Texts l 100) {k : Nat} (hk : 270 < k) (t : Bool) (h : t = true → l.length = 3 ∨ l.length = 4) (a b c d e f : Int) : Gives (spec_l1Read.j2 k l (l.length : Int) t a b c d e f) (fun _ => True) := by
  obtain ⟨k, rfl⟩ : ∃ m, k = m + 1 := ⟨k - 1, by omega⟩
  rw [spec_l1Read.j2]
  refine Gives.ite (fun z => ?_) (fun _ => Gives.ite (fun _ => read3 l ht (by omega) _ (fun z => by rw [beq_iff_eq] at z; omega) _ _ _ _ _ _) (fun _ => read3 l ht (by omega) _ (fun z => by cases z) _ _ _ _ _ _))
  have hn := h z
  refine Gives.iteP (by omega) ((readReg_gives (short ht (by omega) (by omega)) (by omega)).bind fun v hv => ?_)
  refine Gives.iteP (by omega) ((readReg_gives (short ht (by omega) (by omega)) (by omega)).bind fun v hv => ?_)
  refine Gives.ite (fun _ => ?_) (fun _ => Gives.ret trivial)
  exact Gives.iteP (by omega) ((signed_gives (short ht (by omega) (by omega)) (by omega)).bind fun v hv => Gives.ret trivial)
theorem read_end (l : List ByteArray) (ht : Texts l 100) {k : Nat} (hk : 280 < k) (a b c d e f : Int) : Gives (spec_l1Read.l0 k l 8 a b c d e f) (fun _ => True) := by
  obtain ⟨k, rfl⟩ : ∃ m, k = m + 1 := ⟨k - 1, by omega⟩
  rw [spec_l1Read.l0, if_neg (by decide)]
  simp only [spec_l1Alu.f, spec_l1Jump.f, l1In_eq, Option.bind_some]
  repeat' (first
    | (refine read2 l ht (by omega) _ (fun z => ?_) _ _ _ _ _ _)
    | (refine Gives.ite (fun h => ?_) (fun h => ?_)))
  all_goals (first | (left; omega) | (rw [beq_iff_eq] at z; right; omega) | cases z)
theorem read_step (l : List ByteArray) (h1 : 1 ≤ l.length) {k : Nat} (hk : 30 < k) {x : Int} (hx : x = 1 ∨ x = 2 ∨ x = 4) (next : ∀ a b c d e f, Gives (spec_l1Read.l0 k l (x * 2) a b c d e f) (fun _ => True)) (a b c d e f : Int) : Gives (spec_l1Read.l0 (k + 2) l x a b c d e f) (fun _ => True) := by
  obtain ⟨W, hW, hl, hw⟩ := words_ex
  have one : ∀ t : Bool, (t = true → 1 ≤ (rdOf ByteArray.empty l 0).size ∧ (rdOf ByteArray.empty l 0).size ≤ 1000) → Gives (spec_l1Read.j1 (k + 1) l x t a b c d e f) (fun _ => True) := by
    intro t h
    rw [spec_l1Read.j1, hW, wrap64_id (n := x * 2) (by omega) (by omega)]
    refine Gives.ite (fun z => ?_) (fun _ => next _ _ _ _ _ _)
    have hz := h z
    simp only [Option.bind_some]
    rw [wrap64_id (n := ((rdOf ByteArray.empty l 0).size : Int) - 1) (by omega) (by omega)]
    refine Gives.iteP (by omega) (Gives.iteP (by omega) (Gives.iteP (by omega) ?_))
    exact (find_text_gives _ _ (by omega) (by omega)).bind fun v hv => next _ _ _ _ _ _
  have z4 : (⟨#[108, 111, 97, 100]⟩ : ByteArray).size = 4 := rfl
  have z5 : (⟨#[115, 116, 111, 114, 101]⟩ : ByteArray).size = 5 := rfl
  rw [spec_l1Read.l0]
  refine Gives.iteP (by omega) (Gives.iteP (by omega) ?_)
  refine (dec_gives (by omega) (by omega) (by omega)).bind fun t ht => Gives.iteP (by omega) ?_
  refine Gives.ite (fun e => one true fun _ => ?_) (fun _ => ?_)
  · have := toList_size e
    rw [ByteArray.size_append] at this
    omega
  · refine (dec_gives (by omega) (by omega) (by omega)).bind fun u hu => Gives.iteP (by omega) (one _ fun z => ?_)
    rw [beq_iff_eq] at z
    have := toList_size z
    rw [ByteArray.size_append] at this
    omega
theorem readL_gives {l : List ByteArray} (h1 : 1 ≤ l.length) (ht : Texts l 100) {k : Nat} (hk : 300 < k) : Gives (spec_l1Read.f k l) (fun _ => True) := by
  obtain ⟨k, rfl⟩ : ∃ m, k = m + 6 := ⟨k - 6, by omega⟩
  obtain ⟨W, hW, hl, hw⟩ := words_ex
  unfold spec_l1Read.f
  rw [hW]
  simp only [Option.bind_some]
  refine Gives.iteP (by omega) ((find_text_gives _ _ (by omega) (by omega)).bind fun v hv => ?_)
  refine read_step l h1 (by omega) (Or.inl rfl) (fun a b c d e f => ?_) _ _ _ _ _ _
  refine read_step l h1 (by omega) (Or.inr (Or.inl rfl)) (fun a b c d e f => ?_) _ _ _ _ _ _
  refine read_step l h1 (by omega) (Or.inr (Or.inr rfl)) (fun a b c d e f => ?_) _ _ _ _ _ _
  exact read_end l ht (by omega) _ _ _ _ _ _
theorem lineGet_gives {s : ByteArray} (hs : s.size ≤ 100) {k : Nat} (hk : 300 < k) : Gives (spec_LineGet.f k s) (fun _ => True) := by
  unfold spec_LineGet.f
  refine (cut_gives 32 5 hs (by omega)).bind fun l hl => (readL_gives hl.1 hl.2 hk).bind fun v _ => ?_
  rw [specInsOk_eq]
  simp only [Option.bind_some, decide_eq_true_eq]
  refine Gives.ite (fun h => ?_) (fun _ => Gives.ret trivial)
  exact (line_gives h (by omega)).bind fun t _ => Gives.ite (fun _ => Gives.ret trivial) (fun _ => Gives.ret trivial)
theorem lines_from (l : List ByteArray) (ht : Texts l 100) (hl : l.length ≤ 100) (n : Nat) : ∀ (k p : Nat) (acc : List S38), p + n = l.length → acc.length = p → n + 300 < k → Gives (spec_l20Read.l0 k l acc (p : Int)) (fun v => v.length = l.length) := by
  induction n with
  | zero =>
    intro k p acc hp ha hk
    obtain ⟨k, rfl⟩ : ∃ m, k = m + 1 := ⟨k - 1, by omega⟩
    rw [spec_l20Read.l0, if_neg (by omega)]
    exact Gives.ret (by omega)
  | succ n ih =>
    intro k p acc hp ha hk
    obtain ⟨k, rfl⟩ : ∃ m, k = m + 1 := ⟨k - 1, by omega⟩
    rw [spec_l20Read.l0, if_pos (by omega), if_pos (by omega)]
    refine (lineGet_gives (short ht (by omega) (by omega)) (by omega)).bind fun v _ => Gives.iteP (by omega) ?_
    rw [w_succ (by omega)]
    exact ih k (p + 1) _ (by omega) (by simp; omega) (by omega)
theorem lines_gives {l : List ByteArray} (ht : Texts l 100) (hl : l.length ≤ 100) {k : Nat} (hk : 410 < k) : Gives (spec_l20Read.f k l) (fun v => v.length = l.length) :=
  lines_from l ht hl l.length k 0 [] (by omega) rfl (by omega)
theorem alu_gives {b : List Int} (hb : Bytes b) {p : Int} (h0 : 0 ≤ p) (h1 : p ≤ 9900) {k : Nat} (hk : 0 < k) : Gives (spec_l20Alu.f k b p) (fun v => 0 ≤ v.2.2.2.2.2.2 ∧ v.2.2.2.2.2.2 ≤ p + 5) := by
  unfold spec_l20Alu.f
  refine (pick_gives hb h0 (by omega) (by decide) hk).bind fun v1 q1 => ?_
  refine (one_gives hb (by omega) (by omega) (by decide) hk).bind fun v2 q2 => ?_
  refine (imm_gives hb (by omega) (by omega) hk).bind fun v3 q3 => ?_
  refine (pick_gives hb (by omega) (by omega) (by decide) hk).bind fun v4 q4 => ?_
  refine Gives.ite (fun _ => ?_) (fun _ => Gives.ret ⟨by show 0 ≤ v4.2; omega, by show v4.2 ≤ _; omega⟩)
  exact (one_gives hb (by omega) (by omega) (by decide) hk).bind fun v5 q5 => Gives.ret ⟨by show 0 ≤ v5.2; omega, by show v5.2 ≤ _; omega⟩
theorem make_from {b : List Int} (hb : Bytes b) (d : Nat) : ∀ (k : Nat) (l : List S38) (n p : Int), (l.length : Int) + d = n + 4 → 0 ≤ n → n ≤ 30 → 1 ≤ l.length → 0 ≤ p → p + 10 * d ≤ 9000 → 2 * d + 2 < k →
    Gives (spec_l20Make.l0 k l n b p) (fun v => 1 ≤ v.1.length ∧ v.1.length ≤ 50 ∧ 0 ≤ v.2 ∧ v.2 ≤ p + 10 * d) := by
  induction d with
  | zero =>
    intro k l n p hl hn hn2 h1 hp hp2 hk
    obtain ⟨k, rfl⟩ : ∃ m, k = m + 1 := ⟨k - 1, by omega⟩
    rw [spec_l20Make.l0, wrap64_id (n := n + 4) (by omega) (by omega), if_neg (by omega)]
    refine Gives.iteP (by omega) (Gives.ret ⟨?_, ?_, hp, by omega⟩)
    · simp
    · rw [List.length_append]
      simp only [List.length_cons, List.length_nil]
      omega
  | succ d ih =>
    intro k l n p hl hn hn2 h1 hp hp2 hk
    obtain ⟨k, rfl⟩ : ∃ m, k = m + 2 := ⟨k - 2, by omega⟩
    rw [spec_l20Make.l0, wrap64_id (n := n + 4) (by omega) (by omega), if_pos (by omega), wrap64_id (n := n + 4 - (l.length : Int)) (by omega) (by omega)]
    have next : ∀ (x : S38) (q : Int), 0 ≤ q → q ≤ p + 10 → Gives (spec_l20Make.l0 k (l ++ [x]) n b q) (fun v => 1 ≤ v.1.length ∧ v.1.length ≤ 50 ∧ 0 ≤ v.2 ∧ v.2 ≤ p + 10 * ((d + 1 : Nat) : Int)) := by
      intro x q q0 q1
      refine (ih k (l ++ [x]) n q ?_ hn hn2 ?_ q0 (by omega) (by omega)).mono fun v hv => ⟨hv.1, hv.2.1, hv.2.2.1, by have := hv.2.2.2; omega⟩
      · rw [List.length_append]
        simp only [List.length_cons, List.length_nil]
        omega
      · rw [List.length_append]
        omega
    have one : ∀ (t : Bool) (x q : Int), 0 ≤ q → q ≤ p + 1 → Gives (spec_l20Make.j1 (k + 1) l n (n + 4 - (l.length : Int)) x t b q) (fun v => 1 ≤ v.1.length ∧ v.1.length ≤ 50 ∧ 0 ≤ v.2 ∧ v.2 ≤ p + 10 * ((d + 1 : Nat) : Int)) := by
      intro t x q q0 q1
      rw [spec_l20Make.j1]
      refine Gives.ite (fun _ => ?_) (fun _ => Gives.ite (fun _ => ?_) (fun _ => Gives.ite (fun _ => ?_) (fun _ => ?_)))
      · refine (pick_gives hb q0 (by omega) (by decide) (by omega)).bind fun v1 r1 => ?_
        refine (one_gives hb (by omega) (by omega) (by decide) (by omega)).bind fun v2 r2 => ?_
        refine (imm_gives hb (by omega) (by omega) (by omega)).bind fun v3 r3 => ?_
        refine (pick_gives hb (by omega) (by omega) (by omega) (by omega)).bind fun v4 r4 => ?_
        refine (pick_gives hb (by omega) (by omega) (by decide) (by omega)).bind fun v5 r5 => ?_
        refine Gives.ite (fun _ => ?_) (fun _ => Gives.iteP (by omega) (next _ _ (by omega) (by omega)))
        exact (one_gives hb (by omega) (by omega) (by decide) (by omega)).bind fun v6 r6 => Gives.iteP (by omega) (next _ _ (by omega) (by omega))
      · refine (one_gives hb (by omega) (by omega) (by decide) (by omega)).bind fun v2 r2 => ?_
        refine (one_gives hb (by omega) (by omega) (by decide) (by omega)).bind fun v3 r3 => ?_
        exact (one_gives hb (by omega) (by omega) (by decide) (by omega)).bind fun v6 r6 => Gives.iteP (by omega) (next _ _ (by omega) (by omega))
      · refine (one_gives hb (by omega) (by omega) (by decide) (by omega)).bind fun v2 r2 => ?_
        refine (one_gives hb (by omega) (by omega) (by decide) (by omega)).bind fun v3 r3 => ?_
        refine (one_gives hb (by omega) (by omega) (by decide) (by omega)).bind fun v4 r4 => ?_
        exact (one_gives hb (by omega) (by omega) (by decide) (by omega)).bind fun v6 r6 => Gives.iteP (by omega) (next _ _ (by omega) (by omega))
      · exact (alu_gives hb (by omega) (by omega) (by omega)).bind fun v1 r1 => Gives.iteP (by omega) (next _ _ r1.1 (by omega))
    refine (pick_gives hb hp (by omega) (by decide) (by omega)).bind fun v hv => ?_
    exact Gives.ite (fun _ => one _ _ _ (by omega) (by omega)) (fun _ => one _ _ _ (by omega) (by omega))
theorem make_gives {b : List Int} (hb : Bytes b) {p : Int} (h0 : 0 ≤ p) (h1 : p ≤ 8000) {k : Nat} (hk : 410 < k) : Gives (spec_l20Make.f k b p) (fun v => 1 ≤ v.1.length ∧ v.1.length ≤ 50 ∧ 0 ≤ v.2 ∧ v.2 ≤ p + 200) := by
  unfold spec_l20Make.f
  refine (lines_gives (by unfold Texts; decide) (by decide) hk).bind fun l hl => ?_
  have hl : l.length = 4 := hl
  refine (pick_gives hb h0 (by omega) (by decide) (by omega)).bind fun v hv => ?_
  obtain ⟨v0, v1, v2⟩ := hv
  rw [wrap64_id (n := 4 + v.1) (by omega) (by omega)]
  obtain ⟨d, hd⟩ := Int.eq_ofNat_of_zero_le v0
  refine (make_from hb (d + 4) k l (4 + v.1) v.2 (by omega) (by omega) (by omega) (by omega) (by omega) (by omega) (by omega)).mono fun w hw => ⟨hw.1, hw.2.1, hw.2.2.1, by have := hw.2.2.2; omega⟩
theorem prog0_gives {b : List Int} (hb : Bytes b) {l : List S38} (l0 : 1 ≤ l.length) (l1 : l.length ≤ 60) {p : Int} (h0 : 0 ≤ p) (h1 : p ≤ 9000) {k : Nat} (hk : 1 < k) : Gives (spec_l20Prog.j0 k l b p) (fun v => 1 ≤ v.1.length ∧ v.1.length ≤ 70 ∧ 0 ≤ v.2 ∧ v.2 ≤ p + 10) := by
  obtain ⟨k, rfl⟩ : ∃ m, k = m + 1 := ⟨k - 1, by omega⟩
  rw [spec_l20Prog.j0]
  simp only [Option.bind_some]
  have set : ∀ (i : Nat) (x : S38) (q : Int), 0 ≤ q → q ≤ p + 10 → Gives (some (l.set i x, q)) (fun v => 1 ≤ v.1.length ∧ v.1.length ≤ 70 ∧ 0 ≤ v.2 ∧ v.2 ≤ p + 10) :=
    fun i x q q0 q1 => Gives.ret ⟨by rw [List.length_set]; exact l0, by rw [List.length_set]; omega, q0, q1⟩
  refine (pick_gives hb h0 (by omega) (by decide) (by omega)).bind fun v hv => ?_
  obtain ⟨_, _, hv⟩ := hv
  refine Gives.ite (fun _ => ?_) (fun _ => Gives.ret ⟨l0, by show l.length ≤ 70; omega, by show 0 ≤ v.2; omega, by show v.2 ≤ _; omega⟩)
  refine (pick_gives hb (by omega) (by omega) (by omega) (by omega)).bind fun u hu => ?_
  obtain ⟨u0, u1, hu⟩ := hu
  refine (pick_gives hb (by omega) (by omega) (by decide) (by omega)).bind fun w hw => ?_
  obtain ⟨_, _, hw⟩ := hw
  refine Gives.ite (fun _ => ?_) (fun _ => Gives.ite (fun _ => ?_) (fun _ => Gives.ite (fun _ => ?_) (fun _ => Gives.ite (fun _ => ?_) (fun _ => Gives.ite (fun _ => ?_) (fun _ => ?_)))))
  · exact (imm_gives hb (by omega) (by omega) (by omega)).bind fun x hx => Gives.iteP (by omega) (Gives.iteP (by omega) (set _ _ _ (by omega) (by omega)))
  · exact (one_gives hb (by omega) (by omega) (by decide) (by omega)).bind fun x hx => Gives.iteP (by omega) (Gives.iteP (by omega) (set _ _ _ (by omega) (by omega)))
  · exact (pick_gives hb (by omega) (by omega) (by decide) (by omega)).bind fun x hx => Gives.iteP (by omega) (Gives.iteP (by omega) (set _ _ _ (by omega) (by omega)))
  · exact (pick_gives hb (by omega) (by omega) (by decide) (by omega)).bind fun x hx => Gives.iteP (by omega) (Gives.iteP (by omega) (set _ _ _ (by omega) (by omega)))
  · exact (pick_gives hb (by omega) (by omega) (by decide) (by omega)).bind fun x hx => Gives.iteP (by omega) (Gives.iteP (by omega) (set _ _ _ (by omega) (by omega)))
  · refine Gives.iteP (by omega) (Gives.iteP (by omega) ?_)
    refine Gives.iteP (by simp only [List.length_nil, List.length_take]; omega) ?_
    refine (alu_gives hb (by omega) (by omega) (by omega)).bind fun x hx => ?_
    refine Gives.iteP (by simp only [List.nil_append, List.length_take]; omega) ?_
    refine Gives.iteP (by simp only [List.nil_append, List.length_append, List.length_take, List.length_drop, List.length_cons, List.length_nil]; omega) (Gives.ret ⟨?_, ?_, hx.1, by have := hx.2; omega⟩)
    · simp only [List.nil_append, List.length_append, List.length_take, List.length_drop, List.length_cons, List.length_nil]; omega
    · simp only [List.nil_append, List.length_append, List.length_take, List.length_drop, List.length_cons, List.length_nil]; omega
theorem lists_ex : ∃ LL, spec_l20Lines.f = some LL ∧ LL.length = 15 ∧ ∀ L ∈ LL, 1 ≤ L.length ∧ L.length ≤ 60 ∧ Texts L 100 := ⟨_, rfl, rfl, by unfold Texts; decide⟩
theorem rdL_mem {l : List (List ByteArray)} {i : Int} (h0 : 0 ≤ i) (h1 : i < (l.length : Int)) : rd_L6 l i ∈ l := by
  unfold rd_L6
  have h : i.toNat < l.length := by omega
  rw [List.getD_eq_getElem?_getD, List.getElem?_eq_getElem h]
  exact List.getElem_mem h
theorem prog_gives {b : List Int} (hb : Bytes b) {p : Int} (h0 : 0 ≤ p) (h1 : p ≤ 8000) {k : Nat} (hk : 410 < k) : Gives (spec_l20Prog.f k b p) (fun v => 1 ≤ v.1.length ∧ v.1.length ≤ 70 ∧ 0 ≤ v.2 ∧ v.2 ≤ p + 300) := by
  obtain ⟨LL, hL, hn, hp⟩ := lists_ex
  unfold spec_l20Prog.f
  rw [hL]
  simp only [Option.bind_some]
  refine (make_gives hb h0 h1 hk).bind fun m hm => ?_
  obtain ⟨m1, m2, m3, m4⟩ := hm
  refine (pick_gives hb m3 (by omega) (by decide) (by omega)).bind fun v hv => ?_
  obtain ⟨_, _, hv⟩ := hv
  refine Gives.ite (fun _ => ?_) (fun _ => ?_)
  · refine (pick_gives hb (by omega) (by omega) (by omega) (by omega)).bind fun u hu => ?_
    obtain ⟨u0, u1, hu⟩ := hu
    refine Gives.iteP u0 (Gives.iteP u1 ?_)
    obtain ⟨q1, q2, q3⟩ := hp _ (rdL_mem u0 u1)
    refine (lines_gives q3 (by omega) hk).bind fun l hl => ?_
    exact (prog0_gives hb (by omega) (by omega) (by omega) (by omega) (by omega)).mono fun w hw => ⟨hw.1, hw.2.1, hw.2.2.1, by have := hw.2.2.2; omega⟩
  · exact (prog0_gives hb m1 (by omega) (by omega) (by omega) (by omega)).mono fun w hw => ⟨hw.1, hw.2.1, hw.2.2.1, by have := hw.2.2.2; omega⟩
theorem of_gives {k : Nat} {b : List Int} (hb : Bytes b) {p : Int} (h0 : 0 ≤ p) (h1 : p ≤ 10000) {l : List ByteArray} (hl : 1 ≤ (l.length : Int)) (hk : 0 < k) : Gives (spec_l20Rd_of.f k b p l) (fun v => v.1 ∈ l ∧ v.2 = p + 1) := by
  unfold spec_l20Rd_of.f
  refine (pick_gives hb h0 h1 hl hk).bind fun v hv => ?_
  exact Gives.iteP hv.1 (Gives.iteP hv.2.1 (Gives.ret ⟨rdOf_mem hv.1 hv.2.1, hv.2.2⟩))
theorem bent_gives {k : Nat} {b : List Int} (hb : Bytes b) {p : Int} (h0 : 0 ≤ p) (h1 : p ≤ 9000) {s : ByteArray} (hs : s.size ≤ 1000) (hk : 0 < k) : Gives (spec_l20Bent.f k b p s) (fun v => v.1.size ≤ 1001) := by
  have t6 : Texts [(⟨#[0]⟩ : ByteArray), (⟨#[49]⟩ : ByteArray), (⟨#[255]⟩ : ByteArray), (⟨#[32]⟩ : ByteArray), (⟨#[114]⟩ : ByteArray), (⟨#[16]⟩ : ByteArray)] 1 := by unfold Texts; decide
  have t3 : Texts [(⟨#[0]⟩ : ByteArray), (⟨#[32]⟩ : ByteArray), (⟨#[48]⟩ : ByteArray)] 1 := by unfold Texts; decide
  unfold spec_l20Bent.f
  rw [wrap64_id (n := (s.size : Int) + 1) (by omega) (by omega)]
  refine (pick_gives hb h0 (by omega) (by omega) hk).bind fun v hv => ?_
  obtain ⟨v0, v1, v2⟩ := hv
  refine (pick_gives hb (by omega) (by omega) (by decide) hk).bind fun u hu => ?_
  obtain ⟨_, _, u2⟩ := hu
  refine Gives.ite (fun _ => ?_) (fun _ => Gives.ite (fun _ => ?_) (fun _ => Gives.ite (fun _ => ?_) (fun _ => Gives.ret (show s.size ≤ 1001 by omega))))
  · refine Gives.ite (fun h => ?_) (fun _ => Gives.ret (show s.size ≤ 1001 by omega))
    refine Gives.iteP v0 (Gives.iteP (by omega) ?_)
    refine (of_gives hb (by omega) (by omega) (by decide) hk).bind fun w hw => ?_
    have hw1 := t6 _ hw.1
    rw [wrap64_id (n := v.1 + 1) (by omega) (by omega)]
    have hsz : ((s.extract 0 (v.1 : Int).toNat ++ w.1) ++ s.extract ((v.1 + 1) : Int).toNat s.size).size ≤ 1001 := by
      rw [ByteArray.size_append, ByteArray.size_append, ByteArray.size_extract, ByteArray.size_extract]
      omega
    refine Gives.iteP (by rw [ByteArray.size_extract]; omega) (Gives.iteP (by omega) (Gives.iteP (by omega) (Gives.iteP ?_ (Gives.ret hsz))))
    rw [ByteArray.size_append, ByteArray.size_extract, ByteArray.size_extract]
    omega
  · exact Gives.iteP v0 (Gives.iteP (by omega) (Gives.ret (show (s.extract 0 (v.1 : Int).toNat).size ≤ 1001 by rw [ByteArray.size_extract]; omega)))
  · refine (of_gives hb (by omega) (by omega) (by decide) hk).bind fun w hw => ?_
    have hw1 := t3 _ hw.1
    exact Gives.iteP (by omega) (Gives.ret (show (s ++ w.1).size ≤ 1001 by rw [ByteArray.size_append]; omega))
def okIns (x : S38) : Prop := InsI x.f0 x.f1 x.f2 x.f3 x.f4 x.f5
/-- An op of a program that is ok, and leads nowhere beyond. -/
def okAt (l : List S38) (i : Nat) : Prop := okIns (rd_T38 l i) ∧ (12 ≤ (rd_T38 l i).f0 ∧ (rd_T38 l i).f0 ≤ 16 → 0 ≤ (i : Int) + 1 + (rd_T38 l i).f3 ∧ (i : Int) + 1 + (rd_T38 l i).f3 ≤ (l.length : Int) - 1)
def allAt (l : List S38) (p : Nat) : Prop := ∀ i : Nat, p ≤ i → i < l.length → okAt l i
/-- What is told of a program whose ops are ok. -/
def tailI (l : List S38) : Int := if (l.length : Int) > 48 then 3 else if (l.length : Int) = 0 then 4 else if (rd_T38 l ((l.length : Int) - 1)).f0 = 20 ∨ (rd_T38 l ((l.length : Int) - 1)).f0 = 16 then 0 else 4
def FormOf (l : List S38) (p : Nat) (r : Int) : Prop := (allAt l p → r = tailI l) ∧ (¬ allAt l p → r = 1 ∨ r = 2)
theorem allAt_step {l : List S38} {p : Nat} (hp : p < l.length) : allAt l p ↔ okAt l p ∧ allAt l (p + 1) := by
  constructor
  · exact fun h => ⟨h p (Nat.le_refl p) hp, fun i h1 h2 => h i (by omega) h2⟩
  · rintro ⟨h, h'⟩ i h1 h2
    by_cases e : i = p
    · rw [e]; exact h
    · exact h' i (by omega) h2
theorem FormOf.step {l : List S38} {p : Nat} {r : Int} (hp : p < l.length) (h : okAt l p) (f : FormOf l (p + 1) r) : FormOf l p r :=
  ⟨fun a => f.1 ((allAt_step hp).1 a).2, fun n => f.2 (fun a => n ((allAt_step hp).2 ⟨h, a⟩))⟩
theorem FormOf.bad {l : List S38} {p : Nat} {r : Int} (hp : p < l.length) (h : ¬ okAt l p) (hr : r = 1 ∨ r = 2) : FormOf l p r :=
  ⟨fun a => absurd ((allAt_step hp).1 a).1 h, fun _ => hr⟩
theorem goes_eq (o : Int) : impl_kind_goes.f o = some (decide (12 ≤ o ∧ o ≤ 16)) := by unfold impl_kind_goes.f; simp only [within_eq, Option.bind_some]
theorem form_both (l : List S38) (hl : l.length ≤ 2000000) (d : Nat) : ∀ (k j p : Nat), p + d = l.length → 2 * d + 3 < k → 2 * d + 3 < j →
    ∃ r, impl_ProgForm.l0 k l l (l.length : Int) (p : Int) = some r ∧ spec_l1Form.l0 j l (p : Int) = some r ∧ FormOf l p r := by
  induction d with
  | zero =>
    intro k j p hp hk hj
    obtain ⟨k, rfl⟩ : ∃ m, k = m + 2 := ⟨k - 2, by omega⟩
    obtain ⟨j, rfl⟩ : ∃ m, j = m + 2 := ⟨j - 2, by omega⟩
    refine ⟨tailI l, ?_, ?_, fun _ => rfl, fun n => absurd (fun i h1 h2 => absurd h1 (by omega)) n⟩
    · rw [impl_ProgForm.l0, if_neg (by omega)]
      unfold tailI
      by_cases c1 : (l.length : Int) > 48
      · rw [if_pos c1, if_pos c1]
      rw [if_neg c1, if_neg c1]
      by_cases c2 : (l.length : Int) = 0
      · rw [if_pos c2, if_pos c2, impl_ProgForm.j1, if_pos (by rw [beq_iff_eq]; exact c2)]
      rw [if_neg c2, if_neg c2, wrap64_id (n := (l.length : Int) - 1) (by omega) (by omega), if_pos (by omega), if_pos (by omega), impl_ProgForm.j1, impl_ProgForm.j1]
      by_cases c3 : (rd_T38 l ((l.length : Int) - 1)).f0 = 20
      · rw [if_pos c3, if_pos (Or.inl c3), if_neg (by decide)]
      by_cases c4 : (rd_T38 l ((l.length : Int) - 1)).f0 = 16
      · rw [if_neg c3, if_pos (Or.inr c4), c4]; rfl
      · rw [if_neg c3, if_neg (show ¬ ((rd_T38 l ((l.length : Int) - 1)).f0 = 20 ∨ (rd_T38 l ((l.length : Int) - 1)).f0 = 16) by omega), if_pos (by rw [bne_iff_ne]; exact c4)]
    · rw [spec_l1Form.l0, if_neg (by omega)]
      unfold tailI
      by_cases c1 : (l.length : Int) > 48
      · rw [if_pos c1, if_pos c1]
      rw [if_neg c1, if_neg c1]
      by_cases c2 : (l.length : Int) = 0
      · rw [if_pos c2, if_pos c2, spec_l1Form.j2, if_pos rfl]
      rw [if_neg c2, if_neg c2, wrap64_id (n := (l.length : Int) - 1) (by omega) (by omega), if_pos (by omega), if_pos (by omega), spec_l1Form.j2, spec_l1Form.j2]
      by_cases c3 : (rd_T38 l ((l.length : Int) - 1)).f0 = 20
      · rw [if_pos c3, if_pos (Or.inl c3), if_neg (by decide)]
      by_cases c4 : (rd_T38 l ((l.length : Int) - 1)).f0 = 16
      · rw [if_neg c3, if_pos (Or.inr c4), c4]; rfl
      · rw [if_neg c3, if_neg (show ¬ ((rd_T38 l ((l.length : Int) - 1)).f0 = 20 ∨ (rd_T38 l ((l.length : Int) - 1)).f0 = 16) by omega), if_pos (by rw [bne_iff_ne]; exact c4)]
  | succ d ih =>
    intro k j p hp hk hj
    obtain ⟨k, rfl⟩ : ∃ m, k = m + 2 := ⟨k - 2, by omega⟩
    obtain ⟨j, rfl⟩ : ∃ m, j = m + 2 := ⟨j - 2, by omega⟩
    have hlt : p < l.length := by omega
    rw [impl_ProgForm.l0, if_pos (by omega), if_pos (by omega), if_pos (by omega), spec_l1Form.l0, if_pos (by omega), if_pos (by omega), implInsOk_eq, specInsOk_eq, goes_eq]
    simp only [Option.bind_some, decide_eq_true_eq]
    by_cases h : InsI (rd_T38 l p).f0 (rd_T38 l p).f1 (rd_T38 l p).f2 (rd_T38 l p).f3 (rd_T38 l p).f4 (rd_T38 l p).f5
    · have hr := (InsI.range h).2.2.2.1
      have tgt : wrap64 (wrap64 ((p : Int) + 1) + (rd_T38 l p).f3) = (p : Int) + 1 + (rd_T38 l p).f3 := by
        rw [wrap64_id (n := (p : Int) + 1) (by omega) (by omega), wrap64_id (by omega) (by omega)]
      have len1 : wrap64 ((l.length : Int) - 1) = (l.length : Int) - 1 := wrap64_id (by omega) (by omega)
      have js : (spec_l1Jump.f (rd_T38 l p).f0).bind (fun t669 => if t669 = true then spec_l1Form.j1 (j + 1) l p true else spec_l1Form.j1 (j + 1) l p ((rd_T38 l p).f0 == 16)) = spec_l1Form.j1 (j + 1) l p (decide (12 ≤ (rd_T38 l p).f0 ∧ (rd_T38 l p).f0 ≤ 16)) := by
        unfold spec_l1Jump.f
        simp only [l1In_eq, Option.bind_some, decide_eq_true_eq]
        by_cases c : 12 ≤ (rd_T38 l p).f0 ∧ (rd_T38 l p).f0 ≤ 15
        · rw [if_pos c, decide_eq_true (by omega)]
        · rw [if_neg c]
          congr 1
          rw [Bool.eq_iff_iff, beq_iff_eq, decide_eq_true_eq]
          omega
      rw [if_pos h, if_pos h, js, spec_l1Form.j1]
      unfold impl_target.f
      rw [if_pos (show (0 : Int) ≤ p by omega), if_pos (show (p : Int) < l.length by omega), tgt, len1]
      simp only [Option.bind_some, within_eq, l1In_eq, decide_eq_true_eq, w_succ (show p < 4611686018427387904 by omega)]
      by_cases c : 12 ≤ (rd_T38 l p).f0 ∧ (rd_T38 l p).f0 ≤ 16
      · rw [if_pos c, if_pos c, if_pos (show (0 : Int) ≤ p by omega), if_pos (show (p : Int) < l.length by omega)]
        by_cases t : 0 ≤ (p : Int) + 1 + (rd_T38 l p).f3 ∧ (p : Int) + 1 + (rd_T38 l p).f3 ≤ (l.length : Int) - 1
        · rw [if_pos t, if_pos t]
          obtain ⟨r, e1, e2, e3⟩ := ih (k + 1) j (p + 1) (by omega) (by omega) (by omega)
          exact ⟨r, e1, e2, FormOf.step hlt ⟨h, fun _ => t⟩ e3⟩
        · rw [if_neg t, if_neg t]
          exact ⟨2, rfl, rfl, FormOf.bad hlt (fun q => t (q.2 c)) (Or.inr rfl)⟩
      · rw [if_neg c, if_neg c]
        obtain ⟨r, e1, e2, e3⟩ := ih (k + 1) j (p + 1) (by omega) (by omega) (by omega)
        exact ⟨r, e1, e2, FormOf.step hlt ⟨h, fun q => absurd q c⟩ e3⟩
    · rw [if_neg h, if_neg h]
      exact ⟨1, rfl, rfl, FormOf.bad hlt (fun q => h q.1) (Or.inl rfl)⟩
/-- The numbers of a program's bytes. -/
def progL (l : List S38) : List Int := l.flatMap (fun x => insL x.f0 x.f1 x.f2 x.f3 x.f4 x.f5)
theorem progL_len (l : List S38) : (progL l).length = 8 * l.length := by
  unfold progL
  induction l with
  | nil => rfl
  | cons x l ih => rw [List.flatMap_cons, List.length_append, ih, List.length_cons]; show 8 + 8 * l.length = _; omega
theorem progL_step (l : List S38) (p : Nat) (hp : p < l.length) : progL (l.take (p + 1)) = progL (l.take p) ++ insL (rd_T38 l p).f0 (rd_T38 l p).f1 (rd_T38 l p).f2 (rd_T38 l p).f3 (rd_T38 l p).f4 (rd_T38 l p).f5 := by
  have e : rd_T38 l (p : Int) = l[p] := by unfold rd_T38; rw [List.getD_eq_getElem?_getD, Int.toNat_natCast, List.getElem?_eq_getElem hp]; rfl
  unfold progL
  rw [List.take_add_one, List.getElem?_eq_getElem hp, List.flatMap_append, e]
  simp
theorem bytes_back (s : ByteArray) : (⟨s.data.toList.toArray⟩ : ByteArray) = s := by simp
theorem app_data (a b : ByteArray) : a.data.toList ++ b.data.toList = (a ++ b).data.toList := by simp
theorem implProg_from (l : List S38) (hl : l.length ≤ 48) (ho : ∀ j : Nat, j < l.length → okIns (rd_T38 l j)) (d : Nat) : ∀ (k p : Nat), p + d = l.length → d + 6 < k → impl_ProgPut.l0 k l (p : Int) (strOfNums (progL (l.take p))).data.toList = some (strOfNums (progL l)) := by
  induction d with
  | zero =>
    intro k p hp hk
    obtain ⟨k, rfl⟩ : ∃ m, k = m + 1 := ⟨k - 1, by omega⟩
    rw [impl_ProgPut.l0, if_neg (by omega), List.take_of_length_le (by omega), bytes_back]
  | succ d ih =>
    intro k p hp hk
    obtain ⟨k, rfl⟩ : ∃ m, k = m + 1 := ⟨k - 1, by omega⟩
    have h := ho p (by omega)
    have h : InsI (rd_T38 l p).f0 (rd_T38 l p).f1 (rd_T38 l p).f2 (rd_T38 l p).f3 (rd_T38 l p).f4 (rd_T38 l p).f5 := h
    have hn : (strOfNums (progL (l.take p))).data.toList.length = 8 * p := by
      rw [Array.length_toList]
      show (strOfNums (progL (l.take p))).size = 8 * p
      rw [strOfNums_size, progL_len, List.length_take]
      omega
    rw [impl_ProgPut.l0, if_pos (by omega), if_pos (by omega), implPut_eq h (by omega)]
    simp only [Option.bind_some]
    rw [if_pos (by rw [hn, insL_len]; omega), app_data, strOfNums_app, ← progL_step l p (by omega), w_succ (by omega)]
    exact ih k (p + 1) (by omega) (by omega)
theorem specProg_from (l : List S38) (hl : l.length ≤ 48) (ho : ∀ j : Nat, j < l.length → okIns (rd_T38 l j)) (d : Nat) : ∀ (k p : Nat), p + d = l.length → d < k → spec_ProgPut.l0 k l (strOfNums (progL (l.take p))) (p : Int) = some (strOfNums (progL l)) := by
  induction d with
  | zero =>
    intro k p hp hk
    obtain ⟨k, rfl⟩ : ∃ m, k = m + 1 := ⟨k - 1, by omega⟩
    rw [spec_ProgPut.l0, if_neg (by omega), List.take_of_length_le (by omega)]
  | succ d ih =>
    intro k p hp hk
    obtain ⟨k, rfl⟩ : ∃ m, k = m + 1 := ⟨k - 1, by omega⟩
    have h := ho p (by omega)
    have h : InsI (rd_T38 l p).f0 (rd_T38 l p).f1 (rd_T38 l p).f2 (rd_T38 l p).f3 (rd_T38 l p).f4 (rd_T38 l p).f5 := h
    have hr := InsI.range h
    have hn : (strOfNums (progL (l.take p))).size = 8 * p := by
      rw [strOfNums_size, progL_len, List.length_take]
      omega
    rw [spec_ProgPut.l0, if_pos (by omega), if_pos (by omega), specPut_eq _ _ _ _ hr.2.1 hr.2.2.1]
    simp only [Option.bind_some]
    rw [if_pos (by rw [hn, insL_len]; omega), strOfNums_app, ← progL_step l p (by omega), w_succ (by omega)]
    exact ih k (p + 1) (by omega) (by omega)
/-- A program that can be: its ops are ok, and there are not many. -/
theorem form_fine {l : List S38} (h : FormOf l 0 0) : allAt l 0 ∧ 1 ≤ l.length ∧ l.length ≤ 48 ∧ tailI l = 0 := by
  by_cases a : allAt l 0
  · have e := h.1 a
    refine ⟨a, ?_, ?_, e.symm⟩
    · by_cases c : 1 ≤ l.length
      · exact c
      · unfold tailI at e
        rw [if_neg (by omega), if_pos (by omega)] at e
        cases e
    · by_cases c : l.length ≤ 48
      · exact c
      · unfold tailI at e
        rw [if_pos (by omega)] at e
        cases e
  · rcases h.2 a with e | e <;> cases e
/-- The bytes of a program, if it can be. -/
def progS (l : List S38) (r : Int) : ByteArray := if r = 0 then strOfNums (progL l) else ⟨#[]⟩
theorem progPut_ex (l : List S38) (hl : l.length ≤ 2000000) {k j : Nat} (hk : 2 * l.length + 100 < k) (hj : 2 * l.length + 100 < j) : ∃ r, impl_ProgForm.f k l = some r ∧ FormOf l 0 r ∧ impl_ProgPut.f k l = some (progS l r) ∧ spec_ProgPut.f j l = some (progS l r) := by
  obtain ⟨r, e1, e2, e3⟩ := form_both l hl l.length k j 0 (by omega) (by omega) (by omega)
  have e1 : impl_ProgForm.f k l = some r := e1
  have e2 : spec_l1Form.f j l = some r := e2
  refine ⟨r, e1, e3, ?_, ?_⟩
  · unfold impl_ProgPut.f
    rw [e1]
    simp only [Option.bind_some]
    unfold progS
    by_cases c : r = 0
    · subst c
      obtain ⟨ha, _, hn, _⟩ := form_fine e3
      rw [if_pos rfl, if_pos rfl]
      exact implProg_from l hn (fun j hj => (ha j (Nat.zero_le j) hj).1) l.length k 0 (by omega) (by omega)
    · rw [if_neg c, if_neg c]
  · unfold spec_ProgPut.f
    rw [e2]
    simp only [Option.bind_some]
    unfold progS
    by_cases c : r = 0
    · subst c
      obtain ⟨ha, _, hn, _⟩ := form_fine e3
      rw [if_pos rfl, if_pos rfl]
      exact specProg_from l hn (fun j hj => (ha j (Nat.zero_le j) hj).1) l.length j 0 (by omega) (by omega)
    · rw [if_neg c, if_neg c]
def insOf7 (g : Int × Int × Int × Int × Int × Int × Bool) : S38 := ⟨g.1, g.2.1, g.2.2.1, g.2.2.2.1, g.2.2.2.2.1, g.2.2.2.2.2.1⟩
/-- The ops of bytes, from one on, behind others; none, if one is none. -/
def opsFrom (s : ByteArray) : Nat → Nat → List S38 → Option (List S38)
  | 0, _, acc => some acc
  | d + 1, p, acc => if (getO (s.extract (8 * p) (8 * p + 8))).2.2.2.2.2.2 = true then opsFrom s d (p + 1) (acc ++ [insOf7 (getO (s.extract (8 * p) (8 * p + 8)))]) else none
theorem opsFrom_len (s : ByteArray) (d : Nat) : ∀ (p : Nat) (acc l : List S38), opsFrom s d p acc = some l → l.length = acc.length + d := by
  induction d with
  | zero => intro p acc l h; obtain rfl := Option.some.inj h; rfl
  | succ d ih =>
    intro p acc l h
    unfold opsFrom at h
    by_cases c : (getO (s.extract (8 * p) (8 * p + 8))).2.2.2.2.2.2 = true
    · rw [if_pos c] at h
      rw [ih _ _ _ h, List.length_append]
      simp only [List.length_cons, List.length_nil]
      omega
    · rw [if_neg c] at h; cases h
theorem wrap_8 {p : Nat} (h : p ≤ 100000) : wrap64 (((8 * p : Nat) : Int) + 8) = ((8 * (p + 1) : Nat) : Int) := by rw [wrap64_id (by omega) (by omega)]; omega
/-- What is told of the ops of bytes. -/
def GetOf (L : Option (List S38)) (v : List S38 × Bool) : Prop :=
  (L = none ∧ v = ([], false)) ∨ ∃ l r, L = some l ∧ FormOf l 0 r ∧ v = (if r = 0 then (l, true) else ([], false))
theorem get_loops (s : ByteArray) (n : Nat) (hn : n ≤ 48) (hs : s.size = 8 * n) (d : Nat) : ∀ (k j p : Nat) (acc : List S38), p + d = n → acc.length = p → 2 * n + d + 30 < k → 2 * n + d + 30 < j →
    ∃ v, impl_ProgGet.l0 k s acc ((8 * p : Nat) : Int) = some v ∧ spec_ProgGet.l0 j s acc ((8 * p : Nat) : Int) = some v ∧ GetOf (opsFrom s d p acc) v := by
  induction d with
  | zero =>
    intro k j p acc hp ha hk hj
    obtain ⟨k, rfl⟩ : ∃ m, k = m + 1 := ⟨k - 1, by omega⟩
    obtain ⟨j, rfl⟩ : ∃ m, j = m + 1 := ⟨j - 1, by omega⟩
    obtain ⟨r, e1, e2, e3⟩ := form_both acc (by omega) acc.length k j 0 (by omega) (by omega) (by omega)
    have e1 : impl_ProgForm.f k acc = some r := e1
    have e2 : spec_l1Form.f j acc = some r := e2
    refine ⟨if r = 0 then (acc, true) else ([], false), ?_, ?_, Or.inr ⟨acc, r, rfl, e3, rfl⟩⟩
    · rw [impl_ProgGet.l0, if_neg (by omega), e1]
      simp only [Option.bind_some]
      by_cases c : r = 0
      · rw [if_pos c, if_pos c]
      · rw [if_neg c, if_neg c]
    · rw [spec_ProgGet.l0, if_neg (by omega), e2]
      simp only [Option.bind_some]
      by_cases c : r = 0
      · rw [if_pos c, if_pos c]
      · rw [if_neg c, if_neg c]
  | succ d ih =>
    intro k j p acc hp ha hk hj
    obtain ⟨k, rfl⟩ : ∃ m, k = m + 1 := ⟨k - 1, by omega⟩
    obtain ⟨j, rfl⟩ : ∃ m, j = m + 1 := ⟨j - 1, by omega⟩
    have t1 : ((8 * p : Nat) : Int).toNat = 8 * p := Int.toNat_natCast _
    have t2 : ((8 * (p + 1) : Nat) : Int).toNat = 8 * p + 8 := by rw [Int.toNat_natCast]; omega
    rw [impl_ProgGet.l0, if_pos (by omega), if_pos (by omega), wrap_8 (by omega), if_pos (by omega), if_pos (by omega), t1, t2, implInsGet_eq _ (by omega)]
    rw [spec_ProgGet.l0, if_pos (by omega), if_pos (by omega), wrap_8 (by omega), if_pos (by omega), if_pos (by omega), t1, t2, specInsGet_eq]
    simp only [Option.bind_some]
    unfold opsFrom
    by_cases c : (getO (s.extract (8 * p) (8 * p + 8))).2.2.2.2.2.2 = true
    · rw [if_pos c, if_pos c, if_pos c, if_pos (by omega), if_pos (by omega)]
      exact ih k j (p + 1) _ (by omega) (by rw [List.length_append, ha]; rfl) (by omega) (by omega)
    · rw [if_neg c, if_neg c, if_neg c]
      exact ⟨_, rfl, rfl, Or.inl ⟨rfl, rfl⟩⟩
/-- What is told of bytes. -/
def GetsOf (s : ByteArray) (v : List S38 × Bool) : Prop := ((s.size > 384 ∨ s.size % 8 ≠ 0) ∧ v = ([], false)) ∨ (s.size ≤ 384 ∧ s.size % 8 = 0 ∧ GetOf (opsFrom s (s.size / 8) 0 []) v)
theorem progGet_ex (s : ByteArray) (hs : s.size ≤ 140737488351232) {k j : Nat} (hk : 300 < k) (hj : 300 < j) : ∃ v, impl_ProgGet.f k s = some v ∧ spec_ProgGet.f j s = some v ∧ GetsOf s v := by
  obtain ⟨k, rfl⟩ : ∃ m, k = m + 1 := ⟨k - 1, by omega⟩
  obtain ⟨j, rfl⟩ : ∃ m, j = m + 1 := ⟨j - 1, by omega⟩
  unfold impl_ProgGet.f spec_ProgGet.f
  by_cases c1 : (s.size : Int) > 384
  · refine ⟨([], false), ?_, ?_, Or.inl ⟨Or.inl (by omega), rfl⟩⟩
    · rw [if_pos c1, impl_ProgGet.j0, if_pos rfl]
    · by_cases c2 : (s.size : Int) % 8 = 0
      · rw [if_pos c2, decide_eq_true c1, spec_ProgGet.j0, if_pos rfl]
      · rw [if_neg c2, spec_ProgGet.j0, if_pos rfl]
  · by_cases c2 : (s.size : Int) % 8 = 0
    · obtain ⟨v, e1, e2, e3⟩ := get_loops s (s.size / 8) (by omega) (by omega) (s.size / 8) k j 0 [] (by omega) rfl (by omega) (by omega)
      have e1 : impl_ProgGet.l0 k s [] 0 = some v := e1
      have e2 : spec_ProgGet.l0 j s [] 0 = some v := e2
      refine ⟨v, ?_, ?_, Or.inr ⟨by omega, by omega, e3⟩⟩
      · rw [if_neg c1, c2, impl_ProgGet.j0, if_neg (by decide), wrap64_id (n := (s.size : Int) / 8) (by omega) (by omega), if_pos (by omega), if_pos (by omega)]
        exact e1
      · rw [if_pos c2, decide_eq_false c1, spec_ProgGet.j0, if_neg (by decide)]
        exact e2
    · refine ⟨([], false), ?_, ?_, Or.inl ⟨Or.inr (by omega), rfl⟩⟩
      · rw [if_neg c1, show ((s.size : Int) % 8 != 0) = true from bne_iff_ne.mpr c2, impl_ProgGet.j0, if_pos rfl]
      · rw [if_neg c2, spec_ProgGet.j0, if_pos rfl]
theorem getsOf_len {s : ByteArray} {v : List S38 × Bool} (h : GetsOf s v) : v.1.length ≤ 48 := by
  rcases h with ⟨_, rfl⟩ | ⟨h1, h2, ⟨_, rfl⟩ | ⟨l, r, h3, _, rfl⟩⟩
  · exact Nat.zero_le _
  · exact Nat.zero_le _
  · have := opsFrom_len s _ _ _ _ h3
    by_cases c : r = 0
    · rw [if_pos c]; simp only [List.length_nil] at this; show l.length ≤ 48; omega
    · rw [if_neg c]; exact Nat.zero_le _
theorem progL_app (a b : List S38) : progL (a ++ b) = progL a ++ progL b := by unfold progL; rw [List.flatMap_append]
theorem sgProg_loop (l : List S38) (hl : l.length ≤ 1000) (d : Nat) : ∀ (k p : Nat), p + d = l.length → d < k → laws_sgProg.l0 k l l (p : Int) = some true := by
  induction d with
  | zero =>
    intro k p hp hk
    obtain ⟨k, rfl⟩ : ∃ m, k = m + 1 := ⟨k - 1, by omega⟩
    rw [laws_sgProg.l0, if_neg (by omega)]
  | succ d ih =>
    intro k p hp hk
    obtain ⟨k, rfl⟩ : ∃ m, k = m + 1 := ⟨k - 1, by omega⟩
    rw [laws_sgProg.l0, if_pos (by omega), if_pos (by omega), if_pos (by omega), if_neg (by simp), w_succ (by omega)]
    exact ih k (p + 1) (by omega) (by omega)
theorem sgProg_eq (l : List S38) (hl : l.length ≤ 1000) {k : Nat} (hk : l.length < k) : laws_sgProg.f k l l = some true := by
  unfold laws_sgProg.f
  rw [if_pos rfl]
  exact sgProg_loop l hl l.length k 0 (by omega) hk
theorem ba_of_toList {a b : ByteArray} (h : a.toList = b.toList) : a = b := by
  rw [Go.ByteArray.toList_eq, Go.ByteArray.toList_eq] at h
  apply ByteArray.ext
  exact Array.ext' h
theorem nums_nil : strOfNums (progL []) = (⟨#[]⟩ : ByteArray) := rfl
/-- What is read from bytes is written as they stand. -/
theorem opsFrom_back (s : ByteArray) (d : Nat) : ∀ (p : Nat) (acc l : List S38), 8 * (p + d) ≤ s.size → strOfNums (progL acc) = s.extract 0 (8 * p) → opsFrom s d p acc = some l → strOfNums (progL l) = s.extract 0 (8 * (p + d)) := by
  induction d with
  | zero => intro p acc l _ h1 h2; obtain rfl := Option.some.inj h2; exact h1
  | succ d ih =>
    intro p acc l hs h1 h2
    unfold opsFrom at h2
    by_cases c : (getO (s.extract (8 * p) (8 * p + 8))).2.2.2.2.2.2 = true
    · rw [if_pos c] at h2
      rw [show p + (d + 1) = p + 1 + d by omega]
      refine ih (p + 1) _ l (by omega) ?_ h2
      rw [progL_app, ← strOfNums_app, h1]
      have e : strOfNums (progL [insOf7 (getO (s.extract (8 * p) (8 * p + 8)))]) = s.extract (8 * p) (8 * p + 8) := by
        unfold getO at c ⊢
        split at c
        · rename_i hc
          rw [if_pos hc]
          apply ba_of_toList
          rw [← hc.2.2]
          congr 2
        · cases c
      rw [e, ByteArray.extract_append_extract]
      congr 1 <;> omega
    · rw [if_neg c] at h2; cases h2

theorem drawProgGet_gives {k : Nat} {l : List Int} (hl : ∀ x ∈ l, (Lit.int .u8 x).wf = true) (hk : 1000 < k) : Gives (spec_DrawProgGet.f k l) (fun v => v.size ≤ 1001) := by
  unfold spec_DrawProgGet.f
  refine (open_gives hl).bind fun b hb => ?_
  obtain ⟨hb, h0⟩ := hb
  refine (prog_gives hb (by omega) (by omega) (by omega)).bind fun m hm => ?_
  obtain ⟨m1, m2, m3, m4⟩ := hm
  obtain ⟨r, _, e1, _, e3⟩ := progPut_ex m.1 (by omega) (k := k) (j := k) (by omega) (by omega)
  rw [e3]
  simp only [Option.bind_some]
  have hs : (progS m.1 r).size ≤ 1000 := by
    unfold progS
    split
    · rename_i c
      subst c
      have := (form_fine e1).2.2.1
      rw [strOfNums_size, progL_len]
      omega
    · exact Nat.zero_le _
  refine (pick_gives hb m3 (by omega) (by decide) (by omega)).bind fun u hu => ?_
  refine Gives.ite (fun _ => Gives.ret (show (progS m.1 r).size ≤ 1001 by omega)) (fun _ => ?_)
  exact (bent_gives hb (by omega) (by omega) hs (by omega)).bind fun w hw => Gives.ret hw
theorem FnProgGet : laws_FnProgGet.Pure := by
  intro l _ _ hl
  obtain ⟨k, hk⟩ : ∃ k : Nat, k = 3000 := ⟨_, rfl⟩
  refine ⟨k + 1, ?_⟩
  unfold laws_FnProgGet.f
  split
  · rfl
  obtain ⟨s, hv, hn⟩ := drawProgGet_gives (k := k + 1) hl (by omega)
  obtain ⟨v, e1, e2, e3⟩ := progGet_ex s (by omega) (k := k + 1) (j := k + 1) (by omega) (by omega)
  have hl := getsOf_len e3
  rw [hv]
  simp only [Option.bind_some, e1, e2, bne_self_eq_false, Bool.false_eq_true, if_false, sgProg_eq v.1 (show v.1.length ≤ 1000 by omega) (k := k + 1) (by omega), if_true]
  rw [laws_FnProgGet.j0]
  by_cases c : v.2 = true
  · rw [c, if_neg (by decide)]
    have key : FormOf v.1 0 0 ∧ strOfNums (progL v.1) = s := by
      rcases e3 with ⟨_, rfl⟩ | ⟨h1, h2, ⟨_, rfl⟩ | ⟨l', r', z, z1, rfl⟩⟩
      · cases c
      · cases c
      · by_cases cr : r' = 0
        · subst cr
          rw [if_pos rfl]
          refine ⟨z1, ?_⟩
          have := opsFrom_back s (s.size / 8) 0 [] l' (by omega) (by rw [nums_nil]; apply ByteArray.ext; simp) z
          show strOfNums (progL l') = s
          rw [this, show 8 * (0 + s.size / 8) = s.size by omega, ByteArray.extract_zero_size]
        · rw [if_neg cr] at c; cases c
    obtain ⟨r, f0, f1, f2, _⟩ := progPut_ex v.1 (by omega) (k := k) (j := k) (by omega) (by omega)
    have hr : r = 0 := by
      obtain ⟨ha, _, _, ht⟩ := form_fine key.1
      rw [f1.1 ha, ht]
    subst hr
    rw [f2]
    have hp : progS v.1 0 = s := by rw [← key.2]; exact if_pos rfl
    simp only [Option.bind_some, hp, if_true, f0]
    rfl
  · have c : v.2 = false := by cases h : v.2 <;> simp_all
    rw [c, if_pos (by decide), if_pos (by decide), sgProg_eq v.1 (by omega) (by omega)]
    rfl

end Go.Proofs.Ytdfgaaeieneaoaa.Pure
