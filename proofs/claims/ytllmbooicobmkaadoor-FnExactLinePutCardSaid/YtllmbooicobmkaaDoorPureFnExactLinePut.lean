/- The law FnExactLinePut, as a statement about numbers and lists alone: the program and the reference write the same line of an op. It holds at every input. -/
import Derived.Test.YtllmbooicobmkaaDoorQ8
import Derived.Test.YtllmbooicobmkaaDoorMath
namespace Go.Proofs.YtllmbooicobmkaaDoor.Pure
open Go Go.RowKit Go.Proofs.YtllmbooicobmkaaDoor.Q Go.Proofs.YtllmbooicobmkaaDoorW.PrintWords Go.Proofs.YtllmbooicobmkaaDoorW.PrintLast Go.Proofs.YtllmbooicobmkaaDoorW.PrintMore Rg

theorem l1In_eq (a b c : Int) : spec_l1In.f a b c = some (decide (b ≤ a ∧ a ≤ c)) := by
  unfold spec_l1In.f
  by_cases h : a ≥ b
  · rw [if_pos h]; simp [show b ≤ a from h]
  · rw [if_neg h]; simp [show ¬ b ≤ a from h]
theorem within_eq (a b c : Int) : impl_within.f a b c = some (decide (b ≤ a ∧ a ≤ c)) := by
  unfold impl_within.f
  by_cases h : a ≥ b
  · rw [if_pos h]; simp [show b ≤ a from h]
  · rw [if_neg h]; simp [show ¬ b ≤ a from h]
theorem numOk_eq (a : Int) : impl_numOk.f a = some (decide (0 ≤ a ∧ a ≤ 4294967295)) := by
  unfold impl_numOk.f
  rw [within_eq]; rfl
/-- A register, or a number in its place. -/
def EitherI (s m : Int) : Prop := (0 ≤ s ∧ s ≤ 10 ∧ m = 0) ∨ (s = -1 ∧ 0 ≤ m ∧ m ≤ 4294967295)
/-- How many bytes are loaded or stored. -/
def SizeI (z : Int) : Prop := z = 1 ∨ z = 2 ∨ z = 4
/-- An op that is ok. -/
def InsI (o d s f m z : Int) : Prop :=
  if 1 ≤ o ∧ o ≤ 11 then (0 ≤ d ∧ d ≤ 10) ∧ EitherI s m ∧ f = 0 ∧ z = 0
  else if 12 ≤ o ∧ o ≤ 15 then (0 ≤ d ∧ d ≤ 10) ∧ EitherI s m ∧ (-128 ≤ f ∧ f ≤ 127) ∧ z = 0
  else if o = 16 then (-128 ≤ f ∧ f ≤ 127) ∧ d = 0 ∧ s = -1 ∧ m = 0 ∧ z = 0
  else if o = 17 then (0 ≤ d ∧ d ≤ 10) ∧ (0 ≤ s ∧ s ≤ 10) ∧ m = 0 ∧ (-128 ≤ f ∧ f ≤ 127) ∧ SizeI z
  else if o = 18 then (0 ≤ d ∧ d ≤ 10) ∧ EitherI s m ∧ (-128 ≤ f ∧ f ≤ 127) ∧ SizeI z
  else if o = 19 then (1 ≤ m ∧ m ≤ 6) ∧ d = 0 ∧ s = -1 ∧ f = 0 ∧ z = 0
  else o = 20 ∧ d = 0 ∧ s = -1 ∧ f = 0 ∧ m = 0 ∧ z = 0
instance EitherI_dec (s m : Int) : Decidable (EitherI s m) := by unfold EitherI; exact inferInstance
instance SizeI_dec (z : Int) : Decidable (SizeI z) := by unfold SizeI; exact inferInstance
instance InsI_dec (o d s f m z : Int) : Decidable (InsI o d s f m z) := by unfold InsI; exact inferInstance
theorem some_eq_dec {b : Bool} {p : Prop} [Decidable p] (h : b = true ↔ p) : some b = some (decide p) := by
  congr 1
  rw [Bool.eq_iff_iff, h, decide_eq_true_eq]
theorem InsI.range {o d s f m z : Int} (h : InsI o d s f m z) : (1 ≤ o ∧ o ≤ 20) ∧ (0 ≤ d ∧ d ≤ 10) ∧ (-1 ≤ s ∧ s ≤ 10) ∧ (-128 ≤ f ∧ f ≤ 127) ∧ (0 ≤ m ∧ m ≤ 4294967295) ∧ (0 ≤ z ∧ z ≤ 4) := by
  unfold InsI EitherI SizeI at h
  repeat' split at h
  all_goals omega
theorem reckons_eq (o : Int) : impl_kind_reckons.f o = some (decide (1 ≤ o ∧ o ≤ 11)) := by unfold impl_kind_reckons.f; simp only [within_eq, Option.bind_some]
theorem asks_eq (o : Int) : impl_kind_asks.f o = some (decide (12 ≤ o ∧ o ≤ 15)) := by unfold impl_kind_asks.f; simp only [within_eq, Option.bind_some]
theorem regOk_eq (d : Int) : impl_regOk.f d = some (decide (0 ≤ d ∧ d ≤ 10)) := by unfold impl_regOk.f; simp only [within_eq, Option.bind_some]
theorem sizeOk_eq (z : Int) : impl_sizeOk.f z = some (decide (SizeI z)) := by
  unfold impl_sizeOk.f
  repeat' split
  all_goals (apply some_eq_dec; unfold SizeI; simp only [beq_iff_eq, true_iff]; omega)
theorem either_eq (o d s f m z : Int) : impl_Ins_either.f o d s f m z = some (decide (EitherI s m)) := by
  unfold impl_Ins_either.f
  simp only [regOk_eq, numOk_eq, Option.bind_some, decide_eq_true_eq]
  repeat' split
  all_goals (apply some_eq_dec; unfold EitherI; simp only [decide_eq_true_eq, true_iff, Bool.false_eq_true, false_iff]; omega)
theorem implInsOk_eq (o d s f m z : Int) : impl_InsOk.f o d s f m z = some (decide (InsI o d s f m z)) := by
  unfold impl_InsOk.f
  simp only [within_eq, regOk_eq, reckons_eq, asks_eq, sizeOk_eq, either_eq, Option.bind_some, decide_eq_true_eq]
  by_cases h1 : 1 ≤ o ∧ o ≤ 11
  · unfold InsI; simp only [h1, and_self, if_true]
    repeat' split
    all_goals (apply some_eq_dec; simp_all; try (intros; omega))
  by_cases h2 : 12 ≤ o ∧ o ≤ 15
  · unfold InsI; simp only [h1, h2, and_self, if_true, if_false]
    repeat' split
    all_goals (apply some_eq_dec; simp_all; try (intros; omega))
  by_cases h3 : o = 16
  · subst h3; unfold InsI; simp only [h1, h2, if_true, if_false]
    repeat' split
    all_goals (apply some_eq_dec; simp_all; try (intros; omega))
  by_cases h4 : o = 17
  · subst h4; unfold InsI; simp only [h1, h2, h3, if_true, if_false]
    repeat' split
    all_goals (apply some_eq_dec; simp_all; try (intros; omega))
  by_cases h5 : o = 18
  · subst h5; unfold InsI; simp only [h1, h2, h3, h4, if_true, if_false]
    repeat' split
    all_goals (apply some_eq_dec; simp_all; try (intros; omega))
  by_cases h6 : o = 19
  · subst h6; unfold InsI; simp only [h1, h2, h3, h4, h5, if_true, if_false]
    repeat' split
    all_goals (apply some_eq_dec; simp_all; try (intros; omega))
  · unfold InsI; simp only [h1, h2, h3, h4, h5, h6, if_false]
    apply some_eq_dec
    simp
theorem specBare_eq (o d s f m z : Int) (hs : -1 ≤ s ∧ s ≤ 10) (hd : 0 ≤ d ∧ d ≤ 10) (hf : -128 ≤ f ∧ f ≤ 127) (hm : 0 ≤ m ∧ m ≤ 4294967295) : spec_l1Bare.f o d s f m z = some (decide (InsI o d s f m z)) := by
  have he : EitherI s m ↔ (s < 0 ∨ m = 0) := by unfold EitherI; omega
  have hr : (0 ≤ s ∧ s ≤ 10) ↔ s ≥ 0 := by omega
  unfold spec_l1Bare.f spec_l1Alu.f spec_l1Jump.f
  simp only [l1In_eq, Option.bind_some, decide_eq_true_eq]
  by_cases h1 : 1 ≤ o ∧ o ≤ 11
  · unfold InsI; simp only [h1, he, hr, hd, hf, and_self, if_true, true_and]
    repeat' split
    all_goals (apply some_eq_dec; simp_all; try (intros; omega))
  by_cases h2 : 12 ≤ o ∧ o ≤ 15
  · unfold InsI; simp only [h1, h2, he, hr, hd, hf, and_self, if_true, if_false, true_and]
    repeat' split
    all_goals (apply some_eq_dec; simp_all; try (intros; omega))
  by_cases h3 : o = 16
  · subst h3; unfold InsI; simp only [h1, h2, hf, and_self, if_true, if_false, true_and]
    repeat' split
    all_goals (apply some_eq_dec; simp_all; try (intros; omega))
  by_cases h4 : o = 17
  · subst h4; unfold InsI SizeI; simp only [h1, h2, h3, hr, hd, hf, and_self, if_true, if_false, true_and]
    repeat' split
    all_goals (apply some_eq_dec; simp_all; try (intros; omega))
  by_cases h5 : o = 18
  · subst h5; unfold InsI SizeI; simp only [h1, h2, h3, h4, he, hd, hf, and_self, if_true, if_false, true_and]
    repeat' split
    all_goals (apply some_eq_dec; simp_all; try (intros; omega))
  by_cases h6 : o = 19
  · subst h6; unfold InsI; simp only [h1, h2, h3, h4, h5, if_true, if_false]
    repeat' split
    all_goals (apply some_eq_dec; simp_all; try (intros; omega))
  · unfold InsI; simp only [h1, h2, h3, h4, h5, h6, if_false]
    repeat' split
    all_goals (apply some_eq_dec; simp_all; try (intros; omega))
theorem specInsOk_eq (o d s f m z : Int) : spec_l1InsOk.f o d s f m z = some (decide (InsI o d s f m z)) := by
  unfold spec_l1InsOk.f
  simp only [l1In_eq, Option.bind_some, decide_eq_true_eq]
  by_cases h1 : 0 ≤ d ∧ d ≤ 10
  · by_cases h2 : -1 ≤ s ∧ s ≤ 10
    · by_cases h3 : -128 ≤ f ∧ f ≤ 127
      · by_cases h4 : 0 ≤ m ∧ m ≤ 4294967295
        · rw [if_pos h1, if_pos h2, if_pos h3, if_pos h4, specBare_eq o d s f m z h2 h1 h3 h4]; rfl
        · rw [if_pos h1, if_pos h2, if_pos h3, if_neg h4, decide_eq_false (fun x => h4 (InsI.range x).2.2.2.2.1)]
      · rw [if_pos h1, if_pos h2, if_neg h3, decide_eq_false (fun x => h3 (InsI.range x).2.2.2.1)]
    · rw [if_pos h1, if_neg h2, decide_eq_false (fun x => h2 (InsI.range x).2.2.1)]
  · rw [if_neg h1, decide_eq_false (fun x => h1 (InsI.range x).2.1)]
/-- A number's text. -/
def dig (n : Int) : ByteArray := ⟨(Lib.itoa n).toArray⟩
theorem itoa_eq {n : Int} (h0 : -9223372036854775808 ≤ n) (h1 : n ≤ 9223372036854775807) : strconv_Itoa.f n = some (dig n) := by
  unfold strconv_Itoa.f
  rw [if_pos h0, if_pos h1]
  rfl
theorem dig_neg {n : Int} (h : 0 < n) : dig (-n) = (⟨#[45]⟩ : ByteArray) ++ dig n := by
  apply ByteArray.ext
  rw [ByteArray.data_append]
  apply Array.toList_inj.1
  unfold dig Lib.itoa
  rw [if_pos (by omega), if_neg (by omega), show (-n).natAbs = n.toNat by omega]
  simp
theorem dig_small {n : Int} (h0 : 0 ≤ n) (h1 : n < 10) : dig n = strOfNums [(wrap64 (48 + n)) % 256] := by
  rw [wrap64_id (n := 48 + n) (by omega) (by omega), show (48 + n) % 256 = 48 + n by omega]
  apply ByteArray.ext
  apply Array.toList_inj.1
  rw [strOfNums_data]
  unfold dig Lib.itoa
  rw [if_neg (by omega), Lib.decDigits, dif_pos (by omega)]
  simp only [List.map_cons, List.map_nil]
  rw [show (48 + n).toNat = 48 + n.toNat by omega]
theorem dig_step {n : Int} (h0 : 10 ≤ n) (h1 : n ≤ 9223372036854775807) : dig n = dig (wrap64 (Int.tdiv n 10)) ++ strOfNums [(wrap64 (48 + (Int.tmod n 10))) % 256] := by
  rw [Int.tdiv_eq_ediv_of_nonneg (by omega), Int.tmod_eq_emod_of_nonneg (by omega), wrap64_id (n := n / 10) (by omega) (by omega), wrap64_id (n := 48 + n % 10) (by omega) (by omega), show (48 + n % 10) % 256 = 48 + n % 10 by omega]
  apply ByteArray.ext
  rw [ByteArray.data_append]
  apply Array.toList_inj.1
  rw [Array.toList_append, strOfNums_data]
  unfold dig Lib.itoa
  rw [if_neg (by omega), if_neg (by omega), Lib.decDigits, dif_neg (by omega), show n.toNat / 10 = (n / 10).toNat by omega, show (48 + n.toNat % 10) = (48 + n % 10).toNat by omega]
  simp
theorem dec_at (d : Nat) : d ≤ 20 → ∀ (k : Nat) (a : Int), 0 ≤ a → a ≤ 9223372036854775807 → a < 10 ^ (d + 1) → d < k → spec_l1Dec.f k a = some (dig a) ∧ (dig a).size ≤ d + 1 := by
  induction d with
  | zero =>
    intro _ k a h0 _ h1 hk
    obtain ⟨k, rfl⟩ : ∃ m, k = m + 1 := ⟨k - 1, by omega⟩
    rw [spec_l1Dec.f, if_neg (by omega), if_neg (by omega), if_pos (by omega), dig_small h0 (by omega), strOfNums_size]
    exact ⟨rfl, Nat.le_refl _⟩
  | succ d ih =>
    intro hd k a h0 hm h1 hk
    obtain ⟨k, rfl⟩ : ∃ m, k = m + 1 := ⟨k - 1, by omega⟩
    rw [spec_l1Dec.f, if_neg (by omega), if_neg (by omega)]
    by_cases h : a < 10
    · rw [if_pos h, dig_small h0 h, strOfNums_size]
      exact ⟨rfl, by simp⟩
    rw [if_neg h, dig_step (by omega) hm]
    rw [Int.pow_succ] at h1
    have hlt : a / 10 < 10 ^ (d + 1) := by omega
    have e := ih (by omega) k (a / 10) (by omega) (by omega) hlt (by omega)
    have hw : wrap64 (Int.tdiv a 10) = a / 10 := by rw [Int.tdiv_eq_ediv_of_nonneg h0, wrap64_id (n := a / 10) (by omega) (by omega)]
    rw [hw, e.1]
    simp only [Option.bind_some]
    rw [ByteArray.size_append, strOfNums_size]
    simp only [List.length_cons, List.length_nil]
    have := e.2
    rw [if_pos (by omega)]
    exact ⟨rfl, by omega⟩
theorem dec_eq {a : Int} (h0 : -1000000000000 < a) (h1 : a < 1000000000000) {k : Nat} (hk : 20 < k) : spec_l1Dec.f k a = some (dig a) ∧ (dig a).size ≤ 20 := by
  by_cases h : 0 ≤ a
  · have e := dec_at 12 (by decide) k a h (by omega) (by omega) (by omega)
    exact ⟨e.1, by have := e.2; omega⟩
  · obtain ⟨k, rfl⟩ : ∃ m, k = m + 1 := ⟨k - 1, by omega⟩
    have e := dec_at 12 (by decide) k (-a) (by omega) (by omega) (by omega) (by omega)
    have hd := dig_neg (n := -a) (by omega)
    rw [Int.neg_neg] at hd
    have := e.2
    have one : (⟨#[45]⟩ : ByteArray).size = 1 := rfl
    rw [spec_l1Dec.f, if_neg (by omega), if_pos (by omega), wrap64_id (n := -a) (by omega) (by omega), e.1]
    simp only [Option.bind_some]
    rw [if_pos (by omega), hd, ByteArray.size_append]
    exact ⟨rfl, by omega⟩
theorem words_eq : spec_l1Words.f = some impl_opWords.L := rfl
theorem calls_eq : spec_l1Calls.f = some impl_callWords.L := rfl
theorem opw_size {o : Int} (h0 : 0 ≤ o) (h1 : o < 21) : (rdOf ByteArray.empty impl_opWords.L o).size ≤ 5 := by
  have hc : o = 0 ∨ o = 1 ∨ o = 2 ∨ o = 3 ∨ o = 4 ∨ o = 5 ∨ o = 6 ∨ o = 7 ∨ o = 8 ∨ o = 9 ∨ o = 10 ∨ o = 11 ∨ o = 12 ∨ o = 13 ∨ o = 14 ∨ o = 15 ∨ o = 16 ∨ o = 17 ∨ o = 18 ∨ o = 19 ∨ o = 20 := by omega
  rcases hc with e|e|e|e|e|e|e|e|e|e|e|e|e|e|e|e|e|e|e|e|e <;> (rw [e]; decide)
theorem callw_size {o : Int} (h0 : 0 ≤ o) (h1 : o < 7) : (rdOf ByteArray.empty impl_callWords.L o).size ≤ 5 := by
  have hc : o = 0 ∨ o = 1 ∨ o = 2 ∨ o = 3 ∨ o = 4 ∨ o = 5 ∨ o = 6 := by omega
  rcases hc with e|e|e|e|e|e|e <;> (rw [e]; decide)
theorem bsz1 (a : UInt8) : (⟨#[a]⟩ : ByteArray).size = 1 := rfl
theorem bsz2 (a b : UInt8) : (⟨#[a, b]⟩ : ByteArray).size = 2 := rfl
theorem sp_r : (⟨#[32, 114]⟩ : ByteArray) = ⟨#[32]⟩ ++ ⟨#[114]⟩ := rfl
/-- The text of a register or of the number in its place. -/
def valT (s m : Int) : ByteArray := if s = -1 then dig m else (⟨#[114]⟩ : ByteArray) ++ dig s
theorem reg_eq {n : Int} (h0 : 0 ≤ n) (h1 : n ≤ 10) : impl_reg.f n = some ((⟨#[114]⟩ : ByteArray) ++ dig n) := by
  unfold impl_reg.f
  have := (dec_eq (a := n) (by omega) (by omega) (k := 30) (by decide)).2
  rw [itoa_eq (by omega) (by omega), Option.bind_some, if_pos (by omega)]
theorem value_eq {o d s f m z : Int} (h : EitherI s m) : impl_Ins_value.f o d s f m z = some (valT s m) := by
  unfold impl_Ins_value.f valT
  unfold EitherI at h
  by_cases e : s = -1
  · rw [if_pos e, if_pos e, itoa_eq (by omega) (by omega), Option.bind_some]
  · rw [if_neg e, if_neg e, reg_eq (by omega) (by omega), Option.bind_some]
theorem sreg_eq {s m : Int} (h : EitherI s m) {k : Nat} (hk : 20 < k) : spec_l1Reg.f k s m = some (valT s m) := by
  unfold spec_l1Reg.f valT
  unfold EitherI at h
  by_cases e : s = -1
  · rw [if_neg (by omega), if_pos e, (dec_eq (by omega) (by omega) hk).1, Option.bind_some]
  · have := dec_eq (a := s) (by omega) (by omega) hk
    rw [if_pos (by omega), if_neg e, this.1, Option.bind_some, if_pos (by omega)]
theorem valT_size {s m : Int} (h : EitherI s m) : (valT s m).size ≤ 21 := by
  unfold EitherI at h
  unfold valT
  split
  · have := (dec_eq (a := m) (by omega) (by omega) (k := 30) (by decide)).2; omega
  · have := (dec_eq (a := s) (by omega) (by omega) (k := 30) (by decide)).2
    rw [ByteArray.size_append, bsz1]; omega
/-- The line of an op, with a text for where it goes. -/
def lineT (o d s f m z : Int) : ByteArray :=
  let w := rdOf ByteArray.empty impl_opWords.L o
  let sp : ByteArray := ⟨#[32]⟩
  let r (n : Int) : ByteArray := ⟨#[114]⟩ ++ dig n
  if 1 ≤ o ∧ o ≤ 11 then w ++ (sp ++ (r d ++ (sp ++ valT s m)))
  else if 12 ≤ o ∧ o ≤ 15 then w ++ (sp ++ (r d ++ (sp ++ (valT s m ++ (sp ++ dig f)))))
  else if o = 16 then w ++ (sp ++ dig f)
  else if o = 17 then w ++ (dig z ++ (sp ++ (r d ++ (sp ++ (r s ++ (sp ++ dig f))))))
  else if o = 18 then w ++ (dig z ++ (sp ++ (r d ++ (sp ++ (dig f ++ (sp ++ valT s m))))))
  else if o = 19 then w ++ (sp ++ rdOf ByteArray.empty impl_callWords.L m)
  else w
theorem implLine_eq {o d s f m z : Int} (h : InsI o d s f m z) : impl_Ins_line.f o d s f m z (dig f) = some (lineT o d s f m z) := by
  have hr := h.range
  have w1 := opw_size (o := o) (by omega) (by omega)
  have d1 := (dec_eq (a := d) (by omega) (by omega) (k := 30) (by decide)).2
  have f1 := (dec_eq (a := f) (by omega) (by omega) (k := 30) (by decide)).2
  have z1 := (dec_eq (a := z) (by omega) (by omega) (k := 30) (by decide)).2
  unfold impl_Ins_line.f
  rw [if_pos (by omega), if_pos (by omega)]
  simp only [reckons_eq, asks_eq, Option.bind_some, decide_eq_true_eq]
  unfold lineT
  unfold InsI at h
  generalize rdOf ByteArray.empty impl_opWords.L o = w at *
  by_cases c1 : 1 ≤ o ∧ o ≤ 11
  · rw [if_pos c1] at h ⊢
    rw [if_pos c1]
    have v1 := valT_size h.2.1
    rw [if_pos (by omega), reg_eq h.1.1 h.1.2, Option.bind_some]
    simp only [ByteArray.size_append, bsz1]
    rw [if_pos (by omega), if_pos (by omega), value_eq h.2.1, Option.bind_some, if_pos (by omega)]
    simp only [ByteArray.append_assoc]
  rw [if_neg c1] at h ⊢
  rw [if_neg c1]
  by_cases c2 : 12 ≤ o ∧ o ≤ 15
  · rw [if_pos c2] at h ⊢
    rw [if_pos c2]
    have v1 := valT_size h.2.1
    rw [if_pos (by omega), reg_eq h.1.1 h.1.2, Option.bind_some]
    simp only [ByteArray.size_append, bsz1]
    rw [if_pos (by omega), if_pos (by omega), value_eq h.2.1, Option.bind_some, if_pos (by omega), if_pos (by omega), if_pos (by omega)]
    simp only [ByteArray.append_assoc]
  rw [if_neg c2] at h ⊢
  rw [if_neg c2]
  by_cases c3 : o = 16
  · rw [if_pos c3] at h ⊢
    rw [if_pos c3]
    simp only [ByteArray.size_append, bsz1]
    rw [if_pos (by omega), if_pos (by omega)]
    simp only [ByteArray.append_assoc]
  rw [if_neg c3] at h ⊢
  rw [if_neg c3]
  by_cases c4 : o = 17
  · rw [if_pos c4] at h ⊢
    rw [if_pos c4]
    have s1 := (dec_eq (a := s) (by omega) (by omega) (k := 30) (by decide)).2
    rw [itoa_eq (by omega) (by omega), Option.bind_some, reg_eq h.1.1 h.1.2, reg_eq h.2.1.1 h.2.1.2]
    simp only [ByteArray.size_append, bsz1, Option.bind_some]
    rw [if_pos (by omega), if_pos (by omega), if_pos (by omega), if_pos (by omega), if_pos (by omega), if_pos (by omega), if_pos (by omega)]
    simp only [ByteArray.append_assoc]
  rw [if_neg c4] at h ⊢
  rw [if_neg c4]
  by_cases c5 : o = 18
  · rw [if_pos c5] at h ⊢
    rw [if_pos c5]
    have v1 := valT_size h.2.1
    rw [itoa_eq (by omega) (by omega), Option.bind_some, reg_eq h.1.1 h.1.2, value_eq h.2.1]
    simp only [ByteArray.size_append, bsz1, Option.bind_some]
    rw [if_pos (by omega), if_pos (by omega), if_pos (by omega), if_pos (by omega), if_pos (by omega), if_pos (by omega), if_pos (by omega)]
    simp only [ByteArray.append_assoc]
  rw [if_neg c5] at h ⊢
  rw [if_neg c5]
  by_cases c6 : o = 19
  · rw [if_pos c6] at h ⊢
    rw [if_pos c6]
    have v1 := callw_size (o := m) (by omega) (by omega)
    simp only [ByteArray.size_append, bsz1]
    rw [if_pos (by omega), if_pos (by omega), if_pos (by omega), if_pos (by omega)]
    simp only [ByteArray.append_assoc]
  rw [if_neg c6, if_neg c6]
theorem specLine_eq {o d s f m z : Int} (h : InsI o d s f m z) {k : Nat} (hk : 20 < k) : spec_l1Line.f k o d s f m z = some (lineT o d s f m z) := by
  have hr := h.range
  have w1 := opw_size (o := o) (by omega) (by omega)
  have d1 := dec_eq (a := d) (by omega) (by omega) hk
  have f1 := dec_eq (a := f) (by omega) (by omega) hk
  have z1 := dec_eq (a := z) (by omega) (by omega) hk
  unfold spec_l1Line.f
  rw [words_eq, Option.bind_some, if_pos (by omega), if_pos (by show o < 21; omega), d1.1, Option.bind_some, if_pos (by omega)]
  unfold spec_l1Alu.f spec_l1Jump.f
  simp only [l1In_eq, Option.bind_some, decide_eq_true_eq]
  unfold lineT
  unfold InsI at h
  generalize rdOf ByteArray.empty impl_opWords.L o = w at *
  by_cases c1 : 1 ≤ o ∧ o ≤ 11
  · rw [if_pos c1] at h ⊢
    rw [if_pos c1]
    have v1 := valT_size h.2.1
    simp only [ByteArray.size_append, bsz1, bsz2]
    rw [if_pos (by omega), if_pos (by omega), sreg_eq h.2.1 hk, Option.bind_some, if_pos (by omega)]
    simp only [ByteArray.append_assoc, sp_r]
  rw [if_neg c1] at h ⊢
  rw [if_neg c1]
  by_cases c2 : 12 ≤ o ∧ o ≤ 15
  · rw [if_pos c2] at h ⊢
    rw [if_pos c2]
    have v1 := valT_size h.2.1
    simp only [ByteArray.size_append, bsz1, bsz2]
    rw [if_pos (by omega), if_pos (by omega), sreg_eq h.2.1 hk, Option.bind_some, if_pos (by omega), if_pos (by omega), f1.1, Option.bind_some, if_pos (by omega)]
    simp only [ByteArray.append_assoc, sp_r]
  rw [if_neg c2] at h ⊢
  rw [if_neg c2]
  by_cases c3 : o = 16
  · rw [if_pos c3] at h ⊢
    rw [if_pos c3]
    simp only [ByteArray.size_append, bsz1]
    rw [if_pos (by omega), f1.1, Option.bind_some, if_pos (by omega)]
    simp only [ByteArray.append_assoc]
  rw [if_neg c3] at h ⊢
  rw [if_neg c3]
  by_cases c4 : o = 17
  · rw [if_pos c4] at h ⊢
    rw [if_pos c4]
    have s1 := dec_eq (a := s) (by omega) (by omega) hk
    rw [z1.1, Option.bind_some, s1.1, f1.1]
    simp only [ByteArray.size_append, bsz1, bsz2, Option.bind_some]
    rw [if_pos (by omega), if_pos (by omega), if_pos (by omega), if_pos (by omega), if_pos (by omega), if_pos (by omega)]
    simp only [ByteArray.append_assoc, sp_r]
  rw [if_neg c4] at h ⊢
  rw [if_neg c4]
  by_cases c5 : o = 18
  · rw [if_pos c5] at h ⊢
    rw [if_pos c5]
    have v1 := valT_size h.2.1
    rw [z1.1, Option.bind_some, sreg_eq h.2.1 hk, f1.1]
    simp only [ByteArray.size_append, bsz1, bsz2, Option.bind_some]
    rw [if_pos (by omega), if_pos (by omega), if_pos (by omega), if_pos (by omega), if_pos (by omega), if_pos (by omega)]
    simp only [ByteArray.append_assoc, sp_r]
  rw [if_neg c5] at h ⊢
  rw [if_neg c5]
  by_cases c6 : o = 19
  · rw [if_pos c6] at h ⊢
    rw [if_pos c6]
    have v1 := callw_size (o := m) (by omega) (by omega)
    rw [calls_eq]
    simp only [ByteArray.size_append, bsz1, Option.bind_some]
    rw [if_pos (by omega), if_pos (by omega), if_pos (by show m < 7; omega), if_pos (by omega)]
    simp only [ByteArray.append_assoc]
  rw [if_neg c6, if_neg c6]

theorem FnExactLinePut : laws_FnExactLinePut.Pure := by
  intro o d s f m z _ _ _ _ _ _
  refine ⟨30, ?_⟩
  unfold laws_FnExactLinePut.f laws_toIns.f spec_LinePut.f impl_LinePut.f
  simp only [specInsOk_eq, implInsOk_eq, Option.bind_some, decide_eq_true_eq]
  by_cases h : InsI o d s f m z
  · have hr := h.range
    rw [if_pos h, if_pos h, specLine_eq h (by decide), itoa_eq (by omega) (by omega)]
    simp only [Option.bind_some]
    rw [implLine_eq h]
    simp only [Option.bind_some, if_true]
  · rw [if_neg h, if_neg h]
    simp only [Option.bind_some, if_true]

end Go.Proofs.YtllmbooicobmkaaDoor.Pure
