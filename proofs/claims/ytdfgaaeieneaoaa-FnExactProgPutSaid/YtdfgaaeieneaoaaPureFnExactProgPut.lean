/- The law FnExactProgPut, as a statement about numbers and lists alone: the program and the reference write a program alike. It holds at every input. -/
import Derived.Test.YtdfgaaeieneaoaaQ2
import Derived.Test.YtdfgaaeieneaoaaMath
namespace Go.Proofs.Ytdfgaaeieneaoaa.Pure
open Go Go.RowKit Go.Proofs.Ytdfgaaeieneaoaa.Q Go.Proofs.YtdfgaaeieneaoaaW.PrintWords Go.Proofs.YtdfgaaeieneaoaaW.PrintLast Go.Proofs.YtdfgaaeieneaoaaW.PrintMore Rg

theorem l1In_eq (a b c : Int) : spec_l1In.f a b c = some (decide (b ≤ a ∧ a ≤ c)) := by
  unfold spec_l1In.f
  by_cases h : a ≥ b
  · rw [if_pos h]; simp [show b ≤ a from h]
  · rw [if_neg h]; simp [show ¬ b ≤ a from h]
theorem within_eq (a b c : Int) : impl_within.f a b c = some (decide (b ≤ a ∧ a ≤ c)) := by
  unfold impl_within.f
  by_cases h : a ≥ b
  · rw [if_pos h]; simp [show b ≤ a from h]
  · rw [if_neg h]; simp [show ¬ b ≤ a from h]
theorem numOk_eq (a : Int) : impl_numOk.f a = some (decide (0 ≤ a ∧ a ≤ 4294967295)) := by
  unfold impl_numOk.f
  rw [within_eq]; rfl
theorem set_step {α : Type} (l x : List α) (z : α) (p : Nat) (hx : x.length = l.length) (hp : p < l.length) (h : x.take p = l.take p) : (x.set p (l.getD p z)).take (p + 1) = l.take (p + 1) := by
  have e : l.getD p z = l[p] := by rw [List.getD_eq_getElem?_getD, List.getElem?_eq_getElem hp]; rfl
  rw [e, List.take_add_one, List.take_add_one, List.take_set_of_le (Nat.le_refl p), h, List.getElem?_set_self (by omega), List.getElem?_eq_getElem hp]
/-- A register, or a number in its place. -/
def EitherI (s m : Int) : Prop := (0 ≤ s ∧ s ≤ 10 ∧ m = 0) ∨ (s = -1 ∧ 0 ≤ m ∧ m ≤ 4294967295)
/-- How many bytes are loaded or stored. -/
def SizeI (z : Int) : Prop := z = 1 ∨ z = 2 ∨ z = 4
/-- An op that is ok. -/
def InsI (o d s f m z : Int) : Prop :=
  if 1 ≤ o ∧ o ≤ 11 then (0 ≤ d ∧ d ≤ 10) ∧ EitherI s m ∧ f = 0 ∧ z = 0
  else if 12 ≤ o ∧ o ≤ 15 then (0 ≤ d ∧ d ≤ 10) ∧ EitherI s m ∧ (-128 ≤ f ∧ f ≤ 127) ∧ z = 0
  else if o = 16 then (-128 ≤ f ∧ f ≤ 127) ∧ d = 0 ∧ s = -1 ∧ m = 0 ∧ z = 0
  else if o = 17 then (0 ≤ d ∧ d ≤ 10) ∧ (0 ≤ s ∧ s ≤ 10) ∧ m = 0 ∧ (-128 ≤ f ∧ f ≤ 127) ∧ SizeI z
  else if o = 18 then (0 ≤ d ∧ d ≤ 10) ∧ EitherI s m ∧ (-128 ≤ f ∧ f ≤ 127) ∧ SizeI z
  else if o = 19 then (1 ≤ m ∧ m ≤ 6) ∧ d = 0 ∧ s = -1 ∧ f = 0 ∧ z = 0
  else o = 20 ∧ d = 0 ∧ s = -1 ∧ f = 0 ∧ m = 0 ∧ z = 0
instance EitherI_dec (s m : Int) : Decidable (EitherI s m) := by unfold EitherI; exact inferInstance
instance SizeI_dec (z : Int) : Decidable (SizeI z) := by unfold SizeI; exact inferInstance
instance InsI_dec (o d s f m z : Int) : Decidable (InsI o d s f m z) := by unfold InsI; exact inferInstance
theorem some_eq_dec {b : Bool} {p : Prop} [Decidable p] (h : b = true ↔ p) : some b = some (decide p) := by
  congr 1
  rw [Bool.eq_iff_iff, h, decide_eq_true_eq]
theorem InsI.range {o d s f m z : Int} (h : InsI o d s f m z) : (1 ≤ o ∧ o ≤ 20) ∧ (0 ≤ d ∧ d ≤ 10) ∧ (-1 ≤ s ∧ s ≤ 10) ∧ (-128 ≤ f ∧ f ≤ 127) ∧ (0 ≤ m ∧ m ≤ 4294967295) ∧ (0 ≤ z ∧ z ≤ 4) := by
  unfold InsI EitherI SizeI at h
  repeat' split at h
  all_goals omega
theorem reckons_eq (o : Int) : impl_kind_reckons.f o = some (decide (1 ≤ o ∧ o ≤ 11)) := by unfold impl_kind_reckons.f; simp only [within_eq, Option.bind_some]
theorem asks_eq (o : Int) : impl_kind_asks.f o = some (decide (12 ≤ o ∧ o ≤ 15)) := by unfold impl_kind_asks.f; simp only [within_eq, Option.bind_some]
theorem regOk_eq (d : Int) : impl_regOk.f d = some (decide (0 ≤ d ∧ d ≤ 10)) := by unfold impl_regOk.f; simp only [within_eq, Option.bind_some]
theorem sizeOk_eq (z : Int) : impl_sizeOk.f z = some (decide (SizeI z)) := by
  unfold impl_sizeOk.f
  repeat' split
  all_goals (apply some_eq_dec; unfold SizeI; simp only [beq_iff_eq, true_iff]; omega)
theorem either_eq (o d s f m z : Int) : impl_Ins_either.f o d s f m z = some (decide (EitherI s m)) := by
  unfold impl_Ins_either.f
  simp only [regOk_eq, numOk_eq, Option.bind_some, decide_eq_true_eq]
  repeat' split
  all_goals (apply some_eq_dec; unfold EitherI; simp only [decide_eq_true_eq, true_iff, Bool.false_eq_true, false_iff]; omega)
theorem implInsOk_eq (o d s f m z : Int) : impl_InsOk.f o d s f m z = some (decide (InsI o d s f m z)) := by
  unfold impl_InsOk.f
  simp only [within_eq, regOk_eq, reckons_eq, asks_eq, sizeOk_eq, either_eq, Option.bind_some, decide_eq_true_eq]
  by_cases h1 : 1 ≤ o ∧ o ≤ 11
  · unfold InsI; simp only [h1, and_self, if_true]
    repeat' split
    all_goals (apply some_eq_dec; simp_all; try (intros; omega))
  by_cases h2 : 12 ≤ o ∧ o ≤ 15
  · unfold InsI; simp only [h1, h2, and_self, if_true, if_false]
    repeat' split
    all_goals (apply some_eq_dec; simp_all; try (intros; omega))
  by_cases h3 : o = 16
  · subst h3; unfold InsI; simp only [h1, h2, if_true, if_false]
    repeat' split
    all_goals (apply some_eq_dec; simp_all; try (intros; omega))
  by_cases h4 : o = 17
  · subst h4; unfold InsI; simp only [h1, h2, h3, if_true, if_false]
    repeat' split
    all_goals (apply some_eq_dec; simp_all; try (intros; omega))
  by_cases h5 : o = 18
  · subst h5; unfold InsI; simp only [h1, h2, h3, h4, if_true, if_false]
    repeat' split
    all_goals (apply some_eq_dec; simp_all; try (intros; omega))
  by_cases h6 : o = 19
  · subst h6; unfold InsI; simp only [h1, h2, h3, h4, h5, if_true, if_false]
    repeat' split
    all_goals (apply some_eq_dec; simp_all; try (intros; omega))
  · unfold InsI; simp only [h1, h2, h3, h4, h5, h6, if_false]
    apply some_eq_dec
    simp
theorem specBare_eq (o d s f m z : Int) (hs : -1 ≤ s ∧ s ≤ 10) (hd : 0 ≤ d ∧ d ≤ 10) (hf : -128 ≤ f ∧ f ≤ 127) (hm : 0 ≤ m ∧ m ≤ 4294967295) : spec_l1Bare.f o d s f m z = some (decide (InsI o d s f m z)) := by
  have he : EitherI s m ↔ (s < 0 ∨ m = 0) := by unfold EitherI; omega
  have hr : (0 ≤ s ∧ s ≤ 10) ↔ s ≥ 0 := by omega
  unfold spec_l1Bare.f spec_l1Alu.f spec_l1Jump.f
  simp only [l1In_eq, Option.bind_some, decide_eq_true_eq]
  by_cases h1 : 1 ≤ o ∧ o ≤ 11
  · unfold InsI; simp only [h1, he, hr, hd, hf, and_self, if_true, true_and]
    repeat' split
    all_goals (apply some_eq_dec; simp_all; try (intros; omega))
  by_cases h2 : 12 ≤ o ∧ o ≤ 15
  · unfold InsI; simp only [h1, h2, he, hr, hd, hf, and_self, if_true, if_false, true_and]
    repeat' split
    all_goals (apply some_eq_dec; simp_all; try (intros; omega))
  by_cases h3 : o = 16
  · subst h3; unfold InsI; simp only [h1, h2, hf, and_self, if_true, if_false, true_and]
    repeat' split
    all_goals (apply some_eq_dec; simp_all; try (intros; omega))
  by_cases h4 : o = 17
  · subst h4; unfold InsI SizeI; simp only [h1, h2, h3, hr, hd, hf, and_self, if_true, if_false, true_and]
    repeat' split
    all_goals (apply some_eq_dec; simp_all; try (intros; omega))
  by_cases h5 : o = 18
  · subst h5; unfold InsI SizeI; simp only [h1, h2, h3, h4, he, hd, hf, and_self, if_true, if_false, true_and]
    repeat' split
    all_goals (apply some_eq_dec; simp_all; try (intros; omega))
  by_cases h6 : o = 19
  · subst h6; unfold InsI; simp only [h1, h2, h3, h4, h5, if_true, if_false]
    repeat' split
    all_goals (apply some_eq_dec; simp_all; try (intros; omega))
  · unfold InsI; simp only [h1, h2, h3, h4, h5, h6, if_false]
    repeat' split
    all_goals (apply some_eq_dec; simp_all; try (intros; omega))
theorem specInsOk_eq (o d s f m z : Int) : spec_l1InsOk.f o d s f m z = some (decide (InsI o d s f m z)) := by
  unfold spec_l1InsOk.f
  simp only [l1In_eq, Option.bind_some, decide_eq_true_eq]
  by_cases h1 : 0 ≤ d ∧ d ≤ 10
  · by_cases h2 : -1 ≤ s ∧ s ≤ 10
    · by_cases h3 : -128 ≤ f ∧ f ≤ 127
      · by_cases h4 : 0 ≤ m ∧ m ≤ 4294967295
        · rw [if_pos h1, if_pos h2, if_pos h3, if_pos h4, specBare_eq o d s f m z h2 h1 h3 h4]; rfl
        · rw [if_pos h1, if_pos h2, if_pos h3, if_neg h4, decide_eq_false (fun x => h4 (InsI.range x).2.2.2.2.1)]
      · rw [if_pos h1, if_pos h2, if_neg h3, decide_eq_false (fun x => h3 (InsI.range x).2.2.2.1)]
    · rw [if_pos h1, if_neg h2, decide_eq_false (fun x => h2 (InsI.range x).2.2.1)]
  · rw [if_neg h1, decide_eq_false (fun x => h1 (InsI.range x).2.1)]
theorem strOfNums_app (a b : List Int) : strOfNums a ++ strOfNums b = strOfNums (a ++ b) := by
  apply ByteArray.ext
  unfold strOfNums
  simp [ByteArray.data_append]
theorem and_255 (x : Int) : Go.bits .and .i64 x 255 % 256 = x % 256 := by
  show IntKind.i64.wrap ((BitVec.ofInt 64 x &&& BitVec.ofInt 64 255).toNat : Int) % 256 = _
  have e : (BitVec.ofInt 64 x &&& BitVec.ofInt 64 255).toNat = (x % 256).toNat := by
    rw [BitVec.toNat_and, show (BitVec.ofInt 64 255).toNat = 2 ^ 8 - 1 from by decide, Nat.and_two_pow_sub_one_eq_mod, BitVec.toNat_ofInt]
    omega
  rw [e, IntKind.wrap_i64]
  omega
/-- The bytes of an op. -/
def insL (o d s f m z : Int) : List Int := [o % 256, (d * 16 + s + 1) % 256, f % 256, z % 256, m % 256, m / 256 % 256, m / 65536 % 256, m / 16777216 % 256]
theorem shr_int (m : Nat) (k : Nat) (hk : k ≤ 64) : shr .i64 (m : Int) (k : Int) = (m : Int) / ((2 ^ k : Nat) : Int) := by rw [shr_nat m hk, Int.natCast_ediv]
theorem specPut_eq (o s f z : Int) {d m : Int} (hd : 0 ≤ d ∧ d ≤ 10) (hs : -1 ≤ s ∧ s ≤ 10) : spec_l1Put.f o d s f m z = some (strOfNums (insL o d s f m z)) := by
  unfold spec_l1Put.f spec_l1Four.f
  simp only [Option.bind_some, and_255]
  rw [wrap64_id (n := d * 16) (by omega) (by omega), wrap64_id (n := d * 16 + s) (by omega) (by omega), wrap64_id (n := d * 16 + s + 1) (by omega) (by omega), if_pos (by simp only [strOfNums_size, List.length_cons, List.length_nil]; omega), strOfNums_app]
  rfl
theorem implPut_eq {o d s f m z : Int} (h : InsI o d s f m z) {k : Nat} (hk : 5 ≤ k) : impl_InsPut.f k o d s f m z = some (strOfNums (insL o d s f m z)) := by
  obtain ⟨_, hd, hs, _, hm, _⟩ := InsI.range h
  obtain ⟨n, rfl⟩ := Int.eq_ofNat_of_zero_le hm.1
  obtain ⟨k, rfl⟩ : ∃ q, k = q + 5 := ⟨k - 5, by omega⟩
  unfold impl_InsPut.f
  rw [implInsOk_eq, decide_eq_true h]
  simp only [Option.bind_some, if_true]
  rw [wrap64_id (n := d * 16) (by omega) (by omega), wrap64_id (n := d * 16 + s) (by omega) (by omega), wrap64_id (n := d * 16 + s + 1) (by omega) (by omega)]
  have w0 : wrap64 (8 * 0) = ((0 : Nat) : Int) := by unfold wrap64; omega
  have w1 : wrap64 (8 * 1) = ((8 : Nat) : Int) := by unfold wrap64; omega
  have w2 : wrap64 (8 * 2) = ((16 : Nat) : Int) := by unfold wrap64; omega
  have w3 : wrap64 (8 * 3) = ((24 : Nat) : Int) := by unfold wrap64; omega
  have s1 : wrap64 (0 + 1) = 1 := by unfold wrap64; omega
  have s2 : wrap64 (1 + 1) = 2 := by unfold wrap64; omega
  have s3 : wrap64 (2 + 1) = 3 := by unfold wrap64; omega
  have s4 : wrap64 (3 + 1) = 4 := by unfold wrap64; omega
  simp only [impl_InsPut.l0, w0, w1, w2, w3, s1, s2, s3, s4]
  rw [shr_int n 0 (by omega), shr_int n 8 (by omega), shr_int n 16 (by omega), shr_int n 24 (by omega)]
  rw [if_pos (by decide), if_pos (by decide), if_pos (by simp), if_pos (by decide), if_pos (by decide), if_pos (by simp), if_pos (by decide), if_pos (by decide), if_pos (by simp), if_pos (by decide), if_pos (by decide), if_pos (by simp), if_neg (by decide)]
  simp only [List.cons_append, List.nil_append]
  unfold insL
  congr 3
  simp
/-- What a byte of an op's bytes is. -/
theorem insL_len (o d s f m z : Int) : (strOfNums (insL o d s f m z)).size = 8 := by rw [strOfNums_size]; rfl
def okIns (x : S38) : Prop := InsI x.f0 x.f1 x.f2 x.f3 x.f4 x.f5
/-- An op of a program that is ok, and leads nowhere beyond. -/
def okAt (l : List S38) (i : Nat) : Prop := okIns (rd_T38 l i) ∧ (12 ≤ (rd_T38 l i).f0 ∧ (rd_T38 l i).f0 ≤ 16 → 0 ≤ (i : Int) + 1 + (rd_T38 l i).f3 ∧ (i : Int) + 1 + (rd_T38 l i).f3 ≤ (l.length : Int) - 1)
def allAt (l : List S38) (p : Nat) : Prop := ∀ i : Nat, p ≤ i → i < l.length → okAt l i
/-- What is told of a program whose ops are ok. -/
def tailI (l : List S38) : Int := if (l.length : Int) > 48 then 3 else if (l.length : Int) = 0 then 4 else if (rd_T38 l ((l.length : Int) - 1)).f0 = 20 ∨ (rd_T38 l ((l.length : Int) - 1)).f0 = 16 then 0 else 4
def FormOf (l : List S38) (p : Nat) (r : Int) : Prop := (allAt l p → r = tailI l) ∧ (¬ allAt l p → r = 1 ∨ r = 2)
theorem allAt_step {l : List S38} {p : Nat} (hp : p < l.length) : allAt l p ↔ okAt l p ∧ allAt l (p + 1) := by
  constructor
  · exact fun h => ⟨h p (Nat.le_refl p) hp, fun i h1 h2 => h i (by omega) h2⟩
  · rintro ⟨h, h'⟩ i h1 h2
    by_cases e : i = p
    · rw [e]; exact h
    · exact h' i (by omega) h2
theorem FormOf.step {l : List S38} {p : Nat} {r : Int} (hp : p < l.length) (h : okAt l p) (f : FormOf l (p + 1) r) : FormOf l p r :=
  ⟨fun a => f.1 ((allAt_step hp).1 a).2, fun n => f.2 (fun a => n ((allAt_step hp).2 ⟨h, a⟩))⟩
theorem FormOf.bad {l : List S38} {p : Nat} {r : Int} (hp : p < l.length) (h : ¬ okAt l p) (hr : r = 1 ∨ r = 2) : FormOf l p r :=
  ⟨fun a => absurd ((allAt_step hp).1 a).1 h, fun _ => hr⟩
theorem goes_eq (o : Int) : impl_kind_goes.f o = some (decide (12 ≤ o ∧ o ≤ 16)) := by unfold impl_kind_goes.f; simp only [within_eq, Option.bind_some]
theorem form_both (l : List S38) (hl : l.length ≤ 2000000) (d : Nat) : ∀ (k j p : Nat), p + d = l.length → 2 * d + 3 < k → 2 * d + 3 < j →
    ∃ r, impl_ProgForm.l0 k l l (l.length : Int) (p : Int) = some r ∧ spec_l1Form.l0 j l (p : Int) = some r ∧ FormOf l p r := by
  induction d with
  | zero =>
    intro k j p hp hk hj
    obtain ⟨k, rfl⟩ : ∃ m, k = m + 2 := ⟨k - 2, by omega⟩
    obtain ⟨j, rfl⟩ : ∃ m, j = m + 2 := ⟨j - 2, by omega⟩
    refine ⟨tailI l, ?_, ?_, fun _ => rfl, fun n => absurd (fun i h1 h2 => absurd h1 (by omega)) n⟩
    · rw [impl_ProgForm.l0, if_neg (by omega)]
      unfold tailI
      by_cases c1 : (l.length : Int) > 48
      · rw [if_pos c1, if_pos c1]
      rw [if_neg c1, if_neg c1]
      by_cases c2 : (l.length : Int) = 0
      · rw [if_pos c2, if_pos c2, impl_ProgForm.j1, if_pos (by rw [beq_iff_eq]; exact c2)]
      rw [if_neg c2, if_neg c2, wrap64_id (n := (l.length : Int) - 1) (by omega) (by omega), if_pos (by omega), if_pos (by omega), impl_ProgForm.j1, impl_ProgForm.j1]
      by_cases c3 : (rd_T38 l ((l.length : Int) - 1)).f0 = 20
      · rw [if_pos c3, if_pos (Or.inl c3), if_neg (by decide)]
      by_cases c4 : (rd_T38 l ((l.length : Int) - 1)).f0 = 16
      · rw [if_neg c3, if_pos (Or.inr c4), c4]; rfl
      · rw [if_neg c3, if_neg (show ¬ ((rd_T38 l ((l.length : Int) - 1)).f0 = 20 ∨ (rd_T38 l ((l.length : Int) - 1)).f0 = 16) by omega), if_pos (by rw [bne_iff_ne]; exact c4)]
    · rw [spec_l1Form.l0, if_neg (by omega)]
      unfold tailI
      by_cases c1 : (l.length : Int) > 48
      · rw [if_pos c1, if_pos c1]
      rw [if_neg c1, if_neg c1]
      by_cases c2 : (l.length : Int) = 0
      · rw [if_pos c2, if_pos c2, spec_l1Form.j2, if_pos rfl]
      rw [if_neg c2, if_neg c2, wrap64_id (n := (l.length : Int) - 1) (by omega) (by omega), if_pos (by omega), if_pos (by omega), spec_l1Form.j2, spec_l1Form.j2]
      by_cases c3 : (rd_T38 l ((l.length : Int) - 1)).f0 = 20
      · rw [if_pos c3, if_pos (Or.inl c3), if_neg (by decide)]
      by_cases c4 : (rd_T38 l ((l.length : Int) - 1)).f0 = 16
      · rw [if_neg c3, if_pos (Or.inr c4), c4]; rfl
      · rw [if_neg c3, if_neg (show ¬ ((rd_T38 l ((l.length : Int) - 1)).f0 = 20 ∨ (rd_T38 l ((l.length : Int) - 1)).f0 = 16) by omega), if_pos (by rw [bne_iff_ne]; exact c4)]
  | succ d ih =>
    intro k j p hp hk hj
    obtain ⟨k, rfl⟩ : ∃ m, k = m + 2 := ⟨k - 2, by omega⟩
    obtain ⟨j, rfl⟩ : ∃ m, j = m + 2 := ⟨j - 2, by omega⟩
    have hlt : p < l.length := by omega
    rw [impl_ProgForm.l0, if_pos (by omega), if_pos (by omega), if_pos (by omega), spec_l1Form.l0, if_pos (by omega), if_pos (by omega), implInsOk_eq, specInsOk_eq, goes_eq]
    simp only [Option.bind_some, decide_eq_true_eq]
    by_cases h : InsI (rd_T38 l p).f0 (rd_T38 l p).f1 (rd_T38 l p).f2 (rd_T38 l p).f3 (rd_T38 l p).f4 (rd_T38 l p).f5
    · have hr := (InsI.range h).2.2.2.1
      have tgt : wrap64 (wrap64 ((p : Int) + 1) + (rd_T38 l p).f3) = (p : Int) + 1 + (rd_T38 l p).f3 := by
        rw [wrap64_id (n := (p : Int) + 1) (by omega) (by omega), wrap64_id (by omega) (by omega)]
      have len1 : wrap64 ((l.length : Int) - 1) = (l.length : Int) - 1 := wrap64_id (by omega) (by omega)
      have js : (spec_l1Jump.f (rd_T38 l p).f0).bind (fun t669 => if t669 = true then spec_l1Form.j1 (j + 1) l p true else spec_l1Form.j1 (j + 1) l p ((rd_T38 l p).f0 == 16)) = spec_l1Form.j1 (j + 1) l p (decide (12 ≤ (rd_T38 l p).f0 ∧ (rd_T38 l p).f0 ≤ 16)) := by
        unfold spec_l1Jump.f
        simp only [l1In_eq, Option.bind_some, decide_eq_true_eq]
        by_cases c : 12 ≤ (rd_T38 l p).f0 ∧ (rd_T38 l p).f0 ≤ 15
        · rw [if_pos c, decide_eq_true (by omega)]
        · rw [if_neg c]
          congr 1
          rw [Bool.eq_iff_iff, beq_iff_eq, decide_eq_true_eq]
          omega
      rw [if_pos h, if_pos h, js, spec_l1Form.j1]
      unfold impl_target.f
      rw [if_pos (show (0 : Int) ≤ p by omega), if_pos (show (p : Int) < l.length by omega), tgt, len1]
      simp only [Option.bind_some, within_eq, l1In_eq, decide_eq_true_eq, w_succ (show p < 4611686018427387904 by omega)]
      by_cases c : 12 ≤ (rd_T38 l p).f0 ∧ (rd_T38 l p).f0 ≤ 16
      · rw [if_pos c, if_pos c, if_pos (show (0 : Int) ≤ p by omega), if_pos (show (p : Int) < l.length by omega)]
        by_cases t : 0 ≤ (p : Int) + 1 + (rd_T38 l p).f3 ∧ (p : Int) + 1 + (rd_T38 l p).f3 ≤ (l.length : Int) - 1
        · rw [if_pos t, if_pos t]
          obtain ⟨r, e1, e2, e3⟩ := ih (k + 1) j (p + 1) (by omega) (by omega) (by omega)
          exact ⟨r, e1, e2, FormOf.step hlt ⟨h, fun _ => t⟩ e3⟩
        · rw [if_neg t, if_neg t]
          exact ⟨2, rfl, rfl, FormOf.bad hlt (fun q => t (q.2 c)) (Or.inr rfl)⟩
      · rw [if_neg c, if_neg c]
        obtain ⟨r, e1, e2, e3⟩ := ih (k + 1) j (p + 1) (by omega) (by omega) (by omega)
        exact ⟨r, e1, e2, FormOf.step hlt ⟨h, fun q => absurd q c⟩ e3⟩
    · rw [if_neg h, if_neg h]
      exact ⟨1, rfl, rfl, FormOf.bad hlt (fun q => h q.1) (Or.inl rfl)⟩
def insOf (x : S42) : S38 := ⟨x.f0, x.f1, x.f2, x.f3, x.f4, x.f5⟩
theorem insOf_at (l : List S42) (p : Nat) (hp : p < l.length) : insOf (rd_T42 l (p : Int)) = (l.map insOf).getD p z38 := by
  unfold rd_T42
  rw [List.getD_eq_getElem?_getD, List.getD_eq_getElem?_getD, List.getElem?_map, Int.toNat_natCast, List.getElem?_eq_getElem hp]
  rfl
theorem toIns_loop (l : List S42) (hl : l.length ≤ 2000000) (d : Nat) : ∀ (k p : Nat) (x : List S38), p + d = l.length → d < k → x.length = l.length → x.take p = (l.map insOf).take p → laws_toInsS.l0 k l x (p : Int) = some (l.map insOf) := by
  induction d with
  | zero =>
    intro k p x hp hk hx h
    obtain ⟨k, rfl⟩ : ∃ m, k = m + 1 := ⟨k - 1, by omega⟩
    rw [laws_toInsS.l0, if_neg (by omega)]
    rw [List.take_of_length_le (by omega), List.take_of_length_le (by rw [List.length_map]; omega)] at h
    rw [h]
  | succ d ih =>
    intro k p x hp hk hx h
    obtain ⟨k, rfl⟩ : ∃ m, k = m + 1 := ⟨k - 1, by omega⟩
    rw [laws_toInsS.l0, if_pos (by omega), if_pos (by omega)]
    unfold laws_toIns.f
    simp only [Option.bind_some]
    rw [if_pos (by omega), w_succ (by omega)]
    refine ih k (p + 1) _ (by omega) (by omega) (by rw [List.length_set]; exact hx) ?_
    have e := set_step (l.map insOf) x z38 p (by rw [List.length_map]; exact hx) (by rw [List.length_map]; omega) h
    rw [← insOf_at l p (by omega)] at e
    exact e
theorem toInsS_eq (l : List S42) (hl : l.length ≤ 2000000) {k : Nat} (hk : l.length < k) : laws_toInsS.f k l = some (l.map insOf) := by
  unfold laws_toInsS.f
  rw [if_pos (by omega), if_pos (by omega)]
  exact toIns_loop l hl l.length k 0 _ (by omega) hk (by simp) rfl
theorem eqIns_loop (l : List S38) (hl : l.length ≤ 2000000) (d : Nat) : ∀ (k p : Nat), p + d = l.length → d < k → laws_eqInsS.l0 k l l (p : Int) = some true := by
  induction d with
  | zero =>
    intro k p hp hk
    obtain ⟨k, rfl⟩ : ∃ m, k = m + 1 := ⟨k - 1, by omega⟩
    rw [laws_eqInsS.l0, if_neg (by omega)]
  | succ d ih =>
    intro k p hp hk
    obtain ⟨k, rfl⟩ : ∃ m, k = m + 1 := ⟨k - 1, by omega⟩
    rw [laws_eqInsS.l0, if_pos (by omega), if_pos (by omega), if_pos (by omega), w_succ (by omega)]
    unfold laws_eqIns.f
    rw [if_pos rfl, if_pos rfl, if_pos rfl, if_pos rfl, if_pos rfl, if_pos rfl]
    simp only [Option.bind_some, if_true]
    exact ih k (p + 1) (by omega) (by omega)
theorem eqInsS_eq (l : List S38) (hl : l.length ≤ 2000000) {k : Nat} (hk : l.length < k) : laws_eqInsS.f k l l = some true := by
  unfold laws_eqInsS.f
  rw [if_pos rfl]
  exact eqIns_loop l hl l.length k 0 (by omega) hk
theorem szInsS_gives (l : List S42) (hl : l.length ≤ maxLen) {b : Int} (h0 : 0 ≤ b) (h1 : b ≤ 1048576) : Gives (laws_szInsS.f l b) (fun v => v ≤ 1048576 ∧ (v < 0 ∨ (0 ≤ v ∧ l.length ≤ 1048576))) := by
  have hl : l.length ≤ 9223372036854775807 := hl
  unfold laws_szInsS.f
  rw [wrap64_id (n := b - (l.length : Int)) (by omega) (by omega)]
  exact Gives.ite (fun _ => Gives.ret (by omega)) (fun h => Gives.ret (by omega))
/-- The numbers of a program's bytes. -/
def progL (l : List S38) : List Int := l.flatMap (fun x => insL x.f0 x.f1 x.f2 x.f3 x.f4 x.f5)
theorem progL_len (l : List S38) : (progL l).length = 8 * l.length := by
  unfold progL
  induction l with
  | nil => rfl
  | cons x l ih => rw [List.flatMap_cons, List.length_append, ih, List.length_cons]; show 8 + 8 * l.length = _; omega
theorem progL_step (l : List S38) (p : Nat) (hp : p < l.length) : progL (l.take (p + 1)) = progL (l.take p) ++ insL (rd_T38 l p).f0 (rd_T38 l p).f1 (rd_T38 l p).f2 (rd_T38 l p).f3 (rd_T38 l p).f4 (rd_T38 l p).f5 := by
  have e : rd_T38 l (p : Int) = l[p] := by unfold rd_T38; rw [List.getD_eq_getElem?_getD, Int.toNat_natCast, List.getElem?_eq_getElem hp]; rfl
  unfold progL
  rw [List.take_add_one, List.getElem?_eq_getElem hp, List.flatMap_append, e]
  simp
theorem bytes_back (s : ByteArray) : (⟨s.data.toList.toArray⟩ : ByteArray) = s := by simp
theorem app_data (a b : ByteArray) : a.data.toList ++ b.data.toList = (a ++ b).data.toList := by simp
theorem implProg_from (l : List S38) (hl : l.length ≤ 48) (ho : ∀ j : Nat, j < l.length → okIns (rd_T38 l j)) (d : Nat) : ∀ (k p : Nat), p + d = l.length → d + 6 < k → impl_ProgPut.l0 k l (p : Int) (strOfNums (progL (l.take p))).data.toList = some (strOfNums (progL l)) := by
  induction d with
  | zero =>
    intro k p hp hk
    obtain ⟨k, rfl⟩ : ∃ m, k = m + 1 := ⟨k - 1, by omega⟩
    rw [impl_ProgPut.l0, if_neg (by omega), List.take_of_length_le (by omega), bytes_back]
  | succ d ih =>
    intro k p hp hk
    obtain ⟨k, rfl⟩ : ∃ m, k = m + 1 := ⟨k - 1, by omega⟩
    have h := ho p (by omega)
    have h : InsI (rd_T38 l p).f0 (rd_T38 l p).f1 (rd_T38 l p).f2 (rd_T38 l p).f3 (rd_T38 l p).f4 (rd_T38 l p).f5 := h
    have hn : (strOfNums (progL (l.take p))).data.toList.length = 8 * p := by
      rw [Array.length_toList]
      show (strOfNums (progL (l.take p))).size = 8 * p
      rw [strOfNums_size, progL_len, List.length_take]
      omega
    rw [impl_ProgPut.l0, if_pos (by omega), if_pos (by omega), implPut_eq h (by omega)]
    simp only [Option.bind_some]
    rw [if_pos (by rw [hn, insL_len]; omega), app_data, strOfNums_app, ← progL_step l p (by omega), w_succ (by omega)]
    exact ih k (p + 1) (by omega) (by omega)
theorem specProg_from (l : List S38) (hl : l.length ≤ 48) (ho : ∀ j : Nat, j < l.length → okIns (rd_T38 l j)) (d : Nat) : ∀ (k p : Nat), p + d = l.length → d < k → spec_ProgPut.l0 k l (strOfNums (progL (l.take p))) (p : Int) = some (strOfNums (progL l)) := by
  induction d with
  | zero =>
    intro k p hp hk
    obtain ⟨k, rfl⟩ : ∃ m, k = m + 1 := ⟨k - 1, by omega⟩
    rw [spec_ProgPut.l0, if_neg (by omega), List.take_of_length_le (by omega)]
  | succ d ih =>
    intro k p hp hk
    obtain ⟨k, rfl⟩ : ∃ m, k = m + 1 := ⟨k - 1, by omega⟩
    have h := ho p (by omega)
    have h : InsI (rd_T38 l p).f0 (rd_T38 l p).f1 (rd_T38 l p).f2 (rd_T38 l p).f3 (rd_T38 l p).f4 (rd_T38 l p).f5 := h
    have hr := InsI.range h
    have hn : (strOfNums (progL (l.take p))).size = 8 * p := by
      rw [strOfNums_size, progL_len, List.length_take]
      omega
    rw [spec_ProgPut.l0, if_pos (by omega), if_pos (by omega), specPut_eq _ _ _ _ hr.2.1 hr.2.2.1]
    simp only [Option.bind_some]
    rw [if_pos (by rw [hn, insL_len]; omega), strOfNums_app, ← progL_step l p (by omega), w_succ (by omega)]
    exact ih k (p + 1) (by omega) (by omega)
/-- A program that can be: its ops are ok, and there are not many. -/
theorem form_fine {l : List S38} (h : FormOf l 0 0) : allAt l 0 ∧ 1 ≤ l.length ∧ l.length ≤ 48 ∧ tailI l = 0 := by
  by_cases a : allAt l 0
  · have e := h.1 a
    refine ⟨a, ?_, ?_, e.symm⟩
    · by_cases c : 1 ≤ l.length
      · exact c
      · unfold tailI at e
        rw [if_neg (by omega), if_pos (by omega)] at e
        cases e
    · by_cases c : l.length ≤ 48
      · exact c
      · unfold tailI at e
        rw [if_pos (by omega)] at e
        cases e
  · rcases h.2 a with e | e <;> cases e
/-- The bytes of a program, if it can be. -/
def progS (l : List S38) (r : Int) : ByteArray := if r = 0 then strOfNums (progL l) else ⟨#[]⟩
theorem progPut_ex (l : List S38) (hl : l.length ≤ 2000000) {k j : Nat} (hk : 2 * l.length + 100 < k) (hj : 2 * l.length + 100 < j) : ∃ r, impl_ProgForm.f k l = some r ∧ FormOf l 0 r ∧ impl_ProgPut.f k l = some (progS l r) ∧ spec_ProgPut.f j l = some (progS l r) := by
  obtain ⟨r, e1, e2, e3⟩ := form_both l hl l.length k j 0 (by omega) (by omega) (by omega)
  have e1 : impl_ProgForm.f k l = some r := e1
  have e2 : spec_l1Form.f j l = some r := e2
  refine ⟨r, e1, e3, ?_, ?_⟩
  · unfold impl_ProgPut.f
    rw [e1]
    simp only [Option.bind_some]
    unfold progS
    by_cases c : r = 0
    · subst c
      obtain ⟨ha, _, hn, _⟩ := form_fine e3
      rw [if_pos rfl, if_pos rfl]
      exact implProg_from l hn (fun j hj => (ha j (Nat.zero_le j) hj).1) l.length k 0 (by omega) (by omega)
    · rw [if_neg c, if_neg c]
  · unfold spec_ProgPut.f
    rw [e2]
    simp only [Option.bind_some]
    unfold progS
    by_cases c : r = 0
    · subst c
      obtain ⟨ha, _, hn, _⟩ := form_fine e3
      rw [if_pos rfl, if_pos rfl]
      exact specProg_from l hn (fun j hj => (ha j (Nat.zero_le j) hj).1) l.length j 0 (by omega) (by omega)
    · rw [if_neg c, if_neg c]

theorem FnExactProgPut : laws_FnExactProgPut.Pure := by
  intro l hl
  obtain ⟨k, hk⟩ : ∃ k : Nat, k = 5000000 := ⟨_, rfl⟩
  refine ⟨k, ?_⟩
  unfold laws_FnExactProgPut.f
  obtain ⟨v, hv, h1, h2⟩ := szInsS_gives l hl.2 (b := 1048576) (by decide) (by decide)
  rw [hv]
  simp only [Option.bind_some]
  by_cases c : v < 0
  · rw [if_pos c]
  · rw [if_neg c]
    have h3 : l.length ≤ 1048576 := by omega
    have h4 : (l.map insOf).length ≤ 1048576 := by rw [List.length_map]; exact h3
    obtain ⟨r, _, _, e1, e2⟩ := progPut_ex (l.map insOf) (by omega) (k := k) (j := k) (by omega) (by omega)
    rw [toInsS_eq l (by omega) (by omega)]
    simp only [Option.bind_some, e1, e2, if_true, eqInsS_eq (l.map insOf) (show (l.map insOf).length ≤ 2000000 by omega) (k := k) (by omega)]

end Go.Proofs.Ytdfgaaeieneaoaa.Pure
