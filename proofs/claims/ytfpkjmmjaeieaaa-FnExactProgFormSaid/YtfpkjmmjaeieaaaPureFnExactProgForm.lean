/- The law FnExactProgForm, as a statement about numbers and lists alone: the program and the reference tell alike why a program cannot be. It holds at every input. -/
import Derived.Test.YtfpkjmmjaeieaaaQ15
import Derived.Test.YtfpkjmmjaeieaaaMath
namespace Go.Proofs.Ytfpkjmmjaeieaaa.Pure
open Go Go.RowKit Go.Proofs.Ytfpkjmmjaeieaaa.Q Go.Proofs.YtfpkjmmjaeieaaaW.PrintWords Go.Proofs.YtfpkjmmjaeieaaaW.PrintLast Go.Proofs.YtfpkjmmjaeieaaaW.PrintMore Rg

theorem l1In_eq (a b c : Int) : spec_l1In.f a b c = some (decide (b ≤ a ∧ a ≤ c)) := by
  unfold spec_l1In.f
  by_cases h : a ≥ b
  · rw [if_pos h]; simp [show b ≤ a from h]
  · rw [if_neg h]; simp [show ¬ b ≤ a from h]
theorem within_eq (a b c : Int) : impl_within.f a b c = some (decide (b ≤ a ∧ a ≤ c)) := by
  unfold impl_within.f
  by_cases h : a ≥ b
  · rw [if_pos h]; simp [show b ≤ a from h]
  · rw [if_neg h]; simp [show ¬ b ≤ a from h]
theorem numOk_eq (a : Int) : impl_numOk.f a = some (decide (0 ≤ a ∧ a ≤ 4294967295)) := by
  unfold impl_numOk.f
  rw [within_eq]; rfl
theorem set_step {α : Type} (l x : List α) (z : α) (p : Nat) (hx : x.length = l.length) (hp : p < l.length) (h : x.take p = l.take p) : (x.set p (l.getD p z)).take (p + 1) = l.take (p + 1) := by
  have e : l.getD p z = l[p] := by rw [List.getD_eq_getElem?_getD, List.getElem?_eq_getElem hp]; rfl
  rw [e, List.take_add_one, List.take_add_one, List.take_set_of_le (Nat.le_refl p), h, List.getElem?_set_self (by omega), List.getElem?_eq_getElem hp]
/-- A register, or a number in its place. -/
def EitherI (s m : Int) : Prop := (0 ≤ s ∧ s ≤ 10 ∧ m = 0) ∨ (s = -1 ∧ 0 ≤ m ∧ m ≤ 4294967295)
/-- How many bytes are loaded or stored. -/
def SizeI (z : Int) : Prop := z = 1 ∨ z = 2 ∨ z = 4
/-- An op that is ok. -/
def InsI (o d s f m z : Int) : Prop :=
  if 1 ≤ o ∧ o ≤ 11 then (0 ≤ d ∧ d ≤ 10) ∧ EitherI s m ∧ f = 0 ∧ z = 0
  else if 12 ≤ o ∧ o ≤ 15 then (0 ≤ d ∧ d ≤ 10) ∧ EitherI s m ∧ (-128 ≤ f ∧ f ≤ 127) ∧ z = 0
  else if o = 16 then (-128 ≤ f ∧ f ≤ 127) ∧ d = 0 ∧ s = -1 ∧ m = 0 ∧ z = 0
  else if o = 17 then (0 ≤ d ∧ d ≤ 10) ∧ (0 ≤ s ∧ s ≤ 10) ∧ m = 0 ∧ (-128 ≤ f ∧ f ≤ 127) ∧ SizeI z
  else if o = 18 then (0 ≤ d ∧ d ≤ 10) ∧ EitherI s m ∧ (-128 ≤ f ∧ f ≤ 127) ∧ SizeI z
  else if o = 19 then (1 ≤ m ∧ m ≤ 6) ∧ d = 0 ∧ s = -1 ∧ f = 0 ∧ z = 0
  else o = 20 ∧ d = 0 ∧ s = -1 ∧ f = 0 ∧ m = 0 ∧ z = 0
instance EitherI_dec (s m : Int) : Decidable (EitherI s m) := by unfold EitherI; exact inferInstance
instance SizeI_dec (z : Int) : Decidable (SizeI z) := by unfold SizeI; exact inferInstance
instance InsI_dec (o d s f m z : Int) : Decidable (InsI o d s f m z) := by unfold InsI; exact inferInstance
theorem some_eq_dec {b : Bool} {p : Prop} [Decidable p] (h : b = true ↔ p) : some b = some (decide p) := by
  congr 1
  rw [Bool.eq_iff_iff, h, decide_eq_true_eq]
theorem InsI.range {o d s f m z : Int} (h : InsI o d s f m z) : (1 ≤ o ∧ o ≤ 20) ∧ (0 ≤ d ∧ d ≤ 10) ∧ (-1 ≤ s ∧ s ≤ 10) ∧ (-128 ≤ f ∧ f ≤ 127) ∧ (0 ≤ m ∧ m ≤ 4294967295) ∧ (0 ≤ z ∧ z ≤ 4) := by
  unfold InsI EitherI SizeI at h
  repeat' split at h
  all_goals omega
theorem reckons_eq (o : Int) : impl_kind_reckons.f o = some (decide (1 ≤ o ∧ o ≤ 11)) := by unfold impl_kind_reckons.f; simp only [within_eq, Option.bind_some]
theorem asks_eq (o : Int) : impl_kind_asks.f o = some (decide (12 ≤ o ∧ o ≤ 15)) := by unfold impl_kind_asks.f; simp only [within_eq, Option.bind_some]
theorem regOk_eq (d : Int) : impl_regOk.f d = some (decide (0 ≤ d ∧ d ≤ 10)) := by unfold impl_regOk.f; simp only [within_eq, Option.bind_some]
theorem sizeOk_eq (z : Int) : impl_sizeOk.f z = some (decide (SizeI z)) := by
  unfold impl_sizeOk.f
  repeat' split
  all_goals (apply some_eq_dec; unfold SizeI; simp only [beq_iff_eq, true_iff]; omega)
theorem either_eq (o d s f m z : Int) : impl_Ins_either.f o d s f m z = some (decide (EitherI s m)) := by
  unfold impl_Ins_either.f
  simp only [regOk_eq, numOk_eq, Option.bind_some, decide_eq_true_eq]
  repeat' split
  all_goals (apply some_eq_dec; unfold EitherI; simp only [decide_eq_true_eq, true_iff, Bool.false_eq_true, false_iff]; omega)
theorem implInsOk_eq (o d s f m z : Int) : impl_InsOk.f o d s f m z = some (decide (InsI o d s f m z)) := by
  unfold impl_InsOk.f
  simp only [within_eq, regOk_eq, reckons_eq, asks_eq, sizeOk_eq, either_eq, Option.bind_some, decide_eq_true_eq]
  by_cases h1 : 1 ≤ o ∧ o ≤ 11
  · unfold InsI; simp only [h1, and_self, if_true]
    repeat' split
    all_goals (apply some_eq_dec; simp_all; try (intros; omega))
  by_cases h2 : 12 ≤ o ∧ o ≤ 15
  · unfold InsI; simp only [h1, h2, and_self, if_true, if_false]
    repeat' split
    all_goals (apply some_eq_dec; simp_all; try (intros; omega))
  by_cases h3 : o = 16
  · subst h3; unfold InsI; simp only [h1, h2, if_true, if_false]
    repeat' split
    all_goals (apply some_eq_dec; simp_all; try (intros; omega))
  by_cases h4 : o = 17
  · subst h4; unfold InsI; simp only [h1, h2, h3, if_true, if_false]
    repeat' split
    all_goals (apply some_eq_dec; simp_all; try (intros; omega))
  by_cases h5 : o = 18
  · subst h5; unfold InsI; simp only [h1, h2, h3, h4, if_true, if_false]
    repeat' split
    all_goals (apply some_eq_dec; simp_all; try (intros; omega))
  by_cases h6 : o = 19
  · subst h6; unfold InsI; simp only [h1, h2, h3, h4, h5, if_true, if_false]
    repeat' split
    all_goals (apply some_eq_dec; simp_all; try (intros; omega))
  · unfold InsI; simp only [h1, h2, h3, h4, h5, h6, if_false]
    apply some_eq_dec
    simp
theorem specBare_eq (o d s f m z : Int) (hs : -1 ≤ s ∧ s ≤ 10) (hd : 0 ≤ d ∧ d ≤ 10) (hf : -128 ≤ f ∧ f ≤ 127) (hm : 0 ≤ m ∧ m ≤ 4294967295) : spec_l1Bare.f o d s f m z = some (decide (InsI o d s f m z)) := by
  have he : EitherI s m ↔ (s < 0 ∨ m = 0) := by unfold EitherI; omega
  have hr : (0 ≤ s ∧ s ≤ 10) ↔ s ≥ 0 := by omega
  unfold spec_l1Bare.f spec_l1Alu.f spec_l1Jump.f
  simp only [l1In_eq, Option.bind_some, decide_eq_true_eq]
  by_cases h1 : 1 ≤ o ∧ o ≤ 11
  · unfold InsI; simp only [h1, he, hr, hd, hf, and_self, if_true, true_and]
    repeat' split
    all_goals (apply some_eq_dec; simp_all; try (intros; omega))
  by_cases h2 : 12 ≤ o ∧ o ≤ 15
  · unfold InsI; simp only [h1, h2, he, hr, hd, hf, and_self, if_true, if_false, true_and]
    repeat' split
    all_goals (apply some_eq_dec; simp_all; try (intros; omega))
  by_cases h3 : o = 16
  · subst h3; unfold InsI; simp only [h1, h2, hf, and_self, if_true, if_false, true_and]
    repeat' split
    all_goals (apply some_eq_dec; simp_all; try (intros; omega))
  by_cases h4 : o = 17
  · subst h4; unfold InsI SizeI; simp only [h1, h2, h3, hr, hd, hf, and_self, if_true, if_false, true_and]
    repeat' split
    all_goals (apply some_eq_dec; simp_all; try (intros; omega))
  by_cases h5 : o = 18
  · subst h5; unfold InsI SizeI; simp only [h1, h2, h3, h4, he, hd, hf, and_self, if_true, if_false, true_and]
    repeat' split
    all_goals (apply some_eq_dec; simp_all; try (intros; omega))
  by_cases h6 : o = 19
  · subst h6; unfold InsI; simp only [h1, h2, h3, h4, h5, if_true, if_false]
    repeat' split
    all_goals (apply some_eq_dec; simp_all; try (intros; omega))
  · unfold InsI; simp only [h1, h2, h3, h4, h5, h6, if_false]
    repeat' split
    all_goals (apply some_eq_dec; simp_all; try (intros; omega))
theorem specInsOk_eq (o d s f m z : Int) : spec_l1InsOk.f o d s f m z = some (decide (InsI o d s f m z)) := by
  unfold spec_l1InsOk.f
  simp only [l1In_eq, Option.bind_some, decide_eq_true_eq]
  by_cases h1 : 0 ≤ d ∧ d ≤ 10
  · by_cases h2 : -1 ≤ s ∧ s ≤ 10
    · by_cases h3 : -128 ≤ f ∧ f ≤ 127
      · by_cases h4 : 0 ≤ m ∧ m ≤ 4294967295
        · rw [if_pos h1, if_pos h2, if_pos h3, if_pos h4, specBare_eq o d s f m z h2 h1 h3 h4]; rfl
        · rw [if_pos h1, if_pos h2, if_pos h3, if_neg h4, decide_eq_false (fun x => h4 (InsI.range x).2.2.2.2.1)]
      · rw [if_pos h1, if_pos h2, if_neg h3, decide_eq_false (fun x => h3 (InsI.range x).2.2.2.1)]
    · rw [if_pos h1, if_neg h2, decide_eq_false (fun x => h2 (InsI.range x).2.2.1)]
  · rw [if_neg h1, decide_eq_false (fun x => h1 (InsI.range x).2.1)]
def okIns (x : S55) : Prop := InsI x.f0 x.f1 x.f2 x.f3 x.f4 x.f5
/-- An op of a program that is ok, and leads nowhere beyond. -/
def okAt (l : List S55) (i : Nat) : Prop := okIns (rd_T55 l i) ∧ (12 ≤ (rd_T55 l i).f0 ∧ (rd_T55 l i).f0 ≤ 16 → 0 ≤ (i : Int) + 1 + (rd_T55 l i).f3 ∧ (i : Int) + 1 + (rd_T55 l i).f3 ≤ (l.length : Int) - 1)
def allAt (l : List S55) (p : Nat) : Prop := ∀ i : Nat, p ≤ i → i < l.length → okAt l i
/-- What is told of a program whose ops are ok. -/
def tailI (l : List S55) : Int := if (l.length : Int) > 48 then 3 else if (l.length : Int) = 0 then 4 else if (rd_T55 l ((l.length : Int) - 1)).f0 = 20 ∨ (rd_T55 l ((l.length : Int) - 1)).f0 = 16 then 0 else 4
def FormOf (l : List S55) (p : Nat) (r : Int) : Prop := (allAt l p → r = tailI l) ∧ (¬ allAt l p → r = 1 ∨ r = 2)
theorem allAt_step {l : List S55} {p : Nat} (hp : p < l.length) : allAt l p ↔ okAt l p ∧ allAt l (p + 1) := by
  constructor
  · exact fun h => ⟨h p (Nat.le_refl p) hp, fun i h1 h2 => h i (by omega) h2⟩
  · rintro ⟨h, h'⟩ i h1 h2
    by_cases e : i = p
    · rw [e]; exact h
    · exact h' i (by omega) h2
theorem FormOf.step {l : List S55} {p : Nat} {r : Int} (hp : p < l.length) (h : okAt l p) (f : FormOf l (p + 1) r) : FormOf l p r :=
  ⟨fun a => f.1 ((allAt_step hp).1 a).2, fun n => f.2 (fun a => n ((allAt_step hp).2 ⟨h, a⟩))⟩
theorem FormOf.bad {l : List S55} {p : Nat} {r : Int} (hp : p < l.length) (h : ¬ okAt l p) (hr : r = 1 ∨ r = 2) : FormOf l p r :=
  ⟨fun a => absurd ((allAt_step hp).1 a).1 h, fun _ => hr⟩
theorem goes_eq (o : Int) : impl_kind_goes.f o = some (decide (12 ≤ o ∧ o ≤ 16)) := by unfold impl_kind_goes.f; simp only [within_eq, Option.bind_some]
theorem form_both (l : List S55) (hl : l.length ≤ 2000000) (d : Nat) : ∀ (k j p : Nat), p + d = l.length → 2 * d + 3 < k → 2 * d + 3 < j →
    ∃ r, impl_ProgForm.l0 k l l (l.length : Int) (p : Int) = some r ∧ spec_l1Form.l0 j l (p : Int) = some r ∧ FormOf l p r := by
  induction d with
  | zero =>
    intro k j p hp hk hj
    obtain ⟨k, rfl⟩ : ∃ m, k = m + 2 := ⟨k - 2, by omega⟩
    obtain ⟨j, rfl⟩ : ∃ m, j = m + 2 := ⟨j - 2, by omega⟩
    refine ⟨tailI l, ?_, ?_, fun _ => rfl, fun n => absurd (fun i h1 h2 => absurd h1 (by omega)) n⟩
    · rw [impl_ProgForm.l0, if_neg (by omega)]
      unfold tailI
      by_cases c1 : (l.length : Int) > 48
      · rw [if_pos c1, if_pos c1]
      rw [if_neg c1, if_neg c1]
      by_cases c2 : (l.length : Int) = 0
      · rw [if_pos c2, if_pos c2, impl_ProgForm.j1, if_pos (by rw [beq_iff_eq]; exact c2)]
      rw [if_neg c2, if_neg c2, wrap64_id (n := (l.length : Int) - 1) (by omega) (by omega), if_pos (by omega), if_pos (by omega), impl_ProgForm.j1, impl_ProgForm.j1]
      by_cases c3 : (rd_T55 l ((l.length : Int) - 1)).f0 = 20
      · rw [if_pos c3, if_pos (Or.inl c3), if_neg (by decide)]
      by_cases c4 : (rd_T55 l ((l.length : Int) - 1)).f0 = 16
      · rw [if_neg c3, if_pos (Or.inr c4), c4]; rfl
      · rw [if_neg c3, if_neg (show ¬ ((rd_T55 l ((l.length : Int) - 1)).f0 = 20 ∨ (rd_T55 l ((l.length : Int) - 1)).f0 = 16) by omega), if_pos (by rw [bne_iff_ne]; exact c4)]
    · rw [spec_l1Form.l0, if_neg (by omega)]
      unfold tailI
      by_cases c1 : (l.length : Int) > 48
      · rw [if_pos c1, if_pos c1]
      rw [if_neg c1, if_neg c1]
      by_cases c2 : (l.length : Int) = 0
      · rw [if_pos c2, if_pos c2, spec_l1Form.j2, if_pos rfl]
      rw [if_neg c2, if_neg c2, wrap64_id (n := (l.length : Int) - 1) (by omega) (by omega), if_pos (by omega), if_pos (by omega), spec_l1Form.j2, spec_l1Form.j2]
      by_cases c3 : (rd_T55 l ((l.length : Int) - 1)).f0 = 20
      · rw [if_pos c3, if_pos (Or.inl c3), if_neg (by decide)]
      by_cases c4 : (rd_T55 l ((l.length : Int) - 1)).f0 = 16
      · rw [if_neg c3, if_pos (Or.inr c4), c4]; rfl
      · rw [if_neg c3, if_neg (show ¬ ((rd_T55 l ((l.length : Int) - 1)).f0 = 20 ∨ (rd_T55 l ((l.length : Int) - 1)).f0 = 16) by omega), if_pos (by rw [bne_iff_ne]; exact c4)]
  | succ d ih =>
    intro k j p hp hk hj
    obtain ⟨k, rfl⟩ : ∃ m, k = m + 2 := ⟨k - 2, by omega⟩
    obtain ⟨j, rfl⟩ : ∃ m, j = m + 2 := ⟨j - 2, by omega⟩
    have hlt : p < l.length := by omega
    rw [impl_ProgForm.l0, if_pos (by omega), if_pos (by omega), if_pos (by omega), spec_l1Form.l0, if_pos (by omega), if_pos (by omega), implInsOk_eq, specInsOk_eq, goes_eq]
    simp only [Option.bind_some, decide_eq_true_eq]
    by_cases h : InsI (rd_T55 l p).f0 (rd_T55 l p).f1 (rd_T55 l p).f2 (rd_T55 l p).f3 (rd_T55 l p).f4 (rd_T55 l p).f5
    · have hr := (InsI.range h).2.2.2.1
      have tgt : wrap64 (wrap64 ((p : Int) + 1) + (rd_T55 l p).f3) = (p : Int) + 1 + (rd_T55 l p).f3 := by
        rw [wrap64_id (n := (p : Int) + 1) (by omega) (by omega), wrap64_id (by omega) (by omega)]
      have len1 : wrap64 ((l.length : Int) - 1) = (l.length : Int) - 1 := wrap64_id (by omega) (by omega)
      have js : (spec_l1Jump.f (rd_T55 l p).f0).bind (fun t669 => if t669 = true then spec_l1Form.j1 (j + 1) l p true else spec_l1Form.j1 (j + 1) l p ((rd_T55 l p).f0 == 16)) = spec_l1Form.j1 (j + 1) l p (decide (12 ≤ (rd_T55 l p).f0 ∧ (rd_T55 l p).f0 ≤ 16)) := by
        unfold spec_l1Jump.f
        simp only [l1In_eq, Option.bind_some, decide_eq_true_eq]
        by_cases c : 12 ≤ (rd_T55 l p).f0 ∧ (rd_T55 l p).f0 ≤ 15
        · rw [if_pos c, decide_eq_true (by omega)]
        · rw [if_neg c]
          congr 1
          rw [Bool.eq_iff_iff, beq_iff_eq, decide_eq_true_eq]
          omega
      rw [if_pos h, if_pos h, js, spec_l1Form.j1]
      unfold impl_target.f
      rw [if_pos (show (0 : Int) ≤ p by omega), if_pos (show (p : Int) < l.length by omega), tgt, len1]
      simp only [Option.bind_some, within_eq, l1In_eq, decide_eq_true_eq, w_succ (show p < 4611686018427387904 by omega)]
      by_cases c : 12 ≤ (rd_T55 l p).f0 ∧ (rd_T55 l p).f0 ≤ 16
      · rw [if_pos c, if_pos c, if_pos (show (0 : Int) ≤ p by omega), if_pos (show (p : Int) < l.length by omega)]
        by_cases t : 0 ≤ (p : Int) + 1 + (rd_T55 l p).f3 ∧ (p : Int) + 1 + (rd_T55 l p).f3 ≤ (l.length : Int) - 1
        · rw [if_pos t, if_pos t]
          obtain ⟨r, e1, e2, e3⟩ := ih (k + 1) j (p + 1) (by omega) (by omega) (by omega)
          exact ⟨r, e1, e2, FormOf.step hlt ⟨h, fun _ => t⟩ e3⟩
        · rw [if_neg t, if_neg t]
          exact ⟨2, rfl, rfl, FormOf.bad hlt (fun q => t (q.2 c)) (Or.inr rfl)⟩
      · rw [if_neg c, if_neg c]
        obtain ⟨r, e1, e2, e3⟩ := ih (k + 1) j (p + 1) (by omega) (by omega) (by omega)
        exact ⟨r, e1, e2, FormOf.step hlt ⟨h, fun q => absurd q c⟩ e3⟩
    · rw [if_neg h, if_neg h]
      exact ⟨1, rfl, rfl, FormOf.bad hlt (fun q => h q.1) (Or.inl rfl)⟩
theorem form_ex (l : List S55) (hl : l.length ≤ 2000000) {k j : Nat} (hk : 2 * l.length + 3 < k) (hj : 2 * l.length + 3 < j) : ∃ r, impl_ProgForm.f k l = some r ∧ spec_ProgForm.f j l = some r ∧ FormOf l 0 r := by
  obtain ⟨r, e1, e2, e3⟩ := form_both l hl l.length k j 0 (by omega) hk hj
  refine ⟨r, e1, ?_, e3⟩
  unfold spec_ProgForm.f spec_l1Form.f
  have e2 : spec_l1Form.l0 j l 0 = some r := e2
  rw [e2]; rfl
def insOf (x : S57) : S55 := ⟨x.f0, x.f1, x.f2, x.f3, x.f4, x.f5⟩
theorem insOf_at (l : List S57) (p : Nat) (hp : p < l.length) : insOf (rd_T57 l (p : Int)) = (l.map insOf).getD p z55 := by
  unfold rd_T57
  rw [List.getD_eq_getElem?_getD, List.getD_eq_getElem?_getD, List.getElem?_map, Int.toNat_natCast, List.getElem?_eq_getElem hp]
  rfl
theorem toIns_loop (l : List S57) (hl : l.length ≤ 2000000) (d : Nat) : ∀ (k p : Nat) (x : List S55), p + d = l.length → d < k → x.length = l.length → x.take p = (l.map insOf).take p → laws_toInsS.l0 k l x (p : Int) = some (l.map insOf) := by
  induction d with
  | zero =>
    intro k p x hp hk hx h
    obtain ⟨k, rfl⟩ : ∃ m, k = m + 1 := ⟨k - 1, by omega⟩
    rw [laws_toInsS.l0, if_neg (by omega)]
    rw [List.take_of_length_le (by omega), List.take_of_length_le (by rw [List.length_map]; omega)] at h
    rw [h]
  | succ d ih =>
    intro k p x hp hk hx h
    obtain ⟨k, rfl⟩ : ∃ m, k = m + 1 := ⟨k - 1, by omega⟩
    rw [laws_toInsS.l0, if_pos (by omega), if_pos (by omega)]
    unfold laws_toIns.f
    simp only [Option.bind_some]
    rw [if_pos (by omega), w_succ (by omega)]
    refine ih k (p + 1) _ (by omega) (by omega) (by rw [List.length_set]; exact hx) ?_
    have e := set_step (l.map insOf) x z55 p (by rw [List.length_map]; exact hx) (by rw [List.length_map]; omega) h
    rw [← insOf_at l p (by omega)] at e
    exact e
theorem toInsS_eq (l : List S57) (hl : l.length ≤ 2000000) {k : Nat} (hk : l.length < k) : laws_toInsS.f k l = some (l.map insOf) := by
  unfold laws_toInsS.f
  rw [if_pos (by omega), if_pos (by omega)]
  exact toIns_loop l hl l.length k 0 _ (by omega) hk (by simp) rfl
theorem eqIns_loop (l : List S55) (hl : l.length ≤ 2000000) (d : Nat) : ∀ (k p : Nat), p + d = l.length → d < k → laws_eqInsS.l0 k l l (p : Int) = some true := by
  induction d with
  | zero =>
    intro k p hp hk
    obtain ⟨k, rfl⟩ : ∃ m, k = m + 1 := ⟨k - 1, by omega⟩
    rw [laws_eqInsS.l0, if_neg (by omega)]
  | succ d ih =>
    intro k p hp hk
    obtain ⟨k, rfl⟩ : ∃ m, k = m + 1 := ⟨k - 1, by omega⟩
    rw [laws_eqInsS.l0, if_pos (by omega), if_pos (by omega), if_pos (by omega), w_succ (by omega)]
    unfold laws_eqIns.f
    rw [if_pos rfl, if_pos rfl, if_pos rfl, if_pos rfl, if_pos rfl, if_pos rfl]
    simp only [Option.bind_some, if_true]
    exact ih k (p + 1) (by omega) (by omega)
theorem eqInsS_eq (l : List S55) (hl : l.length ≤ 2000000) {k : Nat} (hk : l.length < k) : laws_eqInsS.f k l l = some true := by
  unfold laws_eqInsS.f
  rw [if_pos rfl]
  exact eqIns_loop l hl l.length k 0 (by omega) hk
theorem szInsS_gives (l : List S57) (hl : l.length ≤ maxLen) {b : Int} (h0 : 0 ≤ b) (h1 : b ≤ 1048576) : Gives (laws_szInsS.f l b) (fun v => v ≤ 1048576 ∧ (v < 0 ∨ (0 ≤ v ∧ l.length ≤ 1048576))) := by
  have hl : l.length ≤ 9223372036854775807 := hl
  unfold laws_szInsS.f
  rw [wrap64_id (n := b - (l.length : Int)) (by omega) (by omega)]
  exact Gives.ite (fun _ => Gives.ret (by omega)) (fun h => Gives.ret (by omega))

theorem FnExactProgForm : laws_FnExactProgForm.Pure := by
  intro l hl
  obtain ⟨k, hk⟩ : ∃ k : Nat, k = 5000000 := ⟨_, rfl⟩
  refine ⟨k, ?_⟩
  unfold laws_FnExactProgForm.f
  obtain ⟨v, hv, h1, h2⟩ := szInsS_gives l hl.2 (b := 1048576) (by decide) (by decide)
  rw [hv]
  simp only [Option.bind_some]
  by_cases c : v < 0
  · rw [if_pos c]
  · rw [if_neg c]
    have h3 : l.length ≤ 1048576 := by omega
    have h4 : (l.map insOf).length ≤ 1048576 := by rw [List.length_map]; exact h3
    obtain ⟨r, e1, e2, _⟩ := form_ex (l.map insOf) (by omega) (k := k) (j := k) (by omega) (by omega)
    rw [toInsS_eq l (by omega) (by omega)]
    simp only [Option.bind_some, e1, e2, if_true, eqInsS_eq (l.map insOf) (show (l.map insOf).length ≤ 2000000 by omega) (k := k) (by omega)]

end Go.Proofs.Ytfpkjmmjaeieaaa.Pure
