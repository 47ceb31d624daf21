/- The law FnLinePut, as a statement about numbers and lists alone: an op is read back from its line, whatever bytes are drawn from. It holds at every input. -/
import Derived.Test.YtllmbooicobmkaaGreatDoorQ19
import Derived.Test.YtllmbooicobmkaaGreatDoorMath
namespace Go.Proofs.YtllmbooicobmkaaGreatDoor.Pure
open Go Go.RowKit Go.Proofs.YtllmbooicobmkaaGreatDoor.Q Go.Proofs.YtllmbooicobmkaaGreatDoorW.PrintWords Go.Proofs.YtllmbooicobmkaaGreatDoorW.PrintLast Go.Proofs.YtllmbooicobmkaaGreatDoorW.PrintMore Rg

theorem l1In_eq (a b c : Int) : spec_l1In.f a b c = some (decide (b ≤ a ∧ a ≤ c)) := by
  unfold spec_l1In.f
  by_cases h : a ≥ b
  · rw [if_pos h]; simp [show b ≤ a from h]
  · rw [if_neg h]; simp [show ¬ b ≤ a from h]
theorem within_eq (a b c : Int) : impl_within.f a b c = some (decide (b ≤ a ∧ a ≤ c)) := by
  unfold impl_within.f
  by_cases h : a ≥ b
  · rw [if_pos h]; simp [show b ≤ a from h]
  · rw [if_neg h]; simp [show ¬ b ≤ a from h]
theorem numOk_eq (a : Int) : impl_numOk.f a = some (decide (0 ≤ a ∧ a ≤ 4294967295)) := by
  unfold impl_numOk.f
  rw [within_eq]; rfl
theorem open_gives {l : List Int} (hl : ∀ x ∈ l, (Lit.int .u8 x).wf = true) : Gives (spec_l20Open.f l) (fun v => Bytes v.1 ∧ v.2 = 0) := by
  unfold spec_l20Open.f
  refine Gives.ite (fun h => ?_) (fun h => ?_)
  · rw [if_pos (by omega)]
    exact Gives.ret ⟨⟨by rw [List.length_take]; omega, fun x hx => u8_wf (hl x (List.mem_of_mem_take hx))⟩, rfl⟩
  · exact Gives.ret ⟨⟨by show l.length ≤ 2000; omega, fun x hx => u8_wf (hl x hx)⟩, rfl⟩
theorem pick_gives {k : Nat} {b : List Int} (hb : Bytes b) {p n : Int} (h0 : 0 ≤ p) (h1 : p ≤ 10000) (hn : 1 ≤ n) (hk : 0 < k) : Gives (spec_l20Rd_pick.f k b p n) (fun v => 0 ≤ v.1 ∧ v.1 < n ∧ v.2 = p + 1) := by
  obtain ⟨k, rfl⟩ : ∃ m, k = m + 1 := ⟨k - 1, by omega⟩
  unfold spec_l20Rd_pick.f
  rw [if_neg (by omega)]
  simp only [spec_l20Rd_pick.j0]
  rw [wrap64_id (n := p + 1) (by omega) (by omega), wrap64_id (n := p + 1 - 1) (by omega) (by omega), show p + 1 - 1 = p by omega]
  obtain ⟨hb1, hb2⟩ := hb
  refine Gives.ite (fun _ => Gives.ret ⟨by omega, by omega, rfl⟩) (fun he => ?_)
  have hl : 1 ≤ (b.length : Int) := by
    rcases b with _ | ⟨x, l⟩
    · simp at he
    · simp; omega
  refine Gives.ite (fun hlt => ?_) (fun _ => ?_)
  · rw [if_pos h0, if_neg (by omega)]
    have hv := hb2 _ (rd_mem h0 hlt)
    rw [wrap64_id (by omega) (by omega)]
    have := tmod_range hv.1 hn
    exact Gives.ret ⟨this.1, this.2, rfl⟩
  · have hq := tmod_range h0 hl
    have hw : 0 ≤ wrap64 (wrap64 (p * 7) + 3) := by rw [wrap64_id (n := p * 7) (by omega) (by omega), wrap64_id (by omega) (by omega)]; omega
    have hr := tmod_range hw hl
    rw [if_neg (by omega), if_pos hq.1, if_pos hq.2, if_pos hr.1, if_pos hr.2, if_neg (by omega)]
    have hv1 := hb2 _ (rd_mem hq.1 hq.2)
    have hv2 := hb2 _ (rd_mem hr.1 hr.2)
    have hd : 0 ≤ Int.tdiv p (b.length : Int) ∧ Int.tdiv p (b.length : Int) ≤ 100000 := by
      refine ⟨Int.tdiv_nonneg h0 (by omega), ?_⟩
      rw [Int.tdiv_eq_ediv_of_nonneg h0]
      have := Int.ediv_le_self (b.length : Int) h0
      omega
    have hm := mix hv1 hv2 ⟨h0, by omega⟩ hd
    have hx := tmod_range (xor_pos hm.1 hm.2) hn
    exact Gives.ret ⟨hx.1, hx.2, rfl⟩
theorem one_gives {k : Nat} {b : List Int} (hb : Bytes b) {p : Int} (h0 : 0 ≤ p) (h1 : p ≤ 10000) {l : List Int} (hl : 1 ≤ (l.length : Int)) (hk : 0 < k) : Gives (spec_l20Rd_one.f k b p l) (fun v => v.1 ∈ l ∧ v.2 = p + 1) := by
  unfold spec_l20Rd_one.f
  refine (pick_gives hb h0 h1 hl hk).bind fun v hv => ?_
  rw [if_pos hv.1, if_pos hv.2.1]
  exact Gives.ret ⟨rd_mem hv.1 hv.2.1, hv.2.2⟩
theorem imm_gives {k : Nat} {b : List Int} (hb : Bytes b) {p : Int} (h0 : 0 ≤ p) (h1 : p ≤ 10000) (hk : 0 < k) : Gives (spec_l20Imm.f k b p) (fun v => N32 v.1 ∧ v.2 = p + 1) := by
  unfold spec_l20Imm.f
  refine (one_gives hb h0 h1 (by decide) hk).bind fun v hv => Gives.ret ⟨?_, hv.2⟩
  have := hv.1
  simp only [List.mem_cons, List.not_mem_nil, or_false] at this
  show N32 v.1
  unfold N32
  omega
/-- A register, or a number in its place. -/
def EitherI (s m : Int) : Prop := (0 ≤ s ∧ s ≤ 10 ∧ m = 0) ∨ (s = -1 ∧ 0 ≤ m ∧ m ≤ 4294967295)
/-- How many bytes are loaded or stored. -/
def SizeI (z : Int) : Prop := z = 1 ∨ z = 2 ∨ z = 4
/-- An op that is ok. -/
def InsI (o d s f m z : Int) : Prop :=
  if 1 ≤ o ∧ o ≤ 11 then (0 ≤ d ∧ d ≤ 10) ∧ EitherI s m ∧ f = 0 ∧ z = 0
  else if 12 ≤ o ∧ o ≤ 15 then (0 ≤ d ∧ d ≤ 10) ∧ EitherI s m ∧ (-128 ≤ f ∧ f ≤ 127) ∧ z = 0
  else if o = 16 then (-128 ≤ f ∧ f ≤ 127) ∧ d = 0 ∧ s = -1 ∧ m = 0 ∧ z = 0
  else if o = 17 then (0 ≤ d ∧ d ≤ 10) ∧ (0 ≤ s ∧ s ≤ 10) ∧ m = 0 ∧ (-128 ≤ f ∧ f ≤ 127) ∧ SizeI z
  else if o = 18 then (0 ≤ d ∧ d ≤ 10) ∧ EitherI s m ∧ (-128 ≤ f ∧ f ≤ 127) ∧ SizeI z
  else if o = 19 then (1 ≤ m ∧ m ≤ 6) ∧ d = 0 ∧ s = -1 ∧ f = 0 ∧ z = 0
  else o = 20 ∧ d = 0 ∧ s = -1 ∧ f = 0 ∧ m = 0 ∧ z = 0
instance EitherI_dec (s m : Int) : Decidable (EitherI s m) := by unfold EitherI; exact inferInstance
instance SizeI_dec (z : Int) : Decidable (SizeI z) := by unfold SizeI; exact inferInstance
instance InsI_dec (o d s f m z : Int) : Decidable (InsI o d s f m z) := by unfold InsI; exact inferInstance
theorem some_eq_dec {b : Bool} {p : Prop} [Decidable p] (h : b = true ↔ p) : some b = some (decide p) := by
  congr 1
  rw [Bool.eq_iff_iff, h, decide_eq_true_eq]
theorem InsI.range {o d s f m z : Int} (h : InsI o d s f m z) : (1 ≤ o ∧ o ≤ 20) ∧ (0 ≤ d ∧ d ≤ 10) ∧ (-1 ≤ s ∧ s ≤ 10) ∧ (-128 ≤ f ∧ f ≤ 127) ∧ (0 ≤ m ∧ m ≤ 4294967295) ∧ (0 ≤ z ∧ z ≤ 4) := by
  unfold InsI EitherI SizeI at h
  repeat' split at h
  all_goals omega
theorem reckons_eq (o : Int) : impl_kind_reckons.f o = some (decide (1 ≤ o ∧ o ≤ 11)) := by unfold impl_kind_reckons.f; simp only [within_eq, Option.bind_some]
theorem asks_eq (o : Int) : impl_kind_asks.f o = some (decide (12 ≤ o ∧ o ≤ 15)) := by unfold impl_kind_asks.f; simp only [within_eq, Option.bind_some]
theorem regOk_eq (d : Int) : impl_regOk.f d = some (decide (0 ≤ d ∧ d ≤ 10)) := by unfold impl_regOk.f; simp only [within_eq, Option.bind_some]
theorem sizeOk_eq (z : Int) : impl_sizeOk.f z = some (decide (SizeI z)) := by
  unfold impl_sizeOk.f
  repeat' split
  all_goals (apply some_eq_dec; unfold SizeI; simp only [beq_iff_eq, true_iff]; omega)
theorem either_eq (o d s f m z : Int) : impl_Ins_either.f o d s f m z = some (decide (EitherI s m)) := by
  unfold impl_Ins_either.f
  simp only [regOk_eq, numOk_eq, Option.bind_some, decide_eq_true_eq]
  repeat' split
  all_goals (apply some_eq_dec; unfold EitherI; simp only [decide_eq_true_eq, true_iff, Bool.false_eq_true, false_iff]; omega)
theorem implInsOk_eq (o d s f m z : Int) : impl_InsOk.f o d s f m z = some (decide (InsI o d s f m z)) := by
  unfold impl_InsOk.f
  simp only [within_eq, regOk_eq, reckons_eq, asks_eq, sizeOk_eq, either_eq, Option.bind_some, decide_eq_true_eq]
  by_cases h1 : 1 ≤ o ∧ o ≤ 11
  · unfold InsI; simp only [h1, and_self, if_true]
    repeat' split
    all_goals (apply some_eq_dec; simp_all; try (intros; omega))
  by_cases h2 : 12 ≤ o ∧ o ≤ 15
  · unfold InsI; simp only [h1, h2, and_self, if_true, if_false]
    repeat' split
    all_goals (apply some_eq_dec; simp_all; try (intros; omega))
  by_cases h3 : o = 16
  · subst h3; unfold InsI; simp only [h1, h2, if_true, if_false]
    repeat' split
    all_goals (apply some_eq_dec; simp_all; try (intros; omega))
  by_cases h4 : o = 17
  · subst h4; unfold InsI; simp only [h1, h2, h3, if_true, if_false]
    repeat' split
    all_goals (apply some_eq_dec; simp_all; try (intros; omega))
  by_cases h5 : o = 18
  · subst h5; unfold InsI; simp only [h1, h2, h3, h4, if_true, if_false]
    repeat' split
    all_goals (apply some_eq_dec; simp_all; try (intros; omega))
  by_cases h6 : o = 19
  · subst h6; unfold InsI; simp only [h1, h2, h3, h4, h5, if_true, if_false]
    repeat' split
    all_goals (apply some_eq_dec; simp_all; try (intros; omega))
  · unfold InsI; simp only [h1, h2, h3, h4, h5, h6, if_false]
    apply some_eq_dec
    simp
theorem specBare_eq (o d s f m z : Int) (hs : -1 ≤ s ∧ s ≤ 10) (hd : 0 ≤ d ∧ d ≤ 10) (hf : -128 ≤ f ∧ f ≤ 127) (hm : 0 ≤ m ∧ m ≤ 4294967295) : spec_l1Bare.f o d s f m z = some (decide (InsI o d s f m z)) := by
  have he : EitherI s m ↔ (s < 0 ∨ m = 0) := by unfold EitherI; omega
  have hr : (0 ≤ s ∧ s ≤ 10) ↔ s ≥ 0 := by omega
  unfold spec_l1Bare.f spec_l1Alu.f spec_l1Jump.f
  simp only [l1In_eq, Option.bind_some, decide_eq_true_eq]
  by_cases h1 : 1 ≤ o ∧ o ≤ 11
  · unfold InsI; simp only [h1, he, hr, hd, hf, and_self, if_true, true_and]
    repeat' split
    all_goals (apply some_eq_dec; simp_all; try (intros; omega))
  by_cases h2 : 12 ≤ o ∧ o ≤ 15
  · unfold InsI; simp only [h1, h2, he, hr, hd, hf, and_self, if_true, if_false, true_and]
    repeat' split
    all_goals (apply some_eq_dec; simp_all; try (intros; omega))
  by_cases h3 : o = 16
  · subst h3; unfold InsI; simp only [h1, h2, hf, and_self, if_true, if_false, true_and]
    repeat' split
    all_goals (apply some_eq_dec; simp_all; try (intros; omega))
  by_cases h4 : o = 17
  · subst h4; unfold InsI SizeI; simp only [h1, h2, h3, hr, hd, hf, and_self, if_true, if_false, true_and]
    repeat' split
    all_goals (apply some_eq_dec; simp_all; try (intros; omega))
  by_cases h5 : o = 18
  · subst h5; unfold InsI SizeI; simp only [h1, h2, h3, h4, he, hd, hf, and_self, if_true, if_false, true_and]
    repeat' split
    all_goals (apply some_eq_dec; simp_all; try (intros; omega))
  by_cases h6 : o = 19
  · subst h6; unfold InsI; simp only [h1, h2, h3, h4, h5, if_true, if_false]
    repeat' split
    all_goals (apply some_eq_dec; simp_all; try (intros; omega))
  · unfold InsI; simp only [h1, h2, h3, h4, h5, h6, if_false]
    repeat' split
    all_goals (apply some_eq_dec; simp_all; try (intros; omega))
theorem specInsOk_eq (o d s f m z : Int) : spec_l1InsOk.f o d s f m z = some (decide (InsI o d s f m z)) := by
  unfold spec_l1InsOk.f
  simp only [l1In_eq, Option.bind_some, decide_eq_true_eq]
  by_cases h1 : 0 ≤ d ∧ d ≤ 10
  · by_cases h2 : -1 ≤ s ∧ s ≤ 10
    · by_cases h3 : -128 ≤ f ∧ f ≤ 127
      · by_cases h4 : 0 ≤ m ∧ m ≤ 4294967295
        · rw [if_pos h1, if_pos h2, if_pos h3, if_pos h4, specBare_eq o d s f m z h2 h1 h3 h4]; rfl
        · rw [if_pos h1, if_pos h2, if_pos h3, if_neg h4, decide_eq_false (fun x => h4 (InsI.range x).2.2.2.2.1)]
      · rw [if_pos h1, if_pos h2, if_neg h3, decide_eq_false (fun x => h3 (InsI.range x).2.2.2.1)]
    · rw [if_pos h1, if_neg h2, decide_eq_false (fun x => h2 (InsI.range x).2.2.1)]
  · rw [if_neg h1, decide_eq_false (fun x => h1 (InsI.range x).2.1)]
theorem Gives.iteP {α : Type} {c : Prop} [Decidable c] {a b : Option α} {P : α → Prop} (h : c) (g : Gives a P) : Gives (if c then a else b) P := by rw [if_pos h]; exact g
theorem dec_pos (d : Nat) : d ≤ 20 → ∀ (k : Nat) (a : Int), 0 ≤ a → a ≤ 9223372036854775807 → a < 10 ^ (d + 1) → d < k → Gives (spec_l1Dec.f k a) (fun s => s.size ≤ d + 1) := by
  induction d with
  | zero =>
    intro _ k a h0 _ h1 hk
    obtain ⟨k, rfl⟩ : ∃ m, k = m + 1 := ⟨k - 1, by omega⟩
    rw [spec_l1Dec.f, if_neg (by omega), if_neg (by omega), if_pos (by omega)]
    exact Gives.ret (by rw [strOfNums_size]; simp)
  | succ d ih =>
    intro hd k a h0 hm h1 hk
    obtain ⟨k, rfl⟩ : ∃ m, k = m + 1 := ⟨k - 1, by omega⟩
    rw [spec_l1Dec.f, if_neg (by omega), if_neg (by omega)]
    refine Gives.ite (fun _ => Gives.ret (by rw [strOfNums_size]; simp)) (fun h => ?_)
    rw [Int.pow_succ] at h1
    have hlt : a / 10 < 10 ^ (d + 1) := by omega
    rw [Int.tdiv_eq_ediv_of_nonneg h0, wrap64_id (n := a / 10) (by omega) (by omega)]
    refine (ih (by omega) k (a / 10) (by omega) (by omega) hlt (by omega)).bind fun t ht => ?_
    simp only [Option.bind_some]
    refine Gives.iteP ?_ (Gives.ret ?_)
    · rw [strOfNums_size]
      simp only [List.length_cons, List.length_nil]
      omega
    · rw [ByteArray.size_append, strOfNums_size]
      simp only [List.length_cons, List.length_nil]
      omega
theorem dec_gives {a : Int} (h0 : -1000000000000 < a) (h1 : a < 1000000000000) {k : Nat} (hk : 20 < k) : Gives (spec_l1Dec.f k a) (fun s => s.size ≤ 20) := by
  by_cases h : 0 ≤ a
  · exact (dec_pos 12 (by decide) k a h (by omega) (by omega) (by omega)).mono fun s hs => by omega
  · obtain ⟨k, rfl⟩ : ∃ m, k = m + 1 := ⟨k - 1, by omega⟩
    rw [spec_l1Dec.f, if_neg (by omega), if_pos (by omega), wrap64_id (n := -a) (by omega) (by omega)]
    refine (dec_pos 12 (by decide) k (-a) (by omega) (by omega) (by omega) (by omega)).bind fun t ht => ?_
    refine Gives.iteP (by omega) (Gives.ret ?_)
    rw [ByteArray.size_append]
    have : (⟨#[45]⟩ : ByteArray).size = 1 := rfl
    omega
/-- All texts of a list are short. -/
def Texts (l : List ByteArray) (n : Nat) : Prop := ∀ s ∈ l, s.size ≤ n
theorem rdOf_mem {l : List ByteArray} {i : Int} (h0 : 0 ≤ i) (h1 : i < (l.length : Int)) : rdOf ByteArray.empty l i ∈ l := by
  unfold rdOf
  have h : i.toNat < l.length := by omega
  rw [List.getD_eq_getElem?_getD, List.getElem?_eq_getElem h]
  exact List.getElem_mem h
theorem find_text (s : ByteArray) (l : List ByteArray) (hl : l.length ≤ 1000) (d : Nat) : ∀ (k p : Nat), p + d = l.length → d < k → Gives (spec_l1Find.l0 k l s (p : Int)) (fun _ => True) := by
  induction d with
  | zero =>
    intro k p hp hk
    obtain ⟨k, rfl⟩ : ∃ m, k = m + 1 := ⟨k - 1, by omega⟩
    rw [spec_l1Find.l0, if_neg (by omega)]
    exact Gives.ret trivial
  | succ d ih =>
    intro k p hp hk
    obtain ⟨k, rfl⟩ : ∃ m, k = m + 1 := ⟨k - 1, by omega⟩
    rw [spec_l1Find.l0, if_pos (by omega), if_pos (by omega)]
    refine Gives.ite (fun _ => Gives.ret trivial) (fun _ => ?_)
    rw [w_succ (by omega)]
    exact ih k (p + 1) (by omega) (by omega)
theorem find_text_gives (s : ByteArray) (l : List ByteArray) (hl : l.length ≤ 1000) {k : Nat} (hk : l.length < k) : Gives (spec_l1Find.f k l s) (fun _ => True) := find_text s l hl l.length k 0 (by omega) hk
theorem num_from (s : ByteArray) (hs : s.size ≤ 1000) (d : Nat) : ∀ (k p : Nat) (n : Int), p + d = s.size → 2 * d + 2 < k → Gives (spec_l1Num.l0 k s n (p : Int)) (fun _ => True) := by
  induction d with
  | zero =>
    intro k p n hp hk
    obtain ⟨k, rfl⟩ : ∃ m, k = m + 2 := ⟨k - 2, by omega⟩
    rw [spec_l1Num.l0, if_neg (by omega)]
    have fin : ∀ t, Gives (spec_l1Num.j2 (k + 1) n t) (fun _ => True) := by
      intro t
      rw [spec_l1Num.j2]
      exact Gives.ite (fun _ => Gives.ret trivial) (fun _ => Gives.ret trivial)
    refine Gives.ite (fun _ => fin _) (fun h => Gives.ite (fun _ => Gives.iteP (by omega) (fin _)) (fun _ => fin _))
  | succ d ih =>
    intro k p n hp hk
    obtain ⟨k, rfl⟩ : ∃ m, k = m + 2 := ⟨k - 2, by omega⟩
    rw [spec_l1Num.l0, if_pos (by omega), if_pos (by omega)]
    have fin : ∀ t, Gives (spec_l1Num.j1 (k + 1) s n p t) (fun _ => True) := by
      intro t
      rw [spec_l1Num.j1]
      refine Gives.ite (fun _ => Gives.ret trivial) (fun _ => ?_)
      rw [if_pos (by omega), if_pos (by omega), w_succ (by omega)]
      exact ih k (p + 1) _ (by omega) (by omega)
    exact Gives.ite (fun _ => fin _) (fun _ => Gives.ite (fun _ => fin _) (fun _ => fin _))
theorem num_gives {s : ByteArray} (hs : s.size ≤ 100) {k : Nat} (hk : 210 < k) : Gives (spec_l1Num.f k s) (fun _ => True) := num_from s (by omega) s.size k 0 0 (by omega) (by omega)
theorem extract_le (s : ByteArray) (a b : Nat) : (s.extract a b).size ≤ s.size := by rw [ByteArray.size_extract]; omega
theorem readReg_gives {s : ByteArray} (hs : s.size ≤ 100) {k : Nat} (hk : 220 < k) : Gives (spec_l1ReadReg.f k s) (fun _ => True) := by
  obtain ⟨k, rfl⟩ : ∃ m, k = m + 1 := ⟨k - 1, by omega⟩
  have ht : ∀ t, (t = true → 1 ≤ s.size) → Gives (spec_l1ReadReg.j0 (k + 1) s t) (fun _ => True) := by
    intro t h
    rw [spec_l1ReadReg.j0]
    refine Gives.ite (fun e => ?_) (fun _ => (num_gives hs (by omega)).bind fun v hv => Gives.ret trivial)
    refine Gives.iteP (by have := h e; omega) ?_
    exact (num_gives (Nat.le_trans (extract_le _ _ _) hs) (by omega)).bind fun v hv => Gives.ite (fun _ => Gives.ret trivial) (fun _ => Gives.ret trivial)
  unfold spec_l1ReadReg.f
  refine Gives.ite (fun h => Gives.iteP (by omega) (ht _ fun _ => by omega)) (fun _ => ht _ fun e => by cases e)
theorem signed_gives {s : ByteArray} (hs : s.size ≤ 100) {k : Nat} (hk : 220 < k) : Gives (spec_l1Signed.f k s) (fun _ => True) := by
  obtain ⟨k, rfl⟩ : ∃ m, k = m + 1 := ⟨k - 1, by omega⟩
  have ht : ∀ t, (t = true → 1 ≤ s.size) → Gives (spec_l1Signed.j0 (k + 1) s t) (fun _ => True) := by
    intro t h
    rw [spec_l1Signed.j0]
    refine Gives.ite (fun e => ?_) (fun _ => (num_gives hs (by omega)).bind fun v hv => Gives.ite (fun _ => Gives.ret trivial) (fun _ => Gives.ret trivial))
    refine Gives.iteP (by have := h e; omega) ?_
    exact (num_gives (Nat.le_trans (extract_le _ _ _) hs) (by omega)).bind fun v hv => Gives.ite (fun _ => Gives.ret trivial) (fun _ => Gives.ret trivial)
  unfold spec_l1Signed.f
  refine Gives.ite (fun h => Gives.iteP (by omega) (ht _ fun _ => by omega)) (fun _ => ht _ fun e => by cases e)
theorem cut_from (s : ByteArray) (b m : Int) (hs : s.size ≤ 100) (d : Nat) : ∀ (k p f : Nat) (l : List ByteArray), p + d = s.size → f ≤ p → l.length ≤ p → Texts l 100 → 2 * d + 2 < k → Gives (spec_l1Cut.l0 k s b m l (f : Int) (p : Int)) (fun v => 1 ≤ v.length ∧ Texts v 100) := by
  induction d with
  | zero =>
    intro k p f l hp hf hl ht hk
    obtain ⟨k, rfl⟩ : ∃ q, k = q + 2 := ⟨k - 2, by omega⟩
    rw [spec_l1Cut.l0, if_neg (by omega), spec_l1Cut.j1, if_neg (by decide), if_pos (by omega), if_pos (by omega), if_pos (by omega)]
    refine Gives.ret ⟨by simp, fun x hx => ?_⟩
    rcases List.mem_append.1 hx with h | h
    · exact ht x h
    · rw [List.mem_singleton.1 h]; exact Nat.le_trans (extract_le _ _ _) hs
  | succ d ih =>
    intro k p f l hp hf hl ht hk
    obtain ⟨k, rfl⟩ : ∃ q, k = q + 2 := ⟨k - 2, by omega⟩
    rw [spec_l1Cut.l0, if_pos (by omega), spec_l1Cut.j1]
    have hx : ∀ {a c : Nat}, Texts (l ++ [s.extract a c]) 100 := by
      intro a c x hx
      rcases List.mem_append.1 hx with h | h
      · exact ht x h
      · rw [List.mem_singleton.1 h]; exact Nat.le_trans (extract_le _ _ _) hs
    refine Gives.ite (fun _ => ?_) (fun _ => ?_)
    · rw [if_pos (by omega), if_pos (by omega)]
      refine Gives.ite (fun _ => ?_) (fun _ => ?_)
      · rw [if_pos (by omega), if_pos (by omega), if_pos (by omega), if_pos (by omega), w_succ (by omega)]
        exact ih k (p + 1) (p + 1) _ (by omega) (by omega) (by simp; omega) hx (by omega)
      · rw [w_succ (by omega)]
        exact ih k (p + 1) f l (by omega) (by omega) (by omega) ht (by omega)
    · rw [if_pos (by omega), if_pos (by omega), if_pos (by omega)]
      exact Gives.ret ⟨by simp, hx⟩
theorem cut_gives {s : ByteArray} (b m : Int) (hs : s.size ≤ 100) {k : Nat} (hk : 210 < k) : Gives (spec_l1Cut.f k s b m) (fun v => 1 ≤ v.length ∧ Texts v 100) :=
  cut_from s b m hs s.size k 0 0 [] (by omega) (by omega) (by simp) (fun x hx => by cases hx) (by omega)
theorem toList_size {a b : ByteArray} (h : a.toList = b.toList) : a.size = b.size := by
  rw [Go.ByteArray.toList_eq, Go.ByteArray.toList_eq] at h
  have := congrArg List.length h
  simpa using this
theorem words_ex : ∃ W, spec_l1Words.f = some W ∧ W.length = 21 ∧ Texts W 10 := ⟨_, rfl, rfl, by unfold Texts; decide⟩
theorem calls_ex : ∃ W, spec_l1Calls.f = some W ∧ W.length = 7 ∧ Texts W 10 := ⟨_, rfl, rfl, by unfold Texts; decide⟩
theorem reg_gives {s m : Int} (hs : -1 ≤ s ∧ s ≤ 10) (hm : 0 ≤ m ∧ m ≤ 4294967295) {k : Nat} (hk : 20 < k) : Gives (spec_l1Reg.f k s m) (fun t => t.size ≤ 21) := by
  unfold spec_l1Reg.f
  have z1 : (⟨#[114]⟩ : ByteArray).size = 1 := rfl
  refine Gives.ite (fun _ => ?_) (fun _ => ?_)
  · refine (dec_gives (by omega) (by omega) hk).bind fun t ht => Gives.iteP (by omega) (Gives.ret ?_)
    rw [ByteArray.size_append]
    omega
  · exact (dec_gives (by omega) (by omega) hk).bind fun t ht => Gives.ret (Nat.le_trans ht (by decide))
theorem line_gives {o d s f m z : Int} (h : InsI o d s f m z) {k : Nat} (hk : 20 < k) : Gives (spec_l1Line.f k o d s f m z) (fun _ => True) := by
  obtain ⟨ho, hd, hs, hf, hm, hz⟩ := InsI.range h
  obtain ⟨W, hW, hl, hw⟩ := words_ex
  obtain ⟨C, hC, hcl, hcw⟩ := calls_ex
  have h19 : o = 19 → 1 ≤ m ∧ m ≤ 6 := by
    intro e
    subst e
    unfold InsI at h
    simp at h
    omega
  have hc19 : o = 19 → (rdOf ByteArray.empty C m).size ≤ 10 := fun e => hcw _ (rdOf_mem (by have := h19 e; omega) (by have := h19 e; omega))
  have hwo : (rdOf ByteArray.empty W o).size ≤ 10 := hw _ (rdOf_mem (by omega) (by omega))
  unfold spec_l1Line.f
  rw [hW, hC]
  simp only [Option.bind_some]
  rw [if_pos (by omega), if_pos (by omega)]
  generalize rdOf ByteArray.empty W o = w at *
  have z1 : (⟨#[32]⟩ : ByteArray).size = 1 := rfl
  have z2 : (⟨#[32, 114]⟩ : ByteArray).size = 2 := rfl
  simp only [spec_l1Alu.f, spec_l1Jump.f, l1In_eq, Option.bind_some, decide_eq_true_eq]
  clear h hW hC hw hcw
  repeat' (first
    | exact Gives.ret trivial
    | (refine Gives.iteP (by (try simp only [ByteArray.size_append, z1, z2]); omega) ?_)
    | (refine (dec_gives (by omega) (by omega) (by omega)).bind fun t ht => ?_)
    | (refine (reg_gives hs hm (by omega)).bind fun t ht => ?_)
    | (refine Gives.ite (fun h => ?_) (fun h => ?_)))
theorem read6 (l : List ByteArray) (_ht : Texts l 100) {k : Nat} (hk : 230 < k) (t : Bool) (h : t = true → l.length = 2) (a b c d e f : Int) : Gives (spec_l1Read.j6 k l t a b c d e f) (fun _ => True) := by
  obtain ⟨k, rfl⟩ : ∃ m, k = m + 1 := ⟨k - 1, by omega⟩
  obtain ⟨C, hC, hcl, hcw⟩ := calls_ex
  rw [spec_l1Read.j6, hC]
  refine Gives.ite (fun z => ?_) (fun _ => Gives.ret trivial)
  have hn := h z
  simp only [Option.bind_some]
  refine Gives.iteP (by omega) ?_
  exact (find_text_gives _ _ (by omega) (by omega)).bind fun v hv => Gives.ret trivial
theorem short {l : List ByteArray} (ht : Texts l 100) {i : Int} (h0 : 0 ≤ i) (h1 : i < (l.length : Int)) : (rdOf ByteArray.empty l i).size ≤ 100 := ht _ (rdOf_mem h0 h1)
theorem read5 (l : List ByteArray) (ht : Texts l 100) {k : Nat} (hk : 240 < k) (t : Bool) (h : t = true → l.length = 4) (a b c d e f : Int) : Gives (spec_l1Read.j5 k l (l.length : Int) t a b c d e f) (fun _ => True) := by
  obtain ⟨k, rfl⟩ : ∃ m, k = m + 1 := ⟨k - 1, by omega⟩
  rw [spec_l1Read.j5]
  refine Gives.ite (fun z => ?_) (fun _ => Gives.ite (fun _ => read6 l ht (by omega) _ (fun z => by rw [beq_iff_eq] at z; omega) _ _ _ _ _ _) (fun _ => read6 l ht (by omega) _ (fun z => by cases z) _ _ _ _ _ _))
  have hn := h z
  refine Gives.iteP (by omega) ((readReg_gives (short ht (by omega) (by omega)) (by omega)).bind fun v hv => ?_)
  refine Gives.iteP (by omega) ((readReg_gives (short ht (by omega) (by omega)) (by omega)).bind fun v hv => ?_)
  exact Gives.iteP (by omega) ((signed_gives (short ht (by omega) (by omega)) (by omega)).bind fun v hv => Gives.ret trivial)
theorem read4 (l : List ByteArray) (ht : Texts l 100) {k : Nat} (hk : 250 < k) (t : Bool) (h : t = true → l.length = 4) (a b c d e f : Int) : Gives (spec_l1Read.j4 k l (l.length : Int) t a b c d e f) (fun _ => True) := by
  obtain ⟨k, rfl⟩ : ∃ m, k = m + 1 := ⟨k - 1, by omega⟩
  rw [spec_l1Read.j4]
  refine Gives.ite (fun z => ?_) (fun _ => Gives.ite (fun _ => read5 l ht (by omega) _ (fun z => by rw [beq_iff_eq] at z; omega) _ _ _ _ _ _) (fun _ => read5 l ht (by omega) _ (fun z => by cases z) _ _ _ _ _ _))
  have hn := h z
  refine Gives.iteP (by omega) ((readReg_gives (short ht (by omega) (by omega)) (by omega)).bind fun v hv => ?_)
  refine Gives.iteP (by omega) ((readReg_gives (short ht (by omega) (by omega)) (by omega)).bind fun v hv => ?_)
  exact Gives.iteP (by omega) ((signed_gives (short ht (by omega) (by omega)) (by omega)).bind fun v hv => Gives.ret trivial)
theorem read3 (l : List ByteArray) (ht : Texts l 100) {k : Nat} (hk : 260 < k) (t : Bool) (h : t = true → l.length = 2) (a b c d e f : Int) : Gives (spec_l1Read.j3 k l (l.length : Int) t a b c d e f) (fun _ => True) := by
  obtain ⟨k, rfl⟩ : ∃ m, k = m + 1 := ⟨k - 1, by omega⟩
  rw [spec_l1Read.j3]
  refine Gives.ite (fun z => ?_) (fun _ => Gives.ite (fun _ => read4 l ht (by omega) _ (fun z => by rw [beq_iff_eq] at z; omega) _ _ _ _ _ _) (fun _ => read4 l ht (by omega) _ (fun z => by cases z) _ _ _ _ _ _))
  have hn := h z
  exact Gives.iteP (by omega) ((signed_gives (short ht (by omega) (by omega)) (by omega)).bind fun v hv => Gives.ret trivial)
theorem read2 (l : List ByteArray) (ht : Texts l 100) {k : Nat} (hk : 270 < k) (t : Bool) (h : t = true → l.length = 3 ∨ l.length = 4) (a b c d e f : Int) : Gives (spec_l1Read.j2 k l (l.length : Int) t a b c d e f) (fun _ => True) := by
  obtain ⟨k, rfl⟩ : ∃ m, k = m + 1 := ⟨k - 1, by omega⟩
  rw [spec_l1Read.j2]
  refine Gives.ite (fun z => ?_) (fun _ => Gives.ite (fun _ => read3 l ht (by omega) _ (fun z => by rw [beq_iff_eq] at z; omega) _ _ _ _ _ _) (fun _ => read3 l ht (by omega) _ (fun z => by cases z) _ _ _ _ _ _))
  have hn := h z
  refine Gives.iteP (by omega) ((readReg_gives (short ht (by omega) (by omega)) (by omega)).bind fun v hv => ?_)
  refine Gives.iteP (by omega) ((readReg_gives (short ht (by omega) (by omega)) (by omega)).bind fun v hv => ?_)
  refine Gives.ite (fun _ => ?_) (fun _ => Gives.ret trivial)
  exact Gives.iteP (by omega) ((signed_gives (short ht (by omega) (by omega)) (by omega)).bind fun v hv => Gives.ret trivial)
theorem read_end (l : List ByteArray) (ht : Texts l 100) {k : Nat} (hk : 280 < k) (a b c d e f : Int) : Gives (spec_l1Read.l0 k l 8 a b c d e f) (fun _ => True) := by
  obtain ⟨k, rfl⟩ : ∃ m, k = m + 1 := ⟨k - 1, by omega⟩
  rw [spec_l1Read.l0, if_neg (by decide)]
  simp only [spec_l1Alu.f, spec_l1Jump.f, l1In_eq, Option.bind_some]
  repeat' (first
    | (refine read2 l ht (by omega) _ (fun z => ?_) _ _ _ _ _ _)
    | (refine Gives.ite (fun h => ?_) (fun h => ?_)))
  all_goals (first | (left; omega) | (rw [beq_iff_eq] at z; right; omega) | cases z)
theorem read_step (l : List ByteArray) (h1 : 1 ≤ l.length) {k : Nat} (hk : 30 < k) {x : Int} (hx : x = 1 ∨ x = 2 ∨ x = 4) (next : ∀ a b c d e f, Gives (spec_l1Read.l0 k l (x * 2) a b c d e f) (fun _ => True)) (a b c d e f : Int) : Gives (spec_l1Read.l0 (k + 2) l x a b c d e f) (fun _ => True) := by
  obtain ⟨W, hW, hl, hw⟩ := words_ex
  have one : ∀ t : Bool, (t = true → 1 ≤ (rdOf ByteArray.empty l 0).size ∧ (rdOf ByteArray.empty l 0).size ≤ 1000) → Gives (spec_l1Read.j1 (k + 1) l x t a b c d e f) (fun _ => True) := by
    intro t h
    rw [spec_l1Read.j1, hW, wrap64_id (n := x * 2) (by omega) (by omega)]
    refine Gives.ite (fun z => ?_) (fun _ => next _ _ _ _ _ _)
    have hz := h z
    simp only [Option.bind_some]
    rw [wrap64_id (n := ((rdOf ByteArray.empty l 0).size : Int) - 1) (by omega) (by omega)]
    refine Gives.iteP (by omega) (Gives.iteP (by omega) (Gives.iteP (by omega) ?_))
    exact (find_text_gives _ _ (by omega) (by omega)).bind fun v hv => next _ _ _ _ _ _
  have z4 : (⟨#[108, 111, 97, 100]⟩ : ByteArray).size = 4 := rfl
  have z5 : (⟨#[115, 116, 111, 114, 101]⟩ : ByteArray).size = 5 := rfl
  rw [spec_l1Read.l0]
  refine Gives.iteP (by omega) (Gives.iteP (by omega) ?_)
  refine (dec_gives (by omega) (by omega) (by omega)).bind fun t ht => Gives.iteP (by omega) ?_
  refine Gives.ite (fun e => one true fun _ => ?_) (fun _ => ?_)
  · have := toList_size e
    rw [ByteArray.size_append] at this
    omega
  · refine (dec_gives (by omega) (by omega) (by omega)).bind fun u hu => Gives.iteP (by omega) (one _ fun z => ?_)
    rw [beq_iff_eq] at z
    have := toList_size z
    rw [ByteArray.size_append] at this
    omega
theorem readL_gives {l : List ByteArray} (h1 : 1 ≤ l.length) (ht : Texts l 100) {k : Nat} (hk : 300 < k) : Gives (spec_l1Read.f k l) (fun _ => True) := by
  obtain ⟨k, rfl⟩ : ∃ m, k = m + 6 := ⟨k - 6, by omega⟩
  obtain ⟨W, hW, hl, hw⟩ := words_ex
  unfold spec_l1Read.f
  rw [hW]
  simp only [Option.bind_some]
  refine Gives.iteP (by omega) ((find_text_gives _ _ (by omega) (by omega)).bind fun v hv => ?_)
  refine read_step l h1 (by omega) (Or.inl rfl) (fun a b c d e f => ?_) _ _ _ _ _ _
  refine read_step l h1 (by omega) (Or.inr (Or.inl rfl)) (fun a b c d e f => ?_) _ _ _ _ _ _
  refine read_step l h1 (by omega) (Or.inr (Or.inr rfl)) (fun a b c d e f => ?_) _ _ _ _ _ _
  exact read_end l ht (by omega) _ _ _ _ _ _
theorem lineGet_gives {s : ByteArray} (hs : s.size ≤ 100) {k : Nat} (hk : 300 < k) : Gives (spec_LineGet.f k s) (fun _ => True) := by
  unfold spec_LineGet.f
  refine (cut_gives 32 5 hs (by omega)).bind fun l hl => (readL_gives hl.1 hl.2 hk).bind fun v _ => ?_
  rw [specInsOk_eq]
  simp only [Option.bind_some, decide_eq_true_eq]
  refine Gives.ite (fun h => ?_) (fun _ => Gives.ret trivial)
  exact (line_gives h (by omega)).bind fun t _ => Gives.ite (fun _ => Gives.ret trivial) (fun _ => Gives.ret trivial)
theorem lines_from (l : List ByteArray) (ht : Texts l 100) (hl : l.length ≤ 100) (n : Nat) : ∀ (k p : Nat) (acc : List S24), p + n = l.length → acc.length = p → n + 300 < k → Gives (spec_l20Read.l0 k l acc (p : Int)) (fun v => v.length = l.length) := by
  induction n with
  | zero =>
    intro k p acc hp ha hk
    obtain ⟨k, rfl⟩ : ∃ m, k = m + 1 := ⟨k - 1, by omega⟩
    rw [spec_l20Read.l0, if_neg (by omega)]
    exact Gives.ret (by omega)
  | succ n ih =>
    intro k p acc hp ha hk
    obtain ⟨k, rfl⟩ : ∃ m, k = m + 1 := ⟨k - 1, by omega⟩
    rw [spec_l20Read.l0, if_pos (by omega), if_pos (by omega)]
    refine (lineGet_gives (short ht (by omega) (by omega)) (by omega)).bind fun v _ => Gives.iteP (by omega) ?_
    rw [w_succ (by omega)]
    exact ih k (p + 1) _ (by omega) (by simp; omega) (by omega)
theorem lines_gives {l : List ByteArray} (ht : Texts l 100) (hl : l.length ≤ 100) {k : Nat} (hk : 410 < k) : Gives (spec_l20Read.f k l) (fun v => v.length = l.length) :=
  lines_from l ht hl l.length k 0 [] (by omega) rfl (by omega)
theorem alu_gives {b : List Int} (hb : Bytes b) {p : Int} (h0 : 0 ≤ p) (h1 : p ≤ 9900) {k : Nat} (hk : 0 < k) : Gives (spec_l20Alu.f k b p) (fun v => 0 ≤ v.2.2.2.2.2.2 ∧ v.2.2.2.2.2.2 ≤ p + 5) := by
  unfold spec_l20Alu.f
  refine (pick_gives hb h0 (by omega) (by decide) hk).bind fun v1 q1 => ?_
  refine (one_gives hb (by omega) (by omega) (by decide) hk).bind fun v2 q2 => ?_
  refine (imm_gives hb (by omega) (by omega) hk).bind fun v3 q3 => ?_
  refine (pick_gives hb (by omega) (by omega) (by decide) hk).bind fun v4 q4 => ?_
  refine Gives.ite (fun _ => ?_) (fun _ => Gives.ret ⟨by show 0 ≤ v4.2; omega, by show v4.2 ≤ _; omega⟩)
  exact (one_gives hb (by omega) (by omega) (by decide) hk).bind fun v5 q5 => Gives.ret ⟨by show 0 ≤ v5.2; omega, by show v5.2 ≤ _; omega⟩
theorem make_from {b : List Int} (hb : Bytes b) (d : Nat) : ∀ (k : Nat) (l : List S24) (n p : Int), (l.length : Int) + d = n + 4 → 0 ≤ n → n ≤ 30 → 1 ≤ l.length → 0 ≤ p → p + 10 * d ≤ 9000 → 2 * d + 2 < k →
    Gives (spec_l20Make.l0 k l n b p) (fun v => 1 ≤ v.1.length ∧ v.1.length ≤ 50 ∧ 0 ≤ v.2 ∧ v.2 ≤ p + 10 * d) := by
  induction d with
  | zero =>
    intro k l n p hl hn hn2 h1 hp hp2 hk
    obtain ⟨k, rfl⟩ : ∃ m, k = m + 1 := ⟨k - 1, by omega⟩
    rw [spec_l20Make.l0, wrap64_id (n := n + 4) (by omega) (by omega), if_neg (by omega)]
    refine Gives.iteP (by omega) (Gives.ret ⟨?_, ?_, hp, by omega⟩)
    · simp
    · rw [List.length_append]
      simp only [List.length_cons, List.length_nil]
      omega
  | succ d ih =>
    intro k l n p hl hn hn2 h1 hp hp2 hk
    obtain ⟨k, rfl⟩ : ∃ m, k = m + 2 := ⟨k - 2, by omega⟩
    rw [spec_l20Make.l0, wrap64_id (n := n + 4) (by omega) (by omega), if_pos (by omega), wrap64_id (n := n + 4 - (l.length : Int)) (by omega) (by omega)]
    have next : ∀ (x : S24) (q : Int), 0 ≤ q → q ≤ p + 10 → Gives (spec_l20Make.l0 k (l ++ [x]) n b q) (fun v => 1 ≤ v.1.length ∧ v.1.length ≤ 50 ∧ 0 ≤ v.2 ∧ v.2 ≤ p + 10 * ((d + 1 : Nat) : Int)) := by
      intro x q q0 q1
      refine (ih k (l ++ [x]) n q ?_ hn hn2 ?_ q0 (by omega) (by omega)).mono fun v hv => ⟨hv.1, hv.2.1, hv.2.2.1, by have := hv.2.2.2; omega⟩
      · rw [List.length_append]
        simp only [List.length_cons, List.length_nil]
        omega
      · rw [List.length_append]
        omega
    have one : ∀ (t : Bool) (x q : Int), 0 ≤ q → q ≤ p + 1 → Gives (spec_l20Make.j1 (k + 1) l n (n + 4 - (l.length : Int)) x t b q) (fun v => 1 ≤ v.1.length ∧ v.1.length ≤ 50 ∧ 0 ≤ v.2 ∧ v.2 ≤ p + 10 * ((d + 1 : Nat) : Int)) := by
      intro t x q q0 q1
      rw [spec_l20Make.j1]
      refine Gives.ite (fun _ => ?_) (fun _ => Gives.ite (fun _ => ?_) (fun _ => Gives.ite (fun _ => ?_) (fun _ => ?_)))
      · refine (pick_gives hb q0 (by omega) (by decide) (by omega)).bind fun v1 r1 => ?_
        refine (one_gives hb (by omega) (by omega) (by decide) (by omega)).bind fun v2 r2 => ?_
        refine (imm_gives hb (by omega) (by omega) (by omega)).bind fun v3 r3 => ?_
        refine (pick_gives hb (by omega) (by omega) (by omega) (by omega)).bind fun v4 r4 => ?_
        refine (pick_gives hb (by omega) (by omega) (by decide) (by omega)).bind fun v5 r5 => ?_
        refine Gives.ite (fun _ => ?_) (fun _ => Gives.iteP (by omega) (next _ _ (by omega) (by omega)))
        exact (one_gives hb (by omega) (by omega) (by decide) (by omega)).bind fun v6 r6 => Gives.iteP (by omega) (next _ _ (by omega) (by omega))
      · refine (one_gives hb (by omega) (by omega) (by decide) (by omega)).bind fun v2 r2 => ?_
        refine (one_gives hb (by omega) (by omega) (by decide) (by omega)).bind fun v3 r3 => ?_
        exact (one_gives hb (by omega) (by omega) (by decide) (by omega)).bind fun v6 r6 => Gives.iteP (by omega) (next _ _ (by omega) (by omega))
      · refine (one_gives hb (by omega) (by omega) (by decide) (by omega)).bind fun v2 r2 => ?_
        refine (one_gives hb (by omega) (by omega) (by decide) (by omega)).bind fun v3 r3 => ?_
        refine (one_gives hb (by omega) (by omega) (by decide) (by omega)).bind fun v4 r4 => ?_
        exact (one_gives hb (by omega) (by omega) (by decide) (by omega)).bind fun v6 r6 => Gives.iteP (by omega) (next _ _ (by omega) (by omega))
      · exact (alu_gives hb (by omega) (by omega) (by omega)).bind fun v1 r1 => Gives.iteP (by omega) (next _ _ r1.1 (by omega))
    refine (pick_gives hb hp (by omega) (by decide) (by omega)).bind fun v hv => ?_
    exact Gives.ite (fun _ => one _ _ _ (by omega) (by omega)) (fun _ => one _ _ _ (by omega) (by omega))
theorem make_gives {b : List Int} (hb : Bytes b) {p : Int} (h0 : 0 ≤ p) (h1 : p ≤ 8000) {k : Nat} (hk : 410 < k) : Gives (spec_l20Make.f k b p) (fun v => 1 ≤ v.1.length ∧ v.1.length ≤ 50 ∧ 0 ≤ v.2 ∧ v.2 ≤ p + 200) := by
  unfold spec_l20Make.f
  refine (lines_gives (by unfold Texts; decide) (by decide) hk).bind fun l hl => ?_
  have hl : l.length = 4 := hl
  refine (pick_gives hb h0 (by omega) (by decide) (by omega)).bind fun v hv => ?_
  obtain ⟨v0, v1, v2⟩ := hv
  rw [wrap64_id (n := 4 + v.1) (by omega) (by omega)]
  obtain ⟨d, hd⟩ := Int.eq_ofNat_of_zero_le v0
  refine (make_from hb (d + 4) k l (4 + v.1) v.2 (by omega) (by omega) (by omega) (by omega) (by omega) (by omega) (by omega)).mono fun w hw => ⟨hw.1, hw.2.1, hw.2.2.1, by have := hw.2.2.2; omega⟩
theorem prog0_gives {b : List Int} (hb : Bytes b) {l : List S24} (l0 : 1 ≤ l.length) (l1 : l.length ≤ 60) {p : Int} (h0 : 0 ≤ p) (h1 : p ≤ 9000) {k : Nat} (hk : 1 < k) : Gives (spec_l20Prog.j0 k l b p) (fun v => 1 ≤ v.1.length ∧ v.1.length ≤ 70 ∧ 0 ≤ v.2 ∧ v.2 ≤ p + 10) := by
  obtain ⟨k, rfl⟩ : ∃ m, k = m + 1 := ⟨k - 1, by omega⟩
  rw [spec_l20Prog.j0]
  simp only [Option.bind_some]
  have set : ∀ (i : Nat) (x : S24) (q : Int), 0 ≤ q → q ≤ p + 10 → Gives (some (l.set i x, q)) (fun v => 1 ≤ v.1.length ∧ v.1.length ≤ 70 ∧ 0 ≤ v.2 ∧ v.2 ≤ p + 10) :=
    fun i x q q0 q1 => Gives.ret ⟨by rw [List.length_set]; exact l0, by rw [List.length_set]; omega, q0, q1⟩
  refine (pick_gives hb h0 (by omega) (by decide) (by omega)).bind fun v hv => ?_
  obtain ⟨_, _, hv⟩ := hv
  refine Gives.ite (fun _ => ?_) (fun _ => Gives.ret ⟨l0, by show l.length ≤ 70; omega, by show 0 ≤ v.2; omega, by show v.2 ≤ _; omega⟩)
  refine (pick_gives hb (by omega) (by omega) (by omega) (by omega)).bind fun u hu => ?_
  obtain ⟨u0, u1, hu⟩ := hu
  refine (pick_gives hb (by omega) (by omega) (by decide) (by omega)).bind fun w hw => ?_
  obtain ⟨_, _, hw⟩ := hw
  refine Gives.ite (fun _ => ?_) (fun _ => Gives.ite (fun _ => ?_) (fun _ => Gives.ite (fun _ => ?_) (fun _ => Gives.ite (fun _ => ?_) (fun _ => Gives.ite (fun _ => ?_) (fun _ => ?_)))))
  · exact (imm_gives hb (by omega) (by omega) (by omega)).bind fun x hx => Gives.iteP (by omega) (Gives.iteP (by omega) (set _ _ _ (by omega) (by omega)))
  · exact (one_gives hb (by omega) (by omega) (by decide) (by omega)).bind fun x hx => Gives.iteP (by omega) (Gives.iteP (by omega) (set _ _ _ (by omega) (by omega)))
  · exact (pick_gives hb (by omega) (by omega) (by decide) (by omega)).bind fun x hx => Gives.iteP (by omega) (Gives.iteP (by omega) (set _ _ _ (by omega) (by omega)))
  · exact (pick_gives hb (by omega) (by omega) (by decide) (by omega)).bind fun x hx => Gives.iteP (by omega) (Gives.iteP (by omega) (set _ _ _ (by omega) (by omega)))
  · exact (pick_gives hb (by omega) (by omega) (by decide) (by omega)).bind fun x hx => Gives.iteP (by omega) (Gives.iteP (by omega) (set _ _ _ (by omega) (by omega)))
  · refine Gives.iteP (by omega) (Gives.iteP (by omega) ?_)
    refine Gives.iteP (by simp only [List.length_nil, List.length_take]; omega) ?_
    refine (alu_gives hb (by omega) (by omega) (by omega)).bind fun x hx => ?_
    refine Gives.iteP (by simp only [List.nil_append, List.length_take]; omega) ?_
    refine Gives.iteP (by simp only [List.nil_append, List.length_append, List.length_take, List.length_drop, List.length_cons, List.length_nil]; omega) (Gives.ret ⟨?_, ?_, hx.1, by have := hx.2; omega⟩)
    · simp only [List.nil_append, List.length_append, List.length_take, List.length_drop, List.length_cons, List.length_nil]; omega
    · simp only [List.nil_append, List.length_append, List.length_take, List.length_drop, List.length_cons, List.length_nil]; omega
theorem lists_ex : ∃ LL, spec_l20Lines.f = some LL ∧ LL.length = 15 ∧ ∀ L ∈ LL, 1 ≤ L.length ∧ L.length ≤ 60 ∧ Texts L 100 := ⟨_, rfl, rfl, by unfold Texts; decide⟩
theorem rdL_mem {l : List (List ByteArray)} {i : Int} (h0 : 0 ≤ i) (h1 : i < (l.length : Int)) : rd_L4 l i ∈ l := by
  unfold rd_L4
  have h : i.toNat < l.length := by omega
  rw [List.getD_eq_getElem?_getD, List.getElem?_eq_getElem h]
  exact List.getElem_mem h
theorem prog_gives {b : List Int} (hb : Bytes b) {p : Int} (h0 : 0 ≤ p) (h1 : p ≤ 8000) {k : Nat} (hk : 410 < k) : Gives (spec_l20Prog.f k b p) (fun v => 1 ≤ v.1.length ∧ v.1.length ≤ 70 ∧ 0 ≤ v.2 ∧ v.2 ≤ p + 300) := by
  obtain ⟨LL, hL, hn, hp⟩ := lists_ex
  unfold spec_l20Prog.f
  rw [hL]
  simp only [Option.bind_some]
  refine (make_gives hb h0 h1 hk).bind fun m hm => ?_
  obtain ⟨m1, m2, m3, m4⟩ := hm
  refine (pick_gives hb m3 (by omega) (by decide) (by omega)).bind fun v hv => ?_
  obtain ⟨_, _, hv⟩ := hv
  refine Gives.ite (fun _ => ?_) (fun _ => ?_)
  · refine (pick_gives hb (by omega) (by omega) (by omega) (by omega)).bind fun u hu => ?_
    obtain ⟨u0, u1, hu⟩ := hu
    refine Gives.iteP u0 (Gives.iteP u1 ?_)
    obtain ⟨q1, q2, q3⟩ := hp _ (rdL_mem u0 u1)
    refine (lines_gives q3 (by omega) hk).bind fun l hl => ?_
    exact (prog0_gives hb (by omega) (by omega) (by omega) (by omega) (by omega)).mono fun w hw => ⟨hw.1, hw.2.1, hw.2.2.1, by have := hw.2.2.2; omega⟩
  · exact (prog0_gives hb m1 (by omega) (by omega) (by omega) (by omega)).mono fun w hw => ⟨hw.1, hw.2.1, hw.2.2.1, by have := hw.2.2.2; omega⟩
theorem ins_gives {b : List Int} (hb : Bytes b) {p : Int} (h0 : 0 ≤ p) (h1 : p ≤ 8000) {k : Nat} (hk : 410 < k) : Gives (spec_l20Ins.f k b p) (fun v => 0 ≤ v.2.2.2.2.2.2 ∧ v.2.2.2.2.2.2 ≤ p + 301) := by
  unfold spec_l20Ins.f
  refine (prog_gives hb h0 h1 hk).bind fun m hm => ?_
  obtain ⟨m1, m2, m3, m4⟩ := hm
  refine (pick_gives hb m3 (by omega) (by omega) (by omega)).bind fun v hv => ?_
  obtain ⟨v0, v1, v2⟩ := hv
  exact Gives.iteP v0 (Gives.iteP v1 (Gives.ret ⟨by show 0 ≤ v.2; omega, by show v.2 ≤ _; omega⟩))
/-- No blank in it. -/
def NoSp (l : List UInt8) : Prop := ∀ b ∈ l, b ≠ 32
/-- Words with a blank between each two. -/
def joinW : List ByteArray → ByteArray
  | [] => ⟨#[]⟩
  | [w] => w
  | w :: v :: ws => w ++ ((⟨#[32]⟩ : ByteArray) ++ joinW (v :: ws))
theorem blank_at : ∀ (l r : List UInt8), NoSp l → Lib.indexByte (l ++ 32 :: r) 32 = (l.length : Int)
  | [], r, _ => by simp [Lib.indexByte]
  | b :: l, r, h => by
    have ih := blank_at l r (fun x hx => h x (List.mem_cons_of_mem _ hx))
    have hb : (b == (32 : UInt8)) = false := by simpa using h b List.mem_cons_self
    rw [List.cons_append, Lib.indexByte, hb, ih]
    simp only [List.length_cons]
    rw [if_neg (by decide), if_neg (by simp only [beq_iff_eq]; omega)]
    omega
theorem blank_none : ∀ (l : List UInt8), NoSp l → Lib.indexByte l 32 = -1
  | [], _ => rfl
  | b :: l, h => by
    have ih := blank_none l (fun x hx => h x (List.mem_cons_of_mem _ hx))
    have hb : (b == (32 : UInt8)) = false := by simpa using h b List.mem_cons_self
    rw [Lib.indexByte, hb, ih]
    rfl
theorem ba_of_list {a b : ByteArray} (h : a.data.toList = b.data.toList) : a = b := ByteArray.ext (Array.toList_inj.1 h)
theorem extract_list (s : ByteArray) (a b : Nat) : (s.extract a b).data.toList = (s.data.toList.drop a).take (b - a) := by
  rw [ByteArray.data_extract, Array.toList_extract, List.extract_eq_take_drop]
theorem app_list (a b : ByteArray) : (a ++ b).data.toList = a.data.toList ++ b.data.toList := by rw [ByteArray.data_append, Array.toList_append]
theorem size_list (a : ByteArray) : a.size = a.data.toList.length := by rw [Array.length_toList]; rfl
theorem head_of (w r : ByteArray) : (w ++ r).extract 0 w.size = w := by
  apply ba_of_list
  rw [extract_list, app_list, size_list]
  simp
theorem tail_of (w : ByteArray) (c : UInt8) (r : ByteArray) : (w ++ ((⟨#[c]⟩ : ByteArray) ++ r)).extract (w.size + 1) (w ++ ((⟨#[c]⟩ : ByteArray) ++ r)).size = r := by
  apply ba_of_list
  have e : (w.data.toList ++ c :: r.data.toList).drop (w.size + 1) = r.data.toList := by
    rw [size_list w, List.drop_append, List.drop_of_length_le (by omega), show w.data.toList.length + 1 - w.data.toList.length = 1 by omega]
    rfl
  rw [extract_list, app_list, app_list]
  show List.take _ ((w.data.toList ++ c :: r.data.toList).drop (w.size + 1)) = _
  rw [e, List.take_of_length_le]
  rw [ByteArray.size_append, ByteArray.size_append, size_list r]
  show _ ≤ w.size + (1 + _) - _
  omega
theorem blank_after (w r : ByteArray) (h : NoSp w.data.toList) : Lib.indexB (w ++ ((⟨#[32]⟩ : ByteArray) ++ r)) ⟨#[32]⟩ = (w.size : Int) := by
  show Lib.index _ _ = _
  rw [app_list, app_list, size_list]
  show Lib.index (w.data.toList ++ 32 :: r.data.toList) [32] = _
  rw [Lib.index_one, blank_at _ _ h]
theorem blank_no (w : ByteArray) (h : NoSp w.data.toList) : Lib.indexB w ⟨#[32]⟩ = -1 := by
  show Lib.index w.data.toList [32] = -1
  rw [Lib.index_one, blank_none _ h]
theorem split_join : ∀ (ws : List ByteArray) (w : ByteArray), (∀ x ∈ w :: ws, NoSp x.data.toList) → Lib.countB (joinW (w :: ws)) ⟨#[32]⟩ = ws.length ∧ Lib.splitB ⟨#[32]⟩ 0 ws.length (joinW (w :: ws)) = w :: ws
  | [], w, h => ⟨Lib.countB_miss _ _ (blank_no w (h w List.mem_cons_self)), rfl⟩
  | v :: ws, w, h => by
    have ih := split_join ws v (fun x hx => h x (List.mem_cons_of_mem _ hx))
    have hw := blank_after w (joinW (v :: ws)) (h w List.mem_cons_self)
    rw [joinW]
    constructor
    · rw [Lib.countB_hit _ _ _ (by decide) hw]
      show 1 + Lib.countB (ByteArray.extract _ (w.size + 1) _) _ = _
      rw [tail_of, ih.1]
      simp only [List.length_cons]
      omega
    · rw [List.length_cons, Lib.splitB_hit _ _ _ _ _ hw]
      show ByteArray.extract _ 0 (w.size + 0) :: Lib.splitB _ _ _ (ByteArray.extract _ (w.size + 1) _) = _
      rw [tail_of, ih.2, Nat.add_zero, head_of]
theorem split_eq {s : ByteArray} {ws : List ByteArray} {w : ByteArray} (hs : s = joinW (w :: ws)) (h : ∀ x ∈ w :: ws, NoSp x.data.toList) (hl : s.size < 4294967281) : strings_Split.f s ⟨#[32]⟩ = some (w :: ws) := by
  unfold strings_Split.f
  rw [if_pos hl, if_pos (by decide), hs, (split_join ws w h).1, (split_join ws w h).2]
theorem bt_of {s : ByteArray} {p : Nat} {b : UInt8} (h : s.data.toList[p]? = some b) : bt s (p : Int) = (b.toNat : Int) ∧ p < s.size := by
  obtain ⟨hp, e⟩ := List.getElem?_eq_some_iff.1 h
  rw [← size_list] at hp
  refine ⟨?_, hp⟩
  unfold bt
  rw [dif_pos (by simpa using hp)]
  congr 2
theorem cut_skip (s : ByteArray) (acc : List ByteArray) (f : Int) (ha : acc.length < 5) (d : Nat) : ∀ (k p : Nat), p + d ≤ s.size → s.size ≤ 2000000 → (∀ j, p ≤ j → j < p + d → bt s (j : Int) ≠ 32) →
    spec_l1Cut.l0 (k + 2 * d) s 32 5 acc f (p : Int) = spec_l1Cut.l0 k s 32 5 acc f ((p + d : Nat) : Int) := by
  induction d with
  | zero => intro k p _ _ _; rfl
  | succ d ih =>
    intro k p hp hs hb
    rw [show k + 2 * (d + 1) = (k + 2 * d) + 1 + 1 by omega, spec_l1Cut.l0, if_pos (by omega), spec_l1Cut.j1, if_pos (by rw [decide_eq_true_eq]; omega), if_pos (by omega), if_pos (by omega), if_neg (hb p (by omega) (by omega)), w_succ (by omega), ih k (p + 1) (by omega) hs (fun j h1 h2 => hb j (by omega) (by omega))]
    rw [show p + 1 + d = p + (d + 1) by omega]
theorem joinW_cons (w v : ByteArray) (ws : List ByteArray) : (joinW (w :: v :: ws)).data.toList = w.data.toList ++ 32 :: (joinW (v :: ws)).data.toList := by
  rw [joinW, app_list, app_list]; rfl
theorem cut_words (s : ByteArray) (hs : s.size ≤ 2000000) : ∀ (ws : List ByteArray) (w : ByteArray) (acc : List ByteArray) (p k : Nat), s.data.toList.drop p = (joinW (w :: ws)).data.toList → p ≤ s.size → acc.length + ws.length < 5 → (∀ x ∈ w :: ws, NoSp x.data.toList) →
    2 * (s.size - p) + 2 ≤ k → spec_l1Cut.l0 k s 32 5 acc (p : Int) (p : Int) = some (acc ++ w :: ws)
  | [], w, acc, p, k, hd, hp, ha, hn, hk => by
    have hl : w.data.toList.length = s.size - p := by rw [show w.data.toList = s.data.toList.drop p from hd.symm, List.length_drop, ← size_list]
    obtain ⟨k, rfl⟩ : ∃ m, k = m + 2 + 2 * (s.size - p) := ⟨k - 2 - 2 * (s.size - p), by omega⟩
    rw [cut_skip s acc (p : Int) (by simp only [List.length_nil] at ha; omega) (s.size - p) (k + 2) p (by omega) hs (fun j h1 h2 => ?_)]
    · rw [show k + 2 = k + 1 + 1 from rfl, spec_l1Cut.l0, if_neg (by omega), spec_l1Cut.j1, if_neg (by decide), if_pos (by omega), if_pos (by omega), if_pos (by omega)]
      congr 3
      apply ba_of_list
      rw [extract_list, show ((p : Int)).toNat = p by omega, hd]
      exact List.take_of_length_le (by show w.data.toList.length ≤ _; omega)
    · have hj : w.data.toList[j - p]? = s.data.toList[j]? := by rw [show w.data.toList = s.data.toList.drop p from hd.symm, List.getElem?_drop, show p + (j - p) = j by omega]
      have hlt : j - p < w.data.toList.length := by omega
      obtain ⟨b, hb⟩ : ∃ b, w.data.toList[j - p]? = some b := ⟨_, List.getElem?_eq_getElem hlt⟩
      rw [(bt_of (hj.symm.trans hb)).1]
      have := hn w List.mem_cons_self b (List.mem_of_getElem? hb)
      intro e
      exact this (by apply UInt8.toNat_inj.1; show b.toNat = 32; omega)
  | v :: ws, w, acc, p, k, hd, hp, ha, hn, hk => by
    rw [joinW_cons] at hd
    have hlen : w.data.toList.length + (1 + (joinW (v :: ws)).data.toList.length) = s.size - p := by
      have := congrArg List.length hd
      rw [List.length_drop, ← size_list, List.length_append, List.length_cons] at this
      omega
    have hat : ∀ j, s.data.toList[p + j]? = (w.data.toList ++ 32 :: (joinW (v :: ws)).data.toList)[j]? := fun j => by rw [← hd, List.getElem?_drop]
    obtain ⟨k, rfl⟩ : ∃ m, k = m + 2 + 2 * w.data.toList.length := ⟨k - 2 - 2 * w.data.toList.length, by omega⟩
    rw [cut_skip s acc (p : Int) (by simp only [List.length_cons] at ha; omega) w.data.toList.length (k + 2) p (by omega) hs (fun j h1 h2 => ?_)]
    · have hq : s.data.toList[p + w.data.toList.length]? = some 32 := by rw [hat]; simp
      have hb : bt s ((p + w.data.toList.length : Nat) : Int) = 32 ∧ p + w.data.toList.length < s.size := bt_of hq
      rw [show k + 2 = k + 1 + 1 from rfl, spec_l1Cut.l0, if_pos (by omega), spec_l1Cut.j1, if_pos (by rw [decide_eq_true_eq]; simp only [List.length_cons] at ha; omega), if_pos (by omega), if_pos (by omega), if_pos hb.1, if_pos (by omega), if_pos (by omega), if_pos (by omega), if_pos (by simp only [List.length_cons] at ha; omega), w_succ (by omega)]
      rw [cut_words s hs ws v _ (p + w.data.toList.length + 1) k ?_ (by omega) (by simp only [List.length_append, List.length_cons, List.length_nil] at ha ⊢; omega) (fun x hx => hn x (List.mem_cons_of_mem _ hx)) (by omega)]
      · have e : s.extract ((p : Int)).toNat (((p + w.data.toList.length : Nat) : Int)).toNat = w := by
          apply ba_of_list
          rw [extract_list, show ((p : Int)).toNat = p by omega, hd, show (((p + w.data.toList.length : Nat) : Int)).toNat - p = w.data.toList.length by omega]
          simp
        rw [e, List.append_assoc]
        rfl
      · rw [show p + w.data.toList.length + 1 = p + (w.data.toList.length + 1) by omega, ← List.drop_drop, hd, List.drop_append, List.drop_of_length_le (by omega), show w.data.toList.length + 1 - w.data.toList.length = 1 by omega]
        rfl
    · have hj := hat (j - p)
      rw [show p + (j - p) = j by omega, List.getElem?_append_left (by omega)] at hj
      have hlt : j - p < w.data.toList.length := by omega
      obtain ⟨b, hb⟩ : ∃ b, w.data.toList[j - p]? = some b := ⟨_, List.getElem?_eq_getElem hlt⟩
      rw [(bt_of (hj.trans hb)).1]
      have := hn w List.mem_cons_self b (List.mem_of_getElem? hb)
      intro e
      exact this (by apply UInt8.toNat_inj.1; show b.toNat = 32; omega)
theorem cut_eq {s : ByteArray} {ws : List ByteArray} {w : ByteArray} (hs : s = joinW (w :: ws)) (h : ∀ x ∈ w :: ws, NoSp x.data.toList) (hl : ws.length < 5) (hz : s.size ≤ 2000000) {k : Nat} (hk : 2 * s.size + 2 ≤ k) : spec_l1Cut.f k s 32 5 = some (w :: ws) :=
  cut_words s hz ws w [] 0 k (by rw [hs]; rfl) (Nat.zero_le _) (by simpa using hl) h (by omega)
/-- What digits spell, behind what came ahead. -/
def dval (a : Nat) (l : List UInt8) : Nat := l.foldl (fun a b => a * 10 + (b.toNat - 48)) a
def Dg (l : List UInt8) : Prop := ∀ b ∈ l, 48 ≤ b.toNat ∧ b.toNat ≤ 57
theorem dig_byte {d : Nat} (h : d < 10) : (UInt8.ofNat (48 + d)).toNat = 48 + d := by
  rw [UInt8.toNat_ofNat']
  omega
theorem dec_facts (n : Nat) : Dg (Lib.decDigits n) ∧ dval 0 (Lib.decDigits n) = n ∧ ∃ c r, Lib.decDigits n = c :: r ∧ (1 ≤ n → c.toNat ≠ 48) ∧ (n < 10 → r = []) := by
  induction n using Nat.strongRecOn with
  | _ n ih =>
    rw [Lib.decDigits]
    by_cases h : n < 10
    · rw [dif_pos h]
      refine ⟨fun b hb => ?_, ?_, _, [], rfl, fun h1 => ?_, fun _ => rfl⟩
      · rw [List.mem_singleton.1 hb, dig_byte h]; omega
      · show 0 * 10 + ((UInt8.ofNat (48 + n)).toNat - 48) = n
        rw [dig_byte h]; omega
      · rw [dig_byte h]; omega
    · rw [dif_neg h]
      obtain ⟨h1, h2, c, r, h3, h4, _⟩ := ih (n / 10) (by omega)
      refine ⟨fun b hb => ?_, ?_, c, r ++ [UInt8.ofNat (48 + n % 10)], by rw [h3]; rfl, fun _ => h4 (by omega), fun h' => absurd h' h⟩
      · rcases List.mem_append.1 hb with hb | hb
        · exact h1 b hb
        · rw [List.mem_singleton.1 hb, dig_byte (by omega)]; omega
      · unfold dval at h2 ⊢
        rw [List.foldl_append, h2]
        show n / 10 * 10 + ((UInt8.ofNat (48 + n % 10)).toNat - 48) = n
        rw [dig_byte (by omega)]; omega
theorem dval_take {l : List UInt8} {p : Nat} {b : UInt8} (h : l[p]? = some b) : dval 0 (l.take (p + 1)) = dval 0 (l.take p) * 10 + (b.toNat - 48) := by
  rw [List.take_add_one, h]
  unfold dval
  rw [List.foldl_append]
  rfl
theorem dval_lt (l : List UInt8) (hd : Dg l) : ∀ p, p ≤ l.length → dval 0 (l.take p) < 10 ^ p := by
  intro p
  induction p with
  | zero => intro _; simp [dval]
  | succ p ih =>
    intro hp
    have hb := List.getElem?_eq_getElem (show p < l.length by omega)
    rw [dval_take hb]
    have h1 := ih (by omega)
    have h2 := hd _ (List.getElem_mem (show p < l.length by omega))
    rw [Nat.pow_succ]
    omega
/-- A number's text. -/
def dig (n : Int) : ByteArray := ⟨(Lib.itoa n).toArray⟩
theorem itoa_eq {n : Int} (h0 : -9223372036854775808 ≤ n) (h1 : n ≤ 9223372036854775807) : strconv_Itoa.f n = some (dig n) := by
  unfold strconv_Itoa.f
  rw [if_pos h0, if_pos h1]
  rfl
theorem dig_neg {n : Int} (h : 0 < n) : dig (-n) = (⟨#[45]⟩ : ByteArray) ++ dig n := by
  apply ByteArray.ext
  rw [ByteArray.data_append]
  apply Array.toList_inj.1
  unfold dig Lib.itoa
  rw [if_pos (by omega), if_neg (by omega), show (-n).natAbs = n.toNat by omega]
  simp
theorem dig_small {n : Int} (h0 : 0 ≤ n) (h1 : n < 10) : dig n = strOfNums [(wrap64 (48 + n)) % 256] := by
  rw [wrap64_id (n := 48 + n) (by omega) (by omega), show (48 + n) % 256 = 48 + n by omega]
  apply ByteArray.ext
  apply Array.toList_inj.1
  rw [strOfNums_data]
  unfold dig Lib.itoa
  rw [if_neg (by omega), Lib.decDigits, dif_pos (by omega)]
  simp only [List.map_cons, List.map_nil]
  rw [show (48 + n).toNat = 48 + n.toNat by omega]
theorem dig_step {n : Int} (h0 : 10 ≤ n) (h1 : n ≤ 9223372036854775807) : dig n = dig (wrap64 (Int.tdiv n 10)) ++ strOfNums [(wrap64 (48 + (Int.tmod n 10))) % 256] := by
  rw [Int.tdiv_eq_ediv_of_nonneg (by omega), Int.tmod_eq_emod_of_nonneg (by omega), wrap64_id (n := n / 10) (by omega) (by omega), wrap64_id (n := 48 + n % 10) (by omega) (by omega), show (48 + n % 10) % 256 = 48 + n % 10 by omega]
  apply ByteArray.ext
  rw [ByteArray.data_append]
  apply Array.toList_inj.1
  rw [Array.toList_append, strOfNums_data]
  unfold dig Lib.itoa
  rw [if_neg (by omega), if_neg (by omega), Lib.decDigits, dif_neg (by omega), show n.toNat / 10 = (n / 10).toNat by omega, show (48 + n.toNat % 10) = (48 + n % 10).toNat by omega]
  simp
theorem dec_at (d : Nat) : d ≤ 20 → ∀ (k : Nat) (a : Int), 0 ≤ a → a ≤ 9223372036854775807 → a < 10 ^ (d + 1) → d < k → spec_l1Dec.f k a = some (dig a) ∧ (dig a).size ≤ d + 1 := by
  induction d with
  | zero =>
    intro _ k a h0 _ h1 hk
    obtain ⟨k, rfl⟩ : ∃ m, k = m + 1 := ⟨k - 1, by omega⟩
    rw [spec_l1Dec.f, if_neg (by omega), if_neg (by omega), if_pos (by omega), dig_small h0 (by omega), strOfNums_size]
    exact ⟨rfl, Nat.le_refl _⟩
  | succ d ih =>
    intro hd k a h0 hm h1 hk
    obtain ⟨k, rfl⟩ : ∃ m, k = m + 1 := ⟨k - 1, by omega⟩
    rw [spec_l1Dec.f, if_neg (by omega), if_neg (by omega)]
    by_cases h : a < 10
    · rw [if_pos h, dig_small h0 h, strOfNums_size]
      exact ⟨rfl, by simp⟩
    rw [if_neg h, dig_step (by omega) hm]
    rw [Int.pow_succ] at h1
    have hlt : a / 10 < 10 ^ (d + 1) := by omega
    have e := ih (by omega) k (a / 10) (by omega) (by omega) hlt (by omega)
    have hw : wrap64 (Int.tdiv a 10) = a / 10 := by rw [Int.tdiv_eq_ediv_of_nonneg h0, wrap64_id (n := a / 10) (by omega) (by omega)]
    rw [hw, e.1]
    simp only [Option.bind_some]
    rw [ByteArray.size_append, strOfNums_size]
    simp only [List.length_cons, List.length_nil]
    have := e.2
    rw [if_pos (by omega)]
    exact ⟨rfl, by omega⟩
theorem dec_eq {a : Int} (h0 : -1000000000000 < a) (h1 : a < 1000000000000) {k : Nat} (hk : 20 < k) : spec_l1Dec.f k a = some (dig a) ∧ (dig a).size ≤ 20 := by
  by_cases h : 0 ≤ a
  · have e := dec_at 12 (by decide) k a h (by omega) (by omega) (by omega)
    exact ⟨e.1, by have := e.2; omega⟩
  · obtain ⟨k, rfl⟩ : ∃ m, k = m + 1 := ⟨k - 1, by omega⟩
    have e := dec_at 12 (by decide) k (-a) (by omega) (by omega) (by omega) (by omega)
    have hd := dig_neg (n := -a) (by omega)
    rw [Int.neg_neg] at hd
    have := e.2
    have one : (⟨#[45]⟩ : ByteArray).size = 1 := rfl
    rw [spec_l1Dec.f, if_neg (by omega), if_pos (by omega), wrap64_id (n := -a) (by omega) (by omega), e.1]
    simp only [Option.bind_some]
    rw [if_pos (by omega), hd, ByteArray.size_append]
    exact ⟨rfl, by omega⟩
theorem words_eq : spec_l1Words.f = some impl_opWords.L := rfl
theorem calls_eq : spec_l1Calls.f = some impl_callWords.L := rfl
theorem opw_size {o : Int} (h0 : 0 ≤ o) (h1 : o < 21) : (rdOf ByteArray.empty impl_opWords.L o).size ≤ 5 := by
  have hc : o = 0 ∨ o = 1 ∨ o = 2 ∨ o = 3 ∨ o = 4 ∨ o = 5 ∨ o = 6 ∨ o = 7 ∨ o = 8 ∨ o = 9 ∨ o = 10 ∨ o = 11 ∨ o = 12 ∨ o = 13 ∨ o = 14 ∨ o = 15 ∨ o = 16 ∨ o = 17 ∨ o = 18 ∨ o = 19 ∨ o = 20 := by omega
  rcases hc with e|e|e|e|e|e|e|e|e|e|e|e|e|e|e|e|e|e|e|e|e <;> (rw [e]; decide)
theorem callw_size {o : Int} (h0 : 0 ≤ o) (h1 : o < 7) : (rdOf ByteArray.empty impl_callWords.L o).size ≤ 5 := by
  have hc : o = 0 ∨ o = 1 ∨ o = 2 ∨ o = 3 ∨ o = 4 ∨ o = 5 ∨ o = 6 := by omega
  rcases hc with e|e|e|e|e|e|e <;> (rw [e]; decide)
theorem bsz1 (a : UInt8) : (⟨#[a]⟩ : ByteArray).size = 1 := rfl
theorem bsz2 (a b : UInt8) : (⟨#[a, b]⟩ : ByteArray).size = 2 := rfl
theorem sp_r : (⟨#[32, 114]⟩ : ByteArray) = ⟨#[32]⟩ ++ ⟨#[114]⟩ := rfl
/-- The text of a register or of the number in its place. -/
def valT (s m : Int) : ByteArray := if s = -1 then dig m else (⟨#[114]⟩ : ByteArray) ++ dig s
theorem reg_eq {n : Int} (h0 : 0 ≤ n) (h1 : n ≤ 10) : impl_reg.f n = some ((⟨#[114]⟩ : ByteArray) ++ dig n) := by
  unfold impl_reg.f
  have := (dec_eq (a := n) (by omega) (by omega) (k := 30) (by decide)).2
  rw [itoa_eq (by omega) (by omega), Option.bind_some, if_pos (by omega)]
theorem value_eq {o d s f m z : Int} (h : EitherI s m) : impl_Ins_value.f o d s f m z = some (valT s m) := by
  unfold impl_Ins_value.f valT
  unfold EitherI at h
  by_cases e : s = -1
  · rw [if_pos e, if_pos e, itoa_eq (by omega) (by omega), Option.bind_some]
  · rw [if_neg e, if_neg e, reg_eq (by omega) (by omega), Option.bind_some]
theorem sreg_eq {s m : Int} (h : EitherI s m) {k : Nat} (hk : 20 < k) : spec_l1Reg.f k s m = some (valT s m) := by
  unfold spec_l1Reg.f valT
  unfold EitherI at h
  by_cases e : s = -1
  · rw [if_neg (by omega), if_pos e, (dec_eq (by omega) (by omega) hk).1, Option.bind_some]
  · have := dec_eq (a := s) (by omega) (by omega) hk
    rw [if_pos (by omega), if_neg e, this.1, Option.bind_some, if_pos (by omega)]
theorem valT_size {s m : Int} (h : EitherI s m) : (valT s m).size ≤ 21 := by
  unfold EitherI at h
  unfold valT
  split
  · have := (dec_eq (a := m) (by omega) (by omega) (k := 30) (by decide)).2; omega
  · have := (dec_eq (a := s) (by omega) (by omega) (k := 30) (by decide)).2
    rw [ByteArray.size_append, bsz1]; omega
/-- The line of an op, with a text for where it goes. -/
def lineT (o d s f m z : Int) : ByteArray :=
  let w := rdOf ByteArray.empty impl_opWords.L o
  let sp : ByteArray := ⟨#[32]⟩
  let r (n : Int) : ByteArray := ⟨#[114]⟩ ++ dig n
  if 1 ≤ o ∧ o ≤ 11 then w ++ (sp ++ (r d ++ (sp ++ valT s m)))
  else if 12 ≤ o ∧ o ≤ 15 then w ++ (sp ++ (r d ++ (sp ++ (valT s m ++ (sp ++ dig f)))))
  else if o = 16 then w ++ (sp ++ dig f)
  else if o = 17 then w ++ (dig z ++ (sp ++ (r d ++ (sp ++ (r s ++ (sp ++ dig f))))))
  else if o = 18 then w ++ (dig z ++ (sp ++ (r d ++ (sp ++ (dig f ++ (sp ++ valT s m))))))
  else if o = 19 then w ++ (sp ++ rdOf ByteArray.empty impl_callWords.L m)
  else w
theorem implLine_eq {o d s f m z : Int} (h : InsI o d s f m z) : impl_Ins_line.f o d s f m z (dig f) = some (lineT o d s f m z) := by
  have hr := h.range
  have w1 := opw_size (o := o) (by omega) (by omega)
  have d1 := (dec_eq (a := d) (by omega) (by omega) (k := 30) (by decide)).2
  have f1 := (dec_eq (a := f) (by omega) (by omega) (k := 30) (by decide)).2
  have z1 := (dec_eq (a := z) (by omega) (by omega) (k := 30) (by decide)).2
  unfold impl_Ins_line.f
  rw [if_pos (by omega), if_pos (by omega)]
  simp only [reckons_eq, asks_eq, Option.bind_some, decide_eq_true_eq]
  unfold lineT
  unfold InsI at h
  generalize rdOf ByteArray.empty impl_opWords.L o = w at *
  by_cases c1 : 1 ≤ o ∧ o ≤ 11
  · rw [if_pos c1] at h ⊢
    rw [if_pos c1]
    have v1 := valT_size h.2.1
    rw [if_pos (by omega), reg_eq h.1.1 h.1.2, Option.bind_some]
    simp only [ByteArray.size_append, bsz1]
    rw [if_pos (by omega), if_pos (by omega), value_eq h.2.1, Option.bind_some, if_pos (by omega)]
    simp only [ByteArray.append_assoc]
  rw [if_neg c1] at h ⊢
  rw [if_neg c1]
  by_cases c2 : 12 ≤ o ∧ o ≤ 15
  · rw [if_pos c2] at h ⊢
    rw [if_pos c2]
    have v1 := valT_size h.2.1
    rw [if_pos (by omega), reg_eq h.1.1 h.1.2, Option.bind_some]
    simp only [ByteArray.size_append, bsz1]
    rw [if_pos (by omega), if_pos (by omega), value_eq h.2.1, Option.bind_some, if_pos (by omega), if_pos (by omega), if_pos (by omega)]
    simp only [ByteArray.append_assoc]
  rw [if_neg c2] at h ⊢
  rw [if_neg c2]
  by_cases c3 : o = 16
  · rw [if_pos c3] at h ⊢
    rw [if_pos c3]
    simp only [ByteArray.size_append, bsz1]
    rw [if_pos (by omega), if_pos (by omega)]
    simp only [ByteArray.append_assoc]
  rw [if_neg c3] at h ⊢
  rw [if_neg c3]
  by_cases c4 : o = 17
  · rw [if_pos c4] at h ⊢
    rw [if_pos c4]
    have s1 := (dec_eq (a := s) (by omega) (by omega) (k := 30) (by decide)).2
    rw [itoa_eq (by omega) (by omega), Option.bind_some, reg_eq h.1.1 h.1.2, reg_eq h.2.1.1 h.2.1.2]
    simp only [ByteArray.size_append, bsz1, Option.bind_some]
    rw [if_pos (by omega), if_pos (by omega), if_pos (by omega), if_pos (by omega), if_pos (by omega), if_pos (by omega), if_pos (by omega)]
    simp only [ByteArray.append_assoc]
  rw [if_neg c4] at h ⊢
  rw [if_neg c4]
  by_cases c5 : o = 18
  · rw [if_pos c5] at h ⊢
    rw [if_pos c5]
    have v1 := valT_size h.2.1
    rw [itoa_eq (by omega) (by omega), Option.bind_some, reg_eq h.1.1 h.1.2, value_eq h.2.1]
    simp only [ByteArray.size_append, bsz1, Option.bind_some]
    rw [if_pos (by omega), if_pos (by omega), if_pos (by omega), if_pos (by omega), if_pos (by omega), if_pos (by omega), if_pos (by omega)]
    simp only [ByteArray.append_assoc]
  rw [if_neg c5] at h ⊢
  rw [if_neg c5]
  by_cases c6 : o = 19
  · rw [if_pos c6] at h ⊢
    rw [if_pos c6]
    have v1 := callw_size (o := m) (by omega) (by omega)
    simp only [ByteArray.size_append, bsz1]
    rw [if_pos (by omega), if_pos (by omega), if_pos (by omega), if_pos (by omega)]
    simp only [ByteArray.append_assoc]
  rw [if_neg c6, if_neg c6]
theorem specLine_eq {o d s f m z : Int} (h : InsI o d s f m z) {k : Nat} (hk : 20 < k) : spec_l1Line.f k o d s f m z = some (lineT o d s f m z) := by
  have hr := h.range
  have w1 := opw_size (o := o) (by omega) (by omega)
  have d1 := dec_eq (a := d) (by omega) (by omega) hk
  have f1 := dec_eq (a := f) (by omega) (by omega) hk
  have z1 := dec_eq (a := z) (by omega) (by omega) hk
  unfold spec_l1Line.f
  rw [words_eq, Option.bind_some, if_pos (by omega), if_pos (by show o < 21; omega), d1.1, Option.bind_some, if_pos (by omega)]
  unfold spec_l1Alu.f spec_l1Jump.f
  simp only [l1In_eq, Option.bind_some, decide_eq_true_eq]
  unfold lineT
  unfold InsI at h
  generalize rdOf ByteArray.empty impl_opWords.L o = w at *
  by_cases c1 : 1 ≤ o ∧ o ≤ 11
  · rw [if_pos c1] at h ⊢
    rw [if_pos c1]
    have v1 := valT_size h.2.1
    simp only [ByteArray.size_append, bsz1, bsz2]
    rw [if_pos (by omega), if_pos (by omega), sreg_eq h.2.1 hk, Option.bind_some, if_pos (by omega)]
    simp only [ByteArray.append_assoc, sp_r]
  rw [if_neg c1] at h ⊢
  rw [if_neg c1]
  by_cases c2 : 12 ≤ o ∧ o ≤ 15
  · rw [if_pos c2] at h ⊢
    rw [if_pos c2]
    have v1 := valT_size h.2.1
    simp only [ByteArray.size_append, bsz1, bsz2]
    rw [if_pos (by omega), if_pos (by omega), sreg_eq h.2.1 hk, Option.bind_some, if_pos (by omega), if_pos (by omega), f1.1, Option.bind_some, if_pos (by omega)]
    simp only [ByteArray.append_assoc, sp_r]
  rw [if_neg c2] at h ⊢
  rw [if_neg c2]
  by_cases c3 : o = 16
  · rw [if_pos c3] at h ⊢
    rw [if_pos c3]
    simp only [ByteArray.size_append, bsz1]
    rw [if_pos (by omega), f1.1, Option.bind_some, if_pos (by omega)]
    simp only [ByteArray.append_assoc]
  rw [if_neg c3] at h ⊢
  rw [if_neg c3]
  by_cases c4 : o = 17
  · rw [if_pos c4] at h ⊢
    rw [if_pos c4]
    have s1 := dec_eq (a := s) (by omega) (by omega) hk
    rw [z1.1, Option.bind_some, s1.1, f1.1]
    simp only [ByteArray.size_append, bsz1, bsz2, Option.bind_some]
    rw [if_pos (by omega), if_pos (by omega), if_pos (by omega), if_pos (by omega), if_pos (by omega), if_pos (by omega)]
    simp only [ByteArray.append_assoc, sp_r]
  rw [if_neg c4] at h ⊢
  rw [if_neg c4]
  by_cases c5 : o = 18
  · rw [if_pos c5] at h ⊢
    rw [if_pos c5]
    have v1 := valT_size h.2.1
    rw [z1.1, Option.bind_some, sreg_eq h.2.1 hk, f1.1]
    simp only [ByteArray.size_append, bsz1, bsz2, Option.bind_some]
    rw [if_pos (by omega), if_pos (by omega), if_pos (by omega), if_pos (by omega), if_pos (by omega), if_pos (by omega)]
    simp only [ByteArray.append_assoc, sp_r]
  rw [if_neg c5] at h ⊢
  rw [if_neg c5]
  by_cases c6 : o = 19
  · rw [if_pos c6] at h ⊢
    rw [if_pos c6]
    have v1 := callw_size (o := m) (by omega) (by omega)
    rw [calls_eq]
    simp only [ByteArray.size_append, bsz1, Option.bind_some]
    rw [if_pos (by omega), if_pos (by omega), if_pos (by show m < 7; omega), if_pos (by omega)]
    simp only [ByteArray.append_assoc]
  rw [if_neg c6, if_neg c6]
theorem dval_mono (l : List UInt8) : ∀ a, a ≤ dval a l := by
  induction l with
  | nil => intro a; exact Nat.le_refl _
  | cons b l ih =>
    intro a
    refine Nat.le_trans ?_ (ih (a * 10 + (b.toNat - 48)))
    omega
theorem parse_dg (l : List UInt8) (hd : Dg l) : ∀ a, dval a l < 1000000000000000000 → Lib.parseUint10 a l = .ok (dval a l) := by
  induction l with
  | nil => intro a _; rfl
  | cons b l ih =>
    intro a ha
    have hb := hd b List.mem_cons_self
    have hm := dval_mono l (a * 10 + (b.toNat - 48))
    have hv : dval a (b :: l) = dval (a * 10 + (b.toNat - 48)) l := rfl
    rw [Lib.parseUint10, if_pos hb, if_neg (by omega), if_neg (by omega), ih (fun x hx => hd x (List.mem_cons_of_mem _ hx)) _ (by omega), hv]
theorem atoi_dig {n : Int} (h0 : -1000000000000 < n) (h1 : n < 1000000000000) : Lib.atoiAll (dig n).data.toList = .ok n := by
  have e : (dig n).data.toList = Lib.itoa n := by simp [dig]
  rw [e]
  unfold Lib.itoa
  by_cases h : n < 0
  · obtain ⟨hd, hv, c, r, hc, _⟩ := dec_facts n.natAbs
    rw [if_pos h]
    unfold Lib.atoiAll Lib.parseMag
    simp only [show (45 : UInt8).toNat = 45 from rfl, or_true, if_true, not_true_eq_false, false_and, if_false, true_and]
    rw [if_neg (by rw [hc]; simp), parse_dg _ hd 0 (by omega), hv]
    simp only
    rw [if_neg (by omega)]
    congr 1
    omega
  · obtain ⟨hd, hv, c, r, hc, _⟩ := dec_facts n.toNat
    rw [if_neg h]
    have hb := hd c (by rw [hc]; exact List.mem_cons_self)
    have hp := parse_dg _ hd 0 (by omega)
    rw [hv] at hp
    rw [hc] at hp ⊢
    rw [Lib.atoiAll_plain c r (by omega) (by omega)]
    unfold Lib.parseMag
    rw [if_neg (by simp), hp]
    unfold Lib.signless
    simp only
    rw [if_neg (by omega)]
    congr 1
    omega
theorem number_dig {n : Int} (h0 : -1000000000000 < n) (h1 : n < 1000000000000) : impl_number.f (dig n) = some n := by
  have hz := (dec_eq h0 h1 (k := 30) (by decide)).2
  unfold impl_number.f
  rw [if_pos (by omega), atoi_dig h0 h1]
theorem dig_list {n : Int} (h0 : 0 ≤ n) : (dig n).data.toList = Lib.decDigits n.toNat := by
  have e : (dig n).data.toList = Lib.itoa n := by simp [dig]
  rw [e, Lib.itoa, if_neg (by omega)]
theorem num_run (s : ByteArray) (hd : Dg s.data.toList) (hl : s.size ≤ 10) (d : Nat) : ∀ (k p : Nat), p + d = s.size → 2 * d + 2 ≤ k →
    spec_l1Num.l0 k s ((dval 0 (s.data.toList.take p) : Nat) : Int) (p : Int) = spec_l1Num.l0 (k - 2 * d) s ((dval 0 s.data.toList : Nat) : Int) (s.size : Int) := by
  induction d with
  | zero => intro k p hp hk; rw [show p = s.size by omega, size_list, List.take_length]; rfl
  | succ d ih =>
    intro k p hp hk
    obtain ⟨k, rfl⟩ : ∃ m, k = m + 2 := ⟨k - 2, by omega⟩
    have hlt : p < s.data.toList.length := by rw [← size_list]; omega
    have hb := List.getElem?_eq_getElem hlt
    have hv := bt_of hb
    have hdg := hd _ (List.getElem_mem hlt)
    have hs := dval_take hb
    have hlow := dval_lt _ hd p (by omega)
    have hpow : 10 ^ p ≤ 10 ^ 10 := Nat.pow_le_pow_right (by decide) (by omega)
    generalize s.data.toList[p] = b at hb hv hdg hs
    rw [spec_l1Num.l0, if_pos (by omega), if_pos (by omega), hv.1, if_neg (by omega), if_neg (by omega), spec_l1Num.j1, if_neg (by rw [decide_eq_true_eq]; omega), if_pos (by omega), if_pos (by omega), hv.1, w_succ (by omega)]
    rw [wrap64_id (n := ((dval 0 (List.take p s.data.toList) : Nat) : Int) * 10) (by omega) (by omega), show ((b.toNat : Int) - 48) % 256 = ((b.toNat - 48 : Nat) : Int) by omega, wrap64_id (by omega) (by omega)]
    rw [show ((dval 0 (List.take p s.data.toList) : Nat) : Int) * 10 + ((b.toNat - 48 : Nat) : Int) = ((dval 0 (s.data.toList.take (p + 1)) : Nat) : Int) by rw [hs]; omega]
    rw [ih k (p + 1) (by omega) (by omega), show k + 2 - 2 * (d + 1) = k - 2 * d by omega]
theorem num_dig {n : Int} (h0 : 0 ≤ n) (h1 : n < 10000000000) {k : Nat} (hk : 30 ≤ k) : spec_l1Num.f k (dig n) = some n := by
  obtain ⟨hd, hv, c, r, hc, hne, hone⟩ := dec_facts n.toNat
  have hl := dig_list h0
  have hz : (dig n).size ≤ 10 := (dec_at 9 (by decide) 30 n h0 (by omega) (by omega) (by omega)).2
  unfold spec_l1Num.f
  have e := num_run (dig n) (by rw [hl]; exact hd) hz (dig n).size k 0 (by omega) (by omega)
  rw [hl, hv] at e
  have hc0 : (dig n).data.toList[0]? = some c := by rw [hl, hc]; rfl
  have hb0 : bt (dig n) 0 = (c.toNat : Int) ∧ 0 < (dig n).size := bt_of hc0
  have e : spec_l1Num.l0 k (dig n) 0 0 = spec_l1Num.l0 (k - 2 * (dig n).size) (dig n) ((n.toNat : Nat) : Int) ((dig n).size : Int) := e
  rw [e]
  obtain ⟨m, hm⟩ : ∃ m, k - 2 * (dig n).size = m + 2 := ⟨k - 2 * (dig n).size - 2, by omega⟩
  rw [hm, spec_l1Num.l0, if_neg (by omega), if_neg (by omega)]
  by_cases h : ((dig n).size : Int) > 1
  · have h10 : ¬ n.toNat < 10 := fun h' => by
      have hr := hone h'
      have : (dig n).size = 1 := by rw [size_list, hl, hc, hr]; rfl
      omega
    rw [if_pos h, if_pos (by omega), hb0.1, spec_l1Num.j2, if_neg (by have := hne (by omega); simp only [beq_iff_eq]; omega)]
    congr 1; omega
  · rw [if_neg h, spec_l1Num.j2, if_neg (by decide)]
    congr 1; omega
theorem dig_first {n : Int} (h0 : 0 ≤ n) : ∃ c : UInt8, (dig n).data.toList[0]? = some c ∧ 48 ≤ c.toNat ∧ c.toNat ≤ 57 := by
  obtain ⟨hd, _, c, r, hc, _⟩ := dec_facts n.toNat
  have hb := hd c (by rw [hc]; exact List.mem_cons_self)
  exact ⟨c, by rw [dig_list h0, hc]; rfl, hb.1, hb.2⟩
theorem drop_one (c : UInt8) (s : ByteArray) : ((⟨#[c]⟩ : ByteArray) ++ s).extract 1 ((⟨#[c]⟩ : ByteArray) ++ s).size = s := by
  apply ba_of_list
  rw [extract_list, app_list, ByteArray.size_append]
  show List.take (1 + s.size - 1) s.data.toList = _
  rw [List.take_of_length_le (by rw [← size_list]; omega)]
theorem signed_dig {n : Int} (h0 : -1000 < n) (h1 : n < 1000) {k : Nat} (hk : 40 ≤ k) : spec_l1Signed.f k (dig n) = some n := by
  obtain ⟨k, rfl⟩ : ∃ m, k = m + 1 := ⟨k - 1, by omega⟩
  unfold spec_l1Signed.f
  by_cases h : n < 0
  · have hd := dig_neg (n := -n) (by omega)
    rw [Int.neg_neg] at hd
    have hf : (dig n).data.toList[0]? = some 45 := by rw [hd, app_list]; rfl
    have hb : bt (dig n) 0 = 45 ∧ 0 < (dig n).size := bt_of hf
    obtain ⟨c, hc, _⟩ := dig_first (n := -n) (by omega)
    have hz : 1 ≤ (dig (-n)).size := (bt_of hc).2
    have hs : (dig n).size = 1 + (dig (-n)).size := by rw [hd, ByteArray.size_append]; rfl
    rw [if_pos (by omega), if_pos (by omega), hb.1, spec_l1Signed.j0, if_pos (by decide), if_pos (by omega)]
    rw [hd, drop_one, num_dig (by omega) (by omega) (by omega), Option.bind_some, if_neg (by omega), wrap64_id (by omega) (by omega), Int.neg_neg]
  · obtain ⟨c, hc, h2, h3⟩ := dig_first (n := n) (by omega)
    have hb : bt (dig n) 0 = (c.toNat : Int) ∧ 0 < (dig n).size := bt_of hc
    have fin : spec_l1Signed.j0 (k + 1) (dig n) false = some n := by
      rw [spec_l1Signed.j0, if_neg (by decide), num_dig (by omega) (by omega) (by omega), Option.bind_some, if_neg (by omega)]
    by_cases g : ((dig n).size : Int) > 1
    · rw [if_pos g, if_pos (by omega), hb.1, show (((c.toNat : Nat) : Int) == 45) = false by rw [beq_eq_false_iff_ne]; omega]
      exact fin
    · rw [if_neg g]; exact fin
/-- The text of a register. -/
def regT (n : Int) : ByteArray := (⟨#[114]⟩ : ByteArray) ++ dig n
theorem regT_size {n : Int} (h0 : 0 ≤ n) : 2 ≤ (regT n).size ∧ (regT n).size = 1 + (dig n).size := by
  obtain ⟨c, hc, _⟩ := dig_first h0
  have hz : 0 < (dig n).size := (bt_of hc).2
  have e : (regT n).size = 1 + (dig n).size := by unfold regT; rw [ByteArray.size_append]; rfl
  exact ⟨by omega, e⟩
theorem sreg_reg {n : Int} (h0 : 0 ≤ n) (h1 : n ≤ 10) {k : Nat} (hk : 40 ≤ k) : spec_l1ReadReg.f k (regT n) = some (n, 0) := by
  obtain ⟨k, rfl⟩ : ∃ m, k = m + 1 := ⟨k - 1, by omega⟩
  have hz := regT_size h0
  have hb : bt (regT n) 0 = 114 ∧ 0 < (regT n).size := bt_of (show (regT n).data.toList[0]? = some 114 by unfold regT; rw [app_list]; rfl)
  unfold spec_l1ReadReg.f
  rw [if_pos (by omega), if_pos (by omega), hb.1, spec_l1ReadReg.j0, if_pos (by decide), if_pos (by omega)]
  unfold regT
  rw [drop_one, num_dig h0 (by omega) (by omega), Option.bind_some, if_neg (by omega)]
theorem sreg_num {n : Int} (h0 : 0 ≤ n) (h1 : n ≤ 4294967295) {k : Nat} (hk : 40 ≤ k) : spec_l1ReadReg.f k (dig n) = some (-1, n) := by
  obtain ⟨k, rfl⟩ : ∃ m, k = m + 1 := ⟨k - 1, by omega⟩
  obtain ⟨c, hc, h2, h3⟩ := dig_first h0
  have hb : bt (dig n) 0 = (c.toNat : Int) ∧ 0 < (dig n).size := bt_of hc
  have fin : spec_l1ReadReg.j0 (k + 1) (dig n) false = some (-1, n) := by
    rw [spec_l1ReadReg.j0, if_neg (by decide), num_dig h0 (by omega) (by omega), Option.bind_some]
  unfold spec_l1ReadReg.f
  by_cases g : ((dig n).size : Int) > 1
  · rw [if_pos g, if_pos (by omega), hb.1, show (((c.toNat : Nat) : Int) == 114) = false by rw [beq_eq_false_iff_ne]; omega]
    exact fin
  · rw [if_neg g]; exact fin
theorem sval {s m : Int} (h : EitherI s m) {k : Nat} (hk : 40 ≤ k) : spec_l1ReadReg.f k (valT s m) = some (s, m) := by
  unfold EitherI at h
  unfold valT
  by_cases e : s = -1
  · rw [if_pos e, sreg_num (by omega) (by omega) hk, e]
  · rw [if_neg e]
    have := sreg_reg (n := s) (by omega) (by omega) hk
    rw [show m = 0 by omega]
    exact this
theorem prefix_r (s : ByteArray) {c : UInt8} (hc : s.data.toList[0]? = some c) : stringslite_HasPrefix.f s ⟨#[114]⟩ = some (c == 114) := by
  have hz := (bt_of hc).2
  have one : (⟨#[114]⟩ : ByteArray).size = 1 := rfl
  unfold stringslite_HasPrefix.f
  rw [one, if_pos (by omega), if_pos (by omega), if_pos (by omega)]
  congr 1
  rw [ByteArray.toList_eq, ByteArray.toList_eq, extract_list]
  show (List.take 1 (List.drop 0 s.data.toList) == [114]) = _
  cases hl : s.data.toList with
  | nil => rw [hl] at hc; cases hc
  | cons b r =>
    rw [hl] at hc
    obtain rfl : b = c := by simpa using hc
    simp
theorem regT_first (n : Int) : (regT n).data.toList[0]? = some 114 := by unfold regT; rw [app_list]; rfl
theorem ireg_reg {n : Int} (h0 : 0 ≤ n) (h1 : n ≤ 10) : impl_readReg.f (regT n) = some n := by
  have hz := regT_size h0
  have one : (⟨#[114]⟩ : ByteArray).size = 1 := rfl
  unfold impl_readReg.f strings_CutPrefix.f stringslite_CutPrefix.f
  rw [prefix_r _ (regT_first n), Option.bind_some, if_pos (by decide), one, if_pos (by omega), if_pos (by omega), Option.bind_some, Option.bind_some]
  simp only [if_true]
  have e : (regT n).extract (((1 : Nat) : Int)).toNat (regT n).size = dig n := drop_one 114 (dig n)
  rw [e, number_dig (by omega) (by omega), Option.bind_some]
theorem setv {o d f z s m : Int} (h : EitherI s m) : impl_Ins_setValue.f o d (-1) f 0 z (valT s m) = some (o, d, s, f, m, z) := by
  unfold EitherI at h
  unfold valT impl_Ins_setValue.f strings_HasPrefix.f
  by_cases e : s = -1
  · obtain ⟨c, hc, h2, h3⟩ := dig_first (n := m) (by omega)
    rw [if_pos e, prefix_r _ hc, Option.bind_some, Option.bind_some, show (c == 114) = false by rw [beq_eq_false_iff_ne]; intro e'; rw [e'] at h3; exact absurd h3 (by decide), if_neg (by decide), number_dig (by omega) (by omega), Option.bind_some, e]
  · rw [if_neg e]
    have h1 := prefix_r _ (regT_first s)
    have h2 := ireg_reg (n := s) (by omega) (by omega)
    unfold regT at h1 h2
    rw [h1, Option.bind_some, Option.bind_some, if_pos (by decide), h2, Option.bind_some, show m = 0 by omega]
theorem toList_ne {a b : ByteArray} (h : a ≠ b) : ¬ a.toList = b.toList := fun e => h (ba_of_list (by rw [← ByteArray.toList_eq, ← ByteArray.toList_eq]; exact e))
theorem idx_from (L : List ByteArray) (w : ByteArray) (i : Nat) (hi : i < L.length) (hl : L.length ≤ 100) (he : rdOf ByteArray.empty L (i : Int) = w) (hn : ∀ j : Nat, j < i → rdOf ByteArray.empty L (j : Int) ≠ w) (d : Nat) : ∀ k p : Nat, p + d = i → d + 1 ≤ k →
    slices_Index_string_string.l0 k L w (L.length : Int) (p : Int) = some (i : Int) := by
  induction d with
  | zero =>
    intro k p hp hk
    obtain ⟨k, rfl⟩ : ∃ m, k = m + 1 := ⟨k - 1, by omega⟩
    obtain rfl : p = i := by omega
    rw [slices_Index_string_string.l0, if_pos (by omega), if_pos (by omega), if_pos (by omega), if_pos (by rw [he])]
  | succ d ih =>
    intro k p hp hk
    obtain ⟨k, rfl⟩ : ∃ m, k = m + 1 := ⟨k - 1, by omega⟩
    rw [slices_Index_string_string.l0, if_pos (by omega), if_pos (by omega), if_pos (by omega), if_neg (toList_ne (fun e => hn p (by omega) e.symm)), w_succ (by omega)]
    exact ih k (p + 1) (by omega) (by omega)
theorem find_from (L : List ByteArray) (w : ByteArray) (i : Nat) (hi : i < L.length) (hl : L.length ≤ 100) (he : rdOf ByteArray.empty L (i : Int) = w) (hn : ∀ j : Nat, j < i → rdOf ByteArray.empty L (j : Int) ≠ w) (d : Nat) : ∀ k p : Nat, p + d = i → d + 1 ≤ k →
    spec_l1Find.l0 k L w (p : Int) = some (i : Int) := by
  induction d with
  | zero =>
    intro k p hp hk
    obtain ⟨k, rfl⟩ : ∃ m, k = m + 1 := ⟨k - 1, by omega⟩
    obtain rfl : p = i := by omega
    rw [spec_l1Find.l0, if_pos (by omega), if_pos (by omega), if_pos (by rw [he])]
  | succ d ih =>
    intro k p hp hk
    obtain ⟨k, rfl⟩ : ∃ m, k = m + 1 := ⟨k - 1, by omega⟩
    rw [spec_l1Find.l0, if_pos (by omega), if_pos (by omega), if_neg (toList_ne (hn p (by omega))), w_succ (by omega)]
    exact ih k (p + 1) (by omega) (by omega)
theorem find_none (L : List ByteArray) (w : ByteArray) (hl : L.length ≤ 100) (hn : ∀ j : Nat, j < L.length → rdOf ByteArray.empty L (j : Int) ≠ w) (d : Nat) : ∀ k p : Nat, p + d = L.length → d + 1 ≤ k →
    spec_l1Find.l0 k L w (p : Int) = some (-1) := by
  induction d with
  | zero =>
    intro k p hp hk
    obtain ⟨k, rfl⟩ : ∃ m, k = m + 1 := ⟨k - 1, by omega⟩
    rw [spec_l1Find.l0, if_neg (by omega)]
  | succ d ih =>
    intro k p hp hk
    obtain ⟨k, rfl⟩ : ∃ m, k = m + 1 := ⟨k - 1, by omega⟩
    rw [spec_l1Find.l0, if_pos (by omega), if_pos (by omega), if_neg (toList_ne (hn p (by omega))), w_succ (by omega)]
    exact ih k (p + 1) (by omega) (by omega)
/-- The word of an op. -/
def opT (o : Int) : ByteArray := rdOf ByteArray.empty impl_opWords.L o
theorem opT_new : ∀ i : Nat, i < 21 → ∀ j : Nat, j < i → rdOf ByteArray.empty impl_opWords.L (j : Int) ≠ rdOf ByteArray.empty impl_opWords.L (i : Int) := by decide
theorem callT_new : ∀ i : Nat, i < 7 → ∀ j : Nat, j < i → rdOf ByteArray.empty impl_callWords.L (j : Int) ≠ rdOf ByteArray.empty impl_callWords.L (i : Int) := by decide
theorem op_find {o : Int} (h0 : 0 ≤ o) (h1 : o < 21) {k : Nat} (hk : 30 ≤ k) : slices_Index_string_string.f k impl_opWords.L (opT o) = some o ∧ spec_l1Find.f k impl_opWords.L (opT o) = some o := by
  obtain ⟨i, rfl⟩ := Int.eq_ofNat_of_zero_le h0
  have hi : i < 21 := by omega
  have hl : i < impl_opWords.L.length := hi
  exact ⟨idx_from impl_opWords.L _ i hl (by decide) rfl (opT_new i hi) i k 0 (by omega) (by omega), find_from impl_opWords.L _ i hl (by decide) rfl (opT_new i hi) i k 0 (by omega) (by omega)⟩
theorem call_find {o : Int} (h0 : 0 ≤ o) (h1 : o < 7) {k : Nat} (hk : 30 ≤ k) : slices_Index_string_string.f k impl_callWords.L (rdOf ByteArray.empty impl_callWords.L o) = some o ∧ spec_l1Find.f k impl_callWords.L (rdOf ByteArray.empty impl_callWords.L o) = some o := by
  obtain ⟨i, rfl⟩ := Int.eq_ofNat_of_zero_le h0
  have hi : i < 7 := by omega
  have hl : i < impl_callWords.L.length := hi
  exact ⟨idx_from impl_callWords.L _ i hl (by decide) rfl (callT_new i hi) i k 0 (by omega) (by omega), find_from impl_callWords.L _ i hl (by decide) rfl (callT_new i hi) i k 0 (by omega) (by omega)⟩
theorem dig1 : dig 1 = ⟨#[49]⟩ := by rw [dig_small (by decide) (by decide), wrap64_id (by decide) (by decide)]; rfl
theorem dig2 : dig 2 = ⟨#[50]⟩ := by rw [dig_small (by decide) (by decide), wrap64_id (by decide) (by decide)]; rfl
theorem dig4 : dig 4 = ⟨#[52]⟩ := by rw [dig_small (by decide) (by decide), wrap64_id (by decide) (by decide)]; rfl
/-- How a text with a size begins. -/
def loadT : ByteArray := ⟨#[108, 111, 97, 100]⟩
def storeT : ByteArray := ⟨#[115, 116, 111, 114, 101]⟩
def plainHead (w : ByteArray) : Prop := 2 ≤ w.size ∧ w.size ≤ 5 ∧ 97 ≤ bt w ((w.size : Int) - 1) ∧ w ≠ loadT ++ ⟨#[49]⟩ ∧ w ≠ loadT ++ ⟨#[50]⟩ ∧ w ≠ loadT ++ ⟨#[52]⟩ ∧ w ≠ storeT ++ ⟨#[49]⟩ ∧ w ≠ storeT ++ ⟨#[50]⟩ ∧ w ≠ storeT ++ ⟨#[52]⟩
instance plainHead_dec (w : ByteArray) : Decidable (plainHead w) := by unfold plainHead; exact inferInstance
theorem head_plain : ∀ i : Nat, i < 21 → i ≠ 0 → plainHead (rdOf ByteArray.empty impl_opWords.L (i : Int)) := by decide
def sizedHead (w b : ByteArray) (z : Int) : Prop := 5 ≤ w.size ∧ w.size ≤ 6 ∧ bt w ((w.size : Int) - 1) = 48 + z ∧ w.extract 0 (w.size - 1) = b ∧ ∀ j : Nat, j < 21 → rdOf ByteArray.empty impl_opWords.L (j : Int) ≠ w
instance sizedHead_dec (w b : ByteArray) (z : Int) : Decidable (sizedHead w b z) := by unfold sizedHead; exact inferInstance
theorem heads : sizedHead (loadT ++ ⟨#[49]⟩) (opT 17) 1 ∧ sizedHead (loadT ++ ⟨#[50]⟩) (opT 17) 2 ∧ sizedHead (loadT ++ ⟨#[52]⟩) (opT 17) 4 ∧ sizedHead (storeT ++ ⟨#[49]⟩) (opT 18) 1 ∧ sizedHead (storeT ++ ⟨#[50]⟩) (opT 18) 2 ∧ sizedHead (storeT ++ ⟨#[52]⟩) (opT 18) 4 := by decide
def headT (o z : Int) : ByteArray := if o = 17 ∨ o = 18 then opT o ++ dig z else opT o
def tailT (o d s f m : Int) : List ByteArray :=
  if 1 ≤ o ∧ o ≤ 11 then [regT d, valT s m]
  else if 12 ≤ o ∧ o ≤ 15 then [regT d, valT s m, dig f]
  else if o = 16 then [dig f]
  else if o = 17 then [regT d, regT s, dig f]
  else if o = 18 then [regT d, dig f, valT s m]
  else if o = 19 then [rdOf ByteArray.empty impl_callWords.L m]
  else []
theorem lineT_join (o d s f m z : Int) : lineT o d s f m z = joinW (headT o z :: tailT o d s f m) := by
  unfold lineT headT tailT
  by_cases c1 : 1 ≤ o ∧ o ≤ 11
  · simp only [if_pos c1]; rw [if_neg (by omega)]; rfl
  simp only [if_neg c1]
  by_cases c2 : 12 ≤ o ∧ o ≤ 15
  · simp only [if_pos c2]; rw [if_neg (by omega)]; rfl
  simp only [if_neg c2]
  by_cases c3 : o = 16
  · simp only [if_pos c3]; rw [if_neg (by omega)]; rfl
  simp only [if_neg c3]
  by_cases c4 : o = 17
  · simp only [if_pos c4]; rw [if_pos (by omega)]
    exact (ByteArray.append_assoc (a := opT o) (b := dig z)).symm
  simp only [if_neg c4]
  by_cases c5 : o = 18
  · simp only [if_pos c5]; rw [if_pos (by omega)]
    exact (ByteArray.append_assoc (a := opT o) (b := dig z)).symm
  simp only [if_neg c5]
  by_cases c6 : o = 19
  · simp only [if_pos c6]; rw [if_neg (by omega)]; rfl
  simp only [if_neg c6]
  rw [if_neg (by omega)]; rfl
instance NoSp_dec (l : List UInt8) : Decidable (NoSp l) := by unfold NoSp; exact inferInstance
theorem NoSp.app {a b : ByteArray} (ha : NoSp a.data.toList) (hb : NoSp b.data.toList) : NoSp (a ++ b).data.toList := by
  rw [app_list]
  intro x hx
  rcases List.mem_append.1 hx with h | h
  · exact ha x h
  · exact hb x h
theorem op_nosp : ∀ i : Nat, i < 21 → NoSp (rdOf ByteArray.empty impl_opWords.L (i : Int)).data.toList := by decide
theorem call_nosp : ∀ i : Nat, i < 7 → NoSp (rdOf ByteArray.empty impl_callWords.L (i : Int)).data.toList := by decide
theorem dig_nosp (n : Int) : NoSp (dig n).data.toList := by
  have e : (dig n).data.toList = Lib.itoa n := by simp [dig]
  rw [e, Lib.itoa]
  have hd : ∀ u, NoSp (Lib.decDigits u) := fun u b hb h => by
    have := ((dec_facts u).1 b hb).1
    rw [h] at this
    exact absurd this (by decide)
  split
  · intro b hb
    rcases List.mem_cons.1 hb with rfl | h
    · decide
    · exact hd _ b h
  · exact hd _
theorem reg_nosp (n : Int) : NoSp (regT n).data.toList := NoSp.app (by decide) (dig_nosp n)
theorem val_nosp (s m : Int) : NoSp (valT s m).data.toList := by
  unfold valT
  split
  · exact dig_nosp m
  · exact reg_nosp s
theorem words_nosp {o d s f m z : Int} (h : InsI o d s f m z) : ∀ x ∈ headT o z :: tailT o d s f m, NoSp x.data.toList := by
  have hr := h.range
  have ho : NoSp (opT o).data.toList := by
    obtain ⟨i, rfl⟩ := Int.eq_ofNat_of_zero_le (show 0 ≤ o by omega)
    exact op_nosp i (by omega)
  have hm : o = 19 → NoSp (rdOf ByteArray.empty impl_callWords.L m).data.toList := fun e => by
    unfold InsI at h
    rw [if_neg (by omega), if_neg (by omega), if_neg (by omega), if_neg (by omega), if_neg (by omega), if_pos e] at h
    obtain ⟨i, rfl⟩ := Int.eq_ofNat_of_zero_le (show 0 ≤ m by omega)
    exact call_nosp i (by omega)
  intro x hx
  rcases List.mem_cons.1 hx with rfl | hx
  · unfold headT
    split
    · exact NoSp.app ho (dig_nosp z)
    · exact ho
  · unfold tailT at hx
    repeat' split at hx
    all_goals simp only [List.mem_cons, List.not_mem_nil, or_false] at hx
    all_goals first | (rcases hx with rfl | rfl | rfl) | (rcases hx with rfl | rfl) | skip
    all_goals first | exact reg_nosp _ | exact val_nosp _ _ | exact dig_nosp _ | (rw [hx]; exact dig_nosp _) | exact hm ‹_› | (rw [hx]; exact hm ‹_›) | exact absurd hx (by simp)
theorem tail_len (o d s f m : Int) : (tailT o d s f m).length < 5 := by
  unfold tailT
  repeat' split
  all_goals simp
theorem alu_eq (o : Int) : spec_l1Alu.f o = some (decide (1 ≤ o ∧ o ≤ 11)) := by unfold spec_l1Alu.f; rw [l1In_eq, Option.bind_some]
theorem jump_eq (o : Int) : spec_l1Jump.f o = some (decide (12 ≤ o ∧ o ≤ 15)) := by unfold spec_l1Jump.f; rw [l1In_eq, Option.bind_some]
theorem read_miss {ws : List ByteArray} {x : Int} {D : ByteArray} {k : Nat} (hl : 0 < (ws.length : Int)) (hx : 1 ≤ x ∧ x ≤ 4) (hD : dig x = D) (hk : 30 ≤ k) (h1 : rdOf ByteArray.empty ws 0 ≠ loadT ++ D) (h2 : rdOf ByteArray.empty ws 0 ≠ storeT ++ D) (a b c d e f : Int) :
    spec_l1Read.l0 (k + 2) ws x a b c d e f = spec_l1Read.l0 k ws (x * 2) a b c d e f := by
  have hd := dec_eq (a := x) (by omega) (by omega) (k := k + 1) (by omega)
  rw [hD] at hd
  rw [show k + 2 = k + 1 + 1 from rfl, spec_l1Read.l0, if_pos (by omega), if_pos hl, hd.1, Option.bind_some, if_pos (by omega), if_neg (show ¬ (rdOf ByteArray.empty ws 0).toList = ((⟨#[108, 111, 97, 100]⟩ : ByteArray) ++ D).toList from toList_ne h1), Option.bind_some, if_pos (by omega),
    show ((rdOf ByteArray.empty ws 0).toList == ((⟨#[115, 116, 111, 114, 101]⟩ : ByteArray) ++ D).toList) = false from beq_eq_false_iff_ne.2 (toList_ne h2), spec_l1Read.j1, if_neg (by decide), wrap64_id (by omega) (by omega)]
theorem read_hit {ws : List ByteArray} {x o : Int} {D : ByteArray} {k : Nat} (hl : 0 < (ws.length : Int)) (hx : 1 ≤ x ∧ x ≤ 4) (hD : dig x = D) (hk : 30 ≤ k) (ho : 0 ≤ o ∧ o < 21) (h : rdOf ByteArray.empty ws 0 = loadT ++ D ∨ rdOf ByteArray.empty ws 0 = storeT ++ D) (hs : sizedHead (rdOf ByteArray.empty ws 0) (opT o) x) (a b c d e f : Int) :
    spec_l1Read.l0 (k + 2) ws x a b c d e f = spec_l1Read.l0 k ws (x * 2) o b c d e x := by
  have hd := dec_eq (a := x) (by omega) (by omega) (k := k + 1) (by omega)
  rw [hD] at hd
  obtain ⟨s1, s2, s3, s4, _⟩ := hs
  have hf := (op_find ho.1 ho.2 hk).2
  have fin : spec_l1Read.j1 (k + 1) ws x true a b c d e f = spec_l1Read.l0 k ws (x * 2) o b c d e x := by
    rw [spec_l1Read.j1, if_pos rfl, words_eq, Option.bind_some, if_pos hl, wrap64_id (n := ((rdOf ByteArray.empty ws 0).size : Int) - 1) (by omega) (by omega), if_pos (by omega), if_pos (by omega),
      show (((rdOf ByteArray.empty ws 0).size : Int) - 1).toNat = (rdOf ByteArray.empty ws 0).size - 1 by omega, s4, hf, Option.bind_some, wrap64_id (by omega) (by omega)]
  rw [show k + 2 = k + 1 + 1 from rfl, spec_l1Read.l0, if_pos (by omega), if_pos hl, hd.1, Option.bind_some, if_pos (by omega)]
  by_cases g : rdOf ByteArray.empty ws 0 = loadT ++ D
  · rw [if_pos (by rw [g]; rfl)]
    exact fin
  · have g2 := h.resolve_left g
    rw [if_neg (show ¬ (rdOf ByteArray.empty ws 0).toList = ((⟨#[108, 111, 97, 100]⟩ : ByteArray) ++ D).toList from toList_ne g), Option.bind_some, if_pos (by omega), show ((rdOf ByteArray.empty ws 0).toList == ((⟨#[115, 116, 111, 114, 101]⟩ : ByteArray) ++ D).toList) = true by rw [g2]; exact beq_self_eq_true _]
    exact fin
theorem load_ne_store : ∀ a b : UInt8, loadT ++ (⟨#[a]⟩ : ByteArray) ≠ storeT ++ ⟨#[b]⟩ := fun a b h => by
  have := congrArg ByteArray.size h
  exact absurd this (by show ¬ (5 = 6); decide)
theorem app_one_ne (t : ByteArray) {a b : UInt8} (h : a ≠ b) : t ++ (⟨#[a]⟩ : ByteArray) ≠ t ++ ⟨#[b]⟩ := fun e => by
  have := congrArg (fun x => x.data.toList) e
  simp only [app_list] at this
  have := List.append_cancel_left this
  exact h (by simpa using this)
theorem read_plain {ws : List ByteArray} {o : Int} {k : Nat} (hl : 0 < (ws.length : Int)) (hk : 30 ≤ k) (ho : 0 ≤ o ∧ o < 21) (hw : rdOf ByteArray.empty ws 0 = opT o) (hp : plainHead (opT o)) :
    spec_l1Read.f (k + 6) ws = spec_l1Read.l0 k ws 8 o 0 (-1) 0 0 0 := by
  obtain ⟨_, _, _, h1, h2, h3, h4, h5, h6⟩ := hp
  unfold spec_l1Read.f
  rw [words_eq, Option.bind_some, if_pos hl, hw, (op_find ho.1 ho.2 (by omega)).2, Option.bind_some]
  rw [show k + 6 = k + 4 + 2 from rfl, read_miss hl (by omega) dig1 (by omega) (by rw [hw]; exact h1) (by rw [hw]; exact h4)]
  rw [show k + 4 = k + 2 + 2 from rfl, show (1 : Int) * 2 = 2 from rfl, read_miss hl (by omega) dig2 (by omega) (by rw [hw]; exact h2) (by rw [hw]; exact h5)]
  rw [show (2 : Int) * 2 = 4 from rfl, read_miss hl (by omega) dig4 hk (by rw [hw]; exact h3) (by rw [hw]; exact h6)]
  rfl
theorem read_sized {ws : List ByteArray} {o z : Int} {k : Nat} {T : ByteArray} (hl : 0 < (ws.length : Int)) (hk : 30 ≤ k) (ho : 0 ≤ o ∧ o < 21) (hT : T = loadT ∨ T = storeT) (hz : SizeI z) (hw : rdOf ByteArray.empty ws 0 = T ++ dig z) (hs : sizedHead (T ++ dig z) (opT o) z) :
    spec_l1Read.f (k + 6) ws = spec_l1Read.l0 k ws 8 o 0 (-1) 0 0 z := by
  have hn := find_none impl_opWords.L (T ++ dig z) (by decide) hs.2.2.2.2 21 (k + 6) 0 (by rfl) (by omega)
  have hn : spec_l1Find.f (k + 6) impl_opWords.L (T ++ dig z) = some (-1) := hn
  unfold spec_l1Read.f
  rw [words_eq, Option.bind_some, if_pos hl, hw, hn, Option.bind_some, show k + 6 = k + 4 + 2 from rfl]
  have ne : ∀ {a b : UInt8}, a ≠ b → T ++ (⟨#[a]⟩ : ByteArray) ≠ loadT ++ ⟨#[b]⟩ ∧ T ++ (⟨#[a]⟩ : ByteArray) ≠ storeT ++ ⟨#[b]⟩ := fun {a b} h => by
    rcases hT with rfl | rfl
    · exact ⟨app_one_ne _ h, load_ne_store _ _⟩
    · exact ⟨fun e => load_ne_store _ _ e.symm, app_one_ne _ h⟩
  have eq : ∀ D : ByteArray, T ++ D = loadT ++ D ∨ T ++ D = storeT ++ D := fun D => by
    rcases hT with rfl | rfl
    · exact Or.inl rfl
    · exact Or.inr rfl
  rcases hz with rfl | rfl | rfl
  · rw [dig1] at hw hs
    rw [read_hit hl (by omega) dig1 (by omega) ho (by rw [hw]; exact eq _) (by rw [hw]; exact hs)]
    rw [show k + 4 = k + 2 + 2 from rfl, show (1 : Int) * 2 = 2 from rfl, read_miss hl (by omega) dig2 (by omega) (by rw [hw]; exact (ne (by decide)).1) (by rw [hw]; exact (ne (by decide)).2)]
    rw [show (2 : Int) * 2 = 4 from rfl, read_miss hl (by omega) dig4 hk (by rw [hw]; exact (ne (by decide)).1) (by rw [hw]; exact (ne (by decide)).2)]
    rfl
  · rw [dig2] at hw hs
    rw [read_miss hl (by omega) dig1 (by omega) (by rw [hw]; exact (ne (by decide)).1) (by rw [hw]; exact (ne (by decide)).2)]
    rw [show k + 4 = k + 2 + 2 from rfl, show (1 : Int) * 2 = 2 from rfl, read_hit hl (by omega) dig2 (by omega) ho (by rw [hw]; exact eq _) (by rw [hw]; exact hs)]
    rw [show (2 : Int) * 2 = 4 from rfl, read_miss hl (by omega) dig4 hk (by rw [hw]; exact (ne (by decide)).1) (by rw [hw]; exact (ne (by decide)).2)]
    rfl
  · rw [dig4] at hw hs
    rw [read_miss hl (by omega) dig1 (by omega) (by rw [hw]; exact (ne (by decide)).1) (by rw [hw]; exact (ne (by decide)).2)]
    rw [show k + 4 = k + 2 + 2 from rfl, show (1 : Int) * 2 = 2 from rfl, read_miss hl (by omega) dig2 (by omega) (by rw [hw]; exact (ne (by decide)).1) (by rw [hw]; exact (ne (by decide)).2)]
    rw [show (2 : Int) * 2 = 4 from rfl, read_hit hl (by omega) dig4 hk ho (by rw [hw]; exact eq _) (by rw [hw]; exact hs)]
    rfl
theorem sized_of {o z : Int} (ho : o = 17 ∨ o = 18) (hz : SizeI z) : sizedHead (opT o ++ dig z) (opT o) z := by
  obtain ⟨h1, h2, h3, h4, h5, h6⟩ := heads
  rcases ho with rfl | rfl <;> rcases hz with rfl | rfl | rfl
  · rw [dig1]; exact h1
  · rw [dig2]; exact h2
  · rw [dig4]; exact h3
  · rw [dig1]; exact h4
  · rw [dig2]; exact h5
  · rw [dig4]; exact h6
theorem plain_of {o : Int} (h0 : 1 ≤ o) (h1 : o < 21) : plainHead (opT o) := by
  obtain ⟨i, rfl⟩ := Int.eq_ofNat_of_zero_le (show 0 ≤ o by omega)
  exact head_plain i (by omega) (by omega)
theorem sread_head {o d s f m z : Int} (h : InsI o d s f m z) {k : Nat} (hk : 30 ≤ k) : spec_l1Read.f (k + 6) (headT o z :: tailT o d s f m) = spec_l1Read.l0 k (headT o z :: tailT o d s f m) 8 o 0 (-1) 0 0 z := by
  have hr := h.range
  have hl : 0 < ((headT o z :: tailT o d s f m).length : Int) := by simp only [List.length_cons]; omega
  by_cases c : o = 17 ∨ o = 18
  · have hz : SizeI z := by
      unfold InsI at h
      rw [if_neg (by omega), if_neg (by omega), if_neg (by omega)] at h
      split at h
      · exact h.2.2.2.2
      · rw [if_pos (by omega)] at h; exact h.2.2.2
    have hw : rdOf ByteArray.empty (headT o z :: tailT o d s f m) 0 = opT o ++ dig z := by show headT o z = _; rw [headT, if_pos c]
    exact read_sized (T := opT o) hl hk (by omega) (by rcases c with rfl | rfl; exact Or.inl rfl; exact Or.inr rfl) hz hw (sized_of c hz)
  · have hz : z = 0 := by
      unfold InsI at h
      repeat' split at h
      all_goals omega
    have hw : rdOf ByteArray.empty (headT o z :: tailT o d s f m) 0 = opT o := by show headT o z = _; rw [headT, if_neg c]
    rw [read_plain hl hk (by omega) hw (plain_of (by omega) (by omega)), hz]
theorem sread_eq {o d s f m z : Int} (h : InsI o d s f m z) {k : Nat} (hk : 100 ≤ k) : spec_l1Read.f k (headT o z :: tailT o d s f m) = some (o, d, s, f, m, z) := by
  obtain ⟨k, rfl⟩ : ∃ q, k = q + 50 + 6 := ⟨k - 56, by omega⟩
  rw [sread_head h (by omega), show k + 50 = k + 44 + 1 + 1 + 1 + 1 + 1 + 1 from rfl, spec_l1Read.l0, if_neg (by simp), alu_eq, Option.bind_some]
  simp only [jump_eq, Option.bind_some, decide_eq_true_eq]
  have hr := h.range
  generalize headT o z = w
  unfold tailT
  unfold InsI at h
  by_cases c1 : 1 ≤ o ∧ o ≤ 11
  · rw [if_pos c1] at h
    simp only [if_pos c1]
    rw [if_pos (by rfl), spec_l1Read.j2, if_pos rfl, if_pos (by simp), show rdOf ByteArray.empty [w, regT d, valT s m] 1 = regT d from rfl, show rdOf ByteArray.empty [w, regT d, valT s m] 2 = valT s m from rfl, sreg_reg h.1.1 h.1.2 (by omega), Option.bind_some, if_pos (by simp), sval h.2.1 (by omega), Option.bind_some, if_neg (by simp), h.2.2.1]
  simp only [if_neg c1] at h ⊢
  by_cases c2 : 12 ≤ o ∧ o ≤ 15
  · rw [if_pos c2] at h
    simp only [if_pos c2]
    rw [show (((([w, regT d, valT s m, dig f] : List ByteArray).length : Int)) == 4) = true from rfl, spec_l1Read.j2, if_pos rfl, if_pos (by simp), show rdOf ByteArray.empty [w, regT d, valT s m, dig f] 1 = regT d from rfl, show rdOf ByteArray.empty [w, regT d, valT s m, dig f] 2 = valT s m from rfl, show rdOf ByteArray.empty [w, regT d, valT s m, dig f] 3 = dig f from rfl, sreg_reg h.1.1 h.1.2 (by omega), Option.bind_some, if_pos (by simp), sval h.2.1 (by omega), Option.bind_some, if_pos (by simp), if_pos (by simp), signed_dig (by omega) (by omega) (by omega), Option.bind_some]
  simp only [if_neg c2] at h ⊢
  rw [spec_l1Read.j2, if_neg (by simp)]
  by_cases c3 : o = 16
  · rw [if_pos c3] at h
    simp only [if_pos c3]
    rw [show (((([w, dig f] : List ByteArray).length : Int)) == 2) = true from rfl, spec_l1Read.j3, if_pos rfl, if_pos (by simp), show rdOf ByteArray.empty [w, dig f] 1 = dig f from rfl, signed_dig (by omega) (by omega) (by omega), Option.bind_some, h.2.1, h.2.2.1, h.2.2.2.1]
  simp only [if_neg c3] at h ⊢
  rw [spec_l1Read.j3, if_neg (by simp)]
  by_cases c4 : o = 17
  · rw [if_pos c4] at h
    simp only [if_pos c4]
    rw [show (((([w, regT d, regT s, dig f] : List ByteArray).length : Int)) == 4) = true from rfl, spec_l1Read.j4, if_pos rfl, if_pos (by simp), show rdOf ByteArray.empty [w, regT d, regT s, dig f] 1 = regT d from rfl, show rdOf ByteArray.empty [w, regT d, regT s, dig f] 2 = regT s from rfl, show rdOf ByteArray.empty [w, regT d, regT s, dig f] 3 = dig f from rfl, sreg_reg h.1.1 h.1.2 (by omega), Option.bind_some, if_pos (by simp), sreg_reg h.2.1.1 h.2.1.2 (by omega), Option.bind_some, if_pos (by simp), signed_dig (by omega) (by omega) (by omega), Option.bind_some, h.2.2.1]
  simp only [if_neg c4] at h ⊢
  rw [spec_l1Read.j4, if_neg (by simp)]
  by_cases c5 : o = 18
  · rw [if_pos c5] at h
    simp only [if_pos c5]
    rw [show (((([w, regT d, dig f, valT s m] : List ByteArray).length : Int)) == 4) = true from rfl, spec_l1Read.j5, if_pos rfl, if_pos (by simp), show rdOf ByteArray.empty [w, regT d, dig f, valT s m] 1 = regT d from rfl, show rdOf ByteArray.empty [w, regT d, dig f, valT s m] 3 = valT s m from rfl, show rdOf ByteArray.empty [w, regT d, dig f, valT s m] 2 = dig f from rfl, sreg_reg h.1.1 h.1.2 (by omega), Option.bind_some, if_pos (by simp), sval h.2.1 (by omega), Option.bind_some, if_pos (by simp), signed_dig (by omega) (by omega) (by omega), Option.bind_some]
  simp only [if_neg c5] at h ⊢
  rw [spec_l1Read.j5, if_neg (by simp)]
  by_cases c6 : o = 19
  · rw [if_pos c6] at h
    simp only [if_pos c6]
    rw [show (((([w, rdOf ByteArray.empty impl_callWords.L m] : List ByteArray).length : Int)) == 2) = true from rfl, spec_l1Read.j6, if_pos rfl, calls_eq, Option.bind_some, if_pos (by simp), show rdOf ByteArray.empty [w, rdOf ByteArray.empty impl_callWords.L m] 1 = rdOf ByteArray.empty impl_callWords.L m from rfl, (call_find (by omega) (by omega) (by omega)).2, Option.bind_some, h.2.1, h.2.2.1, h.2.2.2.1, h.2.2.2.2]
  simp only [if_neg c6] at h ⊢
  rw [spec_l1Read.j6, if_neg (by simp), h.2.1, h.2.2.1, h.2.2.2.1, h.2.2.2.2.1, h.2.2.2.2.2]
theorem mx_pos {o : Int} (h : 0 ≤ o) : mx o 0 = o := by unfold mx; split <;> omega
theorem iread_head {o z : Int} {ws : List ByteArray} {w : ByteArray} (hl : 0 < (ws.length : Int)) (hw : rdOf ByteArray.empty ws 0 = w) (ho : 0 ≤ o ∧ o < 21) (h : (w = opT o ∧ plainHead w ∧ z = 0) ∨ (sizedHead w (opT o) z ∧ SizeI z)) {k : Nat} (hk : 30 ≤ k) :
    impl_readIns.f (k + 2) ws = impl_readIns.j2 k ws o o (ws.length : Int) (decide (1 ≤ o ∧ o ≤ 11) && ((ws.length : Int) == 3)) o 0 (-1) 0 0 z := by
  have fin : impl_readIns.j1 (k + 1) ws (opT o) z = impl_readIns.j2 k ws o o (ws.length : Int) (decide (1 ≤ o ∧ o ≤ 11) && ((ws.length : Int) == 3)) o 0 (-1) 0 0 z := by
    rw [impl_readIns.j1, (op_find ho.1 ho.2 hk).1, Option.bind_some, mx_pos ho.1, reckons_eq, Option.bind_some]
    by_cases c : 1 ≤ o ∧ o ≤ 11
    · rw [decide_eq_true c, if_pos rfl, Bool.true_and]
    · rw [decide_eq_false c, if_neg (by decide), Bool.false_and]
  unfold impl_readIns.f
  rw [if_pos hl, hw]
  rcases h with ⟨e, hp, rfl⟩ | ⟨hs, hz⟩
  · obtain ⟨h1, h2, h3, _⟩ := hp
    rw [if_pos (by omega), wrap64_id (n := (w.size : Int) - 1) (by omega) (by omega), if_pos (by omega), if_pos (by omega), if_pos (by omega), show k + 2 = k + 1 + 1 from rfl, impl_readIns.j0, if_neg (by rw [decide_eq_true_eq]; omega), e]
    exact fin
  · obtain ⟨h1, h2, h3, h4, _⟩ := hs
    unfold SizeI at hz
    rw [if_pos (by omega), wrap64_id (n := (w.size : Int) - 1) (by omega) (by omega), if_pos (by omega), if_pos (by omega), if_pos (by omega), show k + 2 = k + 1 + 1 from rfl, impl_readIns.j0, if_pos (by rw [decide_eq_true_eq]; omega),
      wrap64_id (n := (w.size : Int) - 1) (by omega) (by omega), if_pos (by omega), if_pos (by omega), if_pos (by omega), show ((w.size : Int) - 1).toNat = w.size - 1 by omega, h4, h3, show ((48 : Int) + z - 48) % 256 = z by omega]
    exact fin
theorem iread_eq {o d s f m z : Int} (h : InsI o d s f m z) {k : Nat} (hk : 100 ≤ k) : impl_readIns.f k (headT o z :: tailT o d s f m) = some (o, d, s, f, m, z, true) := by
  obtain ⟨k, rfl⟩ : ∃ q, k = q + 1 + 1 + 1 + 1 + 1 + 1 + 2 := ⟨k - 8, by omega⟩
  have hr := h.range
  have hl : 0 < ((headT o z :: tailT o d s f m).length : Int) := by simp only [List.length_cons]; omega
  have hh : (headT o z = opT o ∧ plainHead (headT o z) ∧ z = 0) ∨ (sizedHead (headT o z) (opT o) z ∧ SizeI z) := by
    by_cases c : o = 17 ∨ o = 18
    · have hz : SizeI z := by
        unfold InsI at h
        rw [if_neg (by omega), if_neg (by omega), if_neg (by omega)] at h
        split at h
        · exact h.2.2.2.2
        · rw [if_pos (by omega)] at h; exact h.2.2.2
      rw [show headT o z = opT o ++ dig z by rw [headT, if_pos c]]
      exact Or.inr ⟨sized_of c hz, hz⟩
    · have hz : z = 0 := by
        unfold InsI at h
        repeat' split at h
        all_goals omega
      rw [show headT o z = opT o by rw [headT, if_neg c]]
      exact Or.inl ⟨rfl, plain_of (by omega) (by omega), hz⟩
  rw [iread_head hl rfl (by omega) hh (by omega)]
  generalize headT o z = w
  unfold tailT
  unfold InsI at h
  by_cases c1 : 1 ≤ o ∧ o ≤ 11
  · rw [if_pos c1] at h
    simp only [if_pos c1]
    rw [show (decide (1 ≤ o ∧ o ≤ 11) && ((([w, regT d, valT s m] : List ByteArray).length : Int) == 3)) = true by rw [decide_eq_true c1]; rfl]
    rw [impl_readIns.j2, if_pos rfl, impl_readIns.j3, if_pos rfl, if_pos (by simp), show rdOf ByteArray.empty [w, regT d, valT s m] 1 = regT d from rfl, ireg_reg h.1.1 h.1.2, Option.bind_some, if_pos (by simp), show rdOf ByteArray.empty [w, regT d, valT s m] 2 = valT s m from rfl, setv h.2.1, Option.bind_some, asks_eq, Option.bind_some, if_neg (by rw [decide_eq_true_eq]; omega), h.2.2.1]
  simp only [if_neg c1] at h ⊢
  rw [show ∀ b : Bool, (decide (1 ≤ o ∧ o ≤ 11) && b) = false from fun b => by rw [decide_eq_false c1]; rfl]
  rw [impl_readIns.j2, if_neg (by simp), asks_eq, Option.bind_some]
  simp only [decide_eq_true_eq]
  by_cases c2 : 12 ≤ o ∧ o ≤ 15
  · rw [if_pos c2] at h
    simp only [if_pos c2]
    rw [show (((([w, regT d, valT s m, dig f] : List ByteArray).length : Int)) == 4) = true from rfl, impl_readIns.j3, if_pos rfl, if_pos (by simp), show rdOf ByteArray.empty [w, regT d, valT s m, dig f] 1 = regT d from rfl, ireg_reg h.1.1 h.1.2, Option.bind_some, if_pos (by simp), show rdOf ByteArray.empty [w, regT d, valT s m, dig f] 2 = valT s m from rfl, setv h.2.1, Option.bind_some, asks_eq, Option.bind_some, if_pos (by rw [decide_eq_true_eq]; omega), if_pos (by simp), show rdOf ByteArray.empty [w, regT d, valT s m, dig f] 3 = dig f from rfl, number_dig (by omega) (by omega), Option.bind_some]
  simp only [if_neg c2] at h ⊢
  rw [impl_readIns.j3, if_neg (by simp)]
  by_cases c3 : o = 16
  · rw [if_pos c3] at h
    simp only [if_pos c3]
    rw [show (((([w, dig f] : List ByteArray).length : Int)) == 2) = true from rfl, impl_readIns.j4, if_pos rfl, if_pos (by simp), show rdOf ByteArray.empty [w, dig f] 1 = dig f from rfl, number_dig (by omega) (by omega), Option.bind_some, h.2.1, h.2.2.1, h.2.2.2.1]
  simp only [if_neg c3] at h ⊢
  rw [impl_readIns.j4, if_neg (by simp)]
  by_cases c4 : o = 17
  · rw [if_pos c4] at h
    simp only [if_pos c4]
    rw [show (((([w, regT d, regT s, dig f] : List ByteArray).length : Int)) == 4) = true from rfl, impl_readIns.j5, if_pos rfl, if_pos (by simp), show rdOf ByteArray.empty [w, regT d, regT s, dig f] 1 = regT d from rfl, ireg_reg h.1.1 h.1.2, Option.bind_some, if_pos (by simp), show rdOf ByteArray.empty [w, regT d, regT s, dig f] 2 = regT s from rfl, ireg_reg h.2.1.1 h.2.1.2, Option.bind_some, if_pos (by simp), show rdOf ByteArray.empty [w, regT d, regT s, dig f] 3 = dig f from rfl, number_dig (by omega) (by omega), Option.bind_some, h.2.2.1]
  simp only [if_neg c4] at h ⊢
  rw [impl_readIns.j5, if_neg (by simp)]
  by_cases c5 : o = 18
  · rw [if_pos c5] at h
    simp only [if_pos c5]
    rw [show (((([w, regT d, dig f, valT s m] : List ByteArray).length : Int)) == 4) = true from rfl, impl_readIns.j6, if_pos rfl, if_pos (by simp), show rdOf ByteArray.empty [w, regT d, dig f, valT s m] 1 = regT d from rfl, ireg_reg h.1.1 h.1.2, Option.bind_some, if_pos (by simp), show rdOf ByteArray.empty [w, regT d, dig f, valT s m] 2 = dig f from rfl, number_dig (by omega) (by omega), Option.bind_some, if_pos (by simp), show rdOf ByteArray.empty [w, regT d, dig f, valT s m] 3 = valT s m from rfl, setv h.2.1, Option.bind_some]
  simp only [if_neg c5] at h ⊢
  rw [impl_readIns.j6, if_neg (by simp)]
  by_cases c6 : o = 19
  · rw [if_pos c6] at h
    simp only [if_pos c6]
    rw [show (((([w, rdOf ByteArray.empty impl_callWords.L m] : List ByteArray).length : Int)) == 2) = true from rfl, impl_readIns.j7, if_pos rfl, if_pos (by simp), show rdOf ByteArray.empty [w, rdOf ByteArray.empty impl_callWords.L m] 1 = rdOf ByteArray.empty impl_callWords.L m from rfl, (call_find (by omega) (by omega) (by omega)).1, Option.bind_some, mx_pos (by omega), h.2.1, h.2.2.1, h.2.2.2.1, h.2.2.2.2]
  simp only [if_neg c6] at h ⊢
  rw [impl_readIns.j7, if_neg (by simp), if_pos h.1, if_pos (by simp), h.2.1, h.2.2.1, h.2.2.2.1, h.2.2.2.2.1, h.2.2.2.2.2]
theorem shortB {l : List ByteArray} (ht : Texts l 1048576) {i : Int} (h0 : 0 ≤ i) (h1 : i < (l.length : Int)) : (rdOf ByteArray.empty l i).size ≤ 1048576 := ht _ (rdOf_mem h0 h1)
theorem idx_gives_from (L : List ByteArray) (w : ByteArray) (hl : L.length ≤ 100) (d : Nat) : ∀ k p : Nat, p + d = L.length → d + 1 ≤ k → Gives (slices_Index_string_string.l0 k L w (L.length : Int) (p : Int)) (fun _ => True) := by
  induction d with
  | zero =>
    intro k p hp hk
    obtain ⟨k, rfl⟩ : ∃ m, k = m + 1 := ⟨k - 1, by omega⟩
    rw [slices_Index_string_string.l0, if_neg (by omega)]
    exact Gives.ret trivial
  | succ d ih =>
    intro k p hp hk
    obtain ⟨k, rfl⟩ : ∃ m, k = m + 1 := ⟨k - 1, by omega⟩
    rw [slices_Index_string_string.l0, if_pos (by omega), if_pos (by omega), if_pos (by omega)]
    refine Gives.ite (fun _ => Gives.ret trivial) (fun _ => ?_)
    rw [w_succ (by omega)]
    exact ih k (p + 1) (by omega) (by omega)
theorem idx_gives (L : List ByteArray) (w : ByteArray) (hl : L.length ≤ 100) {k : Nat} (hk : 101 ≤ k) : Gives (slices_Index_string_string.f k L w) (fun _ => True) := idx_gives_from L w hl L.length k 0 (by omega) (by omega)
theorem number_gives {s : ByteArray} (hs : s.size ≤ 1048576) : Gives (impl_number.f s) (fun _ => True) := by
  unfold impl_number.f
  rw [if_pos (by omega)]
  exact Gives.ret trivial
theorem prefix_gives (s : ByteArray) : Gives (stringslite_HasPrefix.f s ⟨#[114]⟩) (fun t => t = true → 1 ≤ s.size) := by
  have one : (⟨#[114]⟩ : ByteArray).size = 1 := rfl
  unfold stringslite_HasPrefix.f
  rw [one]
  exact Gives.ite (fun h => Gives.iteP (by omega) (Gives.iteP (by omega) (Gives.ret fun _ => by omega))) (fun _ => Gives.ret fun e => by cases e)
theorem iReg_gives {s : ByteArray} (hs : s.size ≤ 1048576) : Gives (impl_readReg.f s) (fun _ => True) := by
  have one : (⟨#[114]⟩ : ByteArray).size = 1 := rfl
  unfold impl_readReg.f strings_CutPrefix.f stringslite_CutPrefix.f
  obtain ⟨t, ht, h⟩ := prefix_gives s
  rw [ht, Option.bind_some]
  cases t with
  | false =>
    simp only [Bool.false_eq_true, if_false, Option.bind_some]
    exact Gives.ret trivial
  | true =>
    have := h rfl
    simp only [if_true]
    rw [one, if_pos (by omega), if_pos (by omega)]
    simp only [Option.bind_some, if_true]
    exact (number_gives (Nat.le_trans (extract_le _ _ _) hs)).bind fun v _ => Gives.ret trivial
theorem setv_gives {s : ByteArray} (hs : s.size ≤ 1048576) (a b c d e f : Int) : Gives (impl_Ins_setValue.f a b c d e f s) (fun _ => True) := by
  unfold impl_Ins_setValue.f strings_HasPrefix.f
  obtain ⟨t, ht, h⟩ := prefix_gives s
  rw [ht, Option.bind_some, Option.bind_some]
  exact Gives.ite (fun _ => (iReg_gives hs).bind fun v _ => Gives.ret trivial) (fun _ => (number_gives hs).bind fun v _ => Gives.ret trivial)
theorem iread7 (l : List ByteArray) (_ht : Texts l 1048576) {k : Nat} (hk : 110 ≤ k) (t : Bool) (h : t = true → l.length = 2) (x8 a b c d e f : Int) : Gives (impl_readIns.j7 k l x8 (l.length : Int) t a b c d e f) (fun _ => True) := by
  obtain ⟨k, rfl⟩ : ∃ m, k = m + 1 := ⟨k - 1, by omega⟩
  rw [impl_readIns.j7]
  refine Gives.ite (fun z => ?_) (fun _ => Gives.ite (fun _ => Gives.ite (fun _ => Gives.ret trivial) (fun _ => Gives.ret trivial)) (fun _ => Gives.ret trivial))
  have hn := h z
  exact Gives.iteP (by omega) ((idx_gives _ _ (by decide) (by omega)).bind fun v _ => Gives.ret trivial)
theorem iread6 (l : List ByteArray) (ht : Texts l 1048576) {k : Nat} (hk : 120 ≤ k) (t : Bool) (h : t = true → l.length = 4) (x8 a b c d e f : Int) : Gives (impl_readIns.j6 k l x8 (l.length : Int) t a b c d e f) (fun _ => True) := by
  obtain ⟨k, rfl⟩ : ∃ m, k = m + 1 := ⟨k - 1, by omega⟩
  rw [impl_readIns.j6]
  refine Gives.ite (fun z => ?_) (fun _ => Gives.ite (fun _ => iread7 l ht (by omega) _ (fun z => by rw [beq_iff_eq] at z; omega) _ _ _ _ _ _ _) (fun _ => iread7 l ht (by omega) _ (fun z => by cases z) _ _ _ _ _ _ _))
  have hn := h z
  refine Gives.iteP (by omega) ((iReg_gives (shortB ht (by omega) (by omega))).bind fun v _ => Gives.iteP (by omega) ?_)
  refine (number_gives (shortB ht (by omega) (by omega))).bind fun v _ => Gives.iteP (by omega) ?_
  exact (setv_gives (shortB ht (by omega) (by omega)) _ _ _ _ _ _).bind fun v _ => Gives.ret trivial
theorem iread5 (l : List ByteArray) (ht : Texts l 1048576) {k : Nat} (hk : 130 ≤ k) (t : Bool) (h : t = true → l.length = 4) (x8 a b c d e f : Int) : Gives (impl_readIns.j5 k l x8 (l.length : Int) t a b c d e f) (fun _ => True) := by
  obtain ⟨k, rfl⟩ : ∃ m, k = m + 1 := ⟨k - 1, by omega⟩
  rw [impl_readIns.j5]
  refine Gives.ite (fun z => ?_) (fun _ => Gives.ite (fun _ => iread6 l ht (by omega) _ (fun z => by rw [beq_iff_eq] at z; omega) _ _ _ _ _ _ _) (fun _ => iread6 l ht (by omega) _ (fun z => by cases z) _ _ _ _ _ _ _))
  have hn := h z
  refine Gives.iteP (by omega) ((iReg_gives (shortB ht (by omega) (by omega))).bind fun v _ => Gives.iteP (by omega) ?_)
  refine (iReg_gives (shortB ht (by omega) (by omega))).bind fun v _ => Gives.iteP (by omega) ?_
  exact (number_gives (shortB ht (by omega) (by omega))).bind fun v _ => Gives.ret trivial
theorem iread4 (l : List ByteArray) (ht : Texts l 1048576) {k : Nat} (hk : 140 ≤ k) (t : Bool) (h : t = true → l.length = 2) (x8 a b c d e f : Int) : Gives (impl_readIns.j4 k l x8 (l.length : Int) t a b c d e f) (fun _ => True) := by
  obtain ⟨k, rfl⟩ : ∃ m, k = m + 1 := ⟨k - 1, by omega⟩
  rw [impl_readIns.j4]
  refine Gives.ite (fun z => ?_) (fun _ => Gives.ite (fun _ => iread5 l ht (by omega) _ (fun z => by rw [beq_iff_eq] at z; omega) _ _ _ _ _ _ _) (fun _ => iread5 l ht (by omega) _ (fun z => by cases z) _ _ _ _ _ _ _))
  have hn := h z
  exact Gives.iteP (by omega) ((number_gives (shortB ht (by omega) (by omega))).bind fun v _ => Gives.ret trivial)
theorem iread3 (l : List ByteArray) (ht : Texts l 1048576) {k : Nat} (hk : 150 ≤ k) (t : Bool) (x8 x10 : Int) (h : t = true → l.length = 3 ∨ l.length = 4) (h4 : 12 ≤ x10 ∧ x10 ≤ 15 → t = true → l.length = 4) (a b c d e f : Int) : Gives (impl_readIns.j3 k l x8 x10 (l.length : Int) t a b c d e f) (fun _ => True) := by
  obtain ⟨k, rfl⟩ : ∃ m, k = m + 1 := ⟨k - 1, by omega⟩
  rw [impl_readIns.j3]
  refine Gives.ite (fun z => ?_) (fun _ => Gives.ite (fun _ => iread4 l ht (by omega) _ (fun z => by rw [beq_iff_eq] at z; omega) _ _ _ _ _ _ _) (fun _ => iread4 l ht (by omega) _ (fun z => by cases z) _ _ _ _ _ _ _))
  have hn := h z
  refine Gives.iteP (by omega) ((iReg_gives (shortB ht (by omega) (by omega))).bind fun v _ => Gives.iteP (by omega) ?_)
  refine (setv_gives (shortB ht (by omega) (by omega)) _ _ _ _ _ _).bind fun v _ => ?_
  rw [asks_eq, Option.bind_some]
  refine Gives.ite (fun g => ?_) (fun _ => Gives.ret trivial)
  rw [decide_eq_true_eq] at g
  have := h4 g z
  exact Gives.iteP (by omega) ((number_gives (shortB ht (by omega) (by omega))).bind fun v _ => Gives.ret trivial)
theorem iread2 (l : List ByteArray) (ht : Texts l 1048576) {k : Nat} (hk : 160 ≤ k) (t : Bool) (x8 x10 : Int) (h : t = true → (1 ≤ x10 ∧ x10 ≤ 11) ∧ l.length = 3) (a b c d e f : Int) : Gives (impl_readIns.j2 k l x8 x10 (l.length : Int) t a b c d e f) (fun _ => True) := by
  obtain ⟨k, rfl⟩ : ∃ m, k = m + 1 := ⟨k - 1, by omega⟩
  rw [impl_readIns.j2]
  refine Gives.ite (fun z => ?_) (fun _ => ?_)
  · have hn := h z
    exact iread3 l ht (by omega) _ _ _ (fun _ => Or.inl hn.2) (fun g _ => by omega) _ _ _ _ _ _
  · rw [asks_eq, Option.bind_some]
    refine Gives.ite (fun g => iread3 l ht (by omega) _ _ _ (fun z => ?_) (fun _ z => ?_) _ _ _ _ _ _) (fun _ => iread3 l ht (by omega) _ _ _ (fun z => by cases z) (fun _ z => by cases z) _ _ _ _ _ _)
    · rw [beq_iff_eq] at z; omega
    · rw [beq_iff_eq] at z; omega
theorem iread1 (l : List ByteArray) (ht : Texts l 1048576) {k : Nat} (hk : 170 ≤ k) (x : ByteArray) (z : Int) : Gives (impl_readIns.j1 k l x z) (fun _ => True) := by
  obtain ⟨k, rfl⟩ : ∃ m, k = m + 1 := ⟨k - 1, by omega⟩
  rw [impl_readIns.j1]
  refine (idx_gives _ _ (by decide) (by omega)).bind fun v _ => ?_
  rw [reckons_eq, Option.bind_some]
  refine Gives.ite (fun g => iread2 l ht (by omega) _ _ _ (fun z => ?_) _ _ _ _ _ _) (fun _ => iread2 l ht (by omega) _ _ _ (fun z => by cases z) _ _ _ _ _ _)
  rw [beq_iff_eq] at z
  rw [decide_eq_true_eq] at g
  exact ⟨g, by omega⟩
theorem iread_gives {l : List ByteArray} (h1 : 1 ≤ l.length) (ht : Texts l 1048576) {k : Nat} (hk : 180 ≤ k) : Gives (impl_readIns.f k l) (fun _ => True) := by
  obtain ⟨k, rfl⟩ : ∃ m, k = m + 1 := ⟨k - 1, by omega⟩
  have hz := shortB ht (i := 0) (by omega) (by omega)
  have go : ∀ (w : ByteArray) (t : Bool), (t = true → 1 < w.size) → w.size ≤ 1048576 → Gives (impl_readIns.j0 (k + 1) l w 0 (w.size : Int) t) (fun _ => True) := by
    intro w t h hw
    rw [impl_readIns.j0]
    refine Gives.ite (fun z => ?_) (fun _ => iread1 l ht (by omega) _ _)
    have := h z
    rw [wrap64_id (n := (w.size : Int) - 1) (by omega) (by omega), if_pos (by omega), if_pos (by omega), if_pos (by omega)]
    exact iread1 l ht (by omega) _ _
  unfold impl_readIns.f
  refine Gives.iteP (by omega) ?_
  refine Gives.ite (fun h => ?_) (fun _ => go _ _ (fun z => by cases z) hz)
  rw [wrap64_id (n := ((rdOf ByteArray.empty l 0).size : Int) - 1) (by omega) (by omega), if_pos (by omega), if_pos (by omega)]
  exact Gives.ite (fun _ => go _ _ (fun _ => by omega) hz) (fun _ => go _ _ (fun z => by cases z) hz)
theorem split_texts (sep : ByteArray) : ∀ (k : Nat) (s : ByteArray), Texts (Lib.splitB sep 0 k s) s.size
  | 0, s => fun x hx => by rw [List.mem_singleton.1 (show x ∈ [s] from hx)]; exact Nat.le_refl _
  | k + 1, s => fun x hx => by
    unfold Lib.splitB at hx
    split at hx
    · rw [List.mem_singleton.1 hx]; exact Nat.le_refl _
    · rcases List.mem_cons.1 hx with rfl | h
      · exact extract_le _ _ _
      · exact Nat.le_trans (split_texts sep k _ x h) (extract_le _ _ _)
theorem split_gives {s : ByteArray} (hs : s.size ≤ 1048576) : ∃ l, strings_Split.f s ⟨#[32]⟩ = some l ∧ 1 ≤ l.length ∧ Texts l 1048576 := by
  unfold strings_Split.f
  rw [if_pos (by omega), if_pos (by decide)]
  refine ⟨_, rfl, ?_, fun x hx => Nat.le_trans (split_texts _ _ _ x hx) hs⟩
  rw [Lib.splitB_all _ (by decide) 0 _ s rfl]
  omega
theorem implPut_line {o d s f m z : Int} (h : InsI o d s f m z) : impl_LinePut.f o d s f m z = some (lineT o d s f m z) := by
  have hr := h.range
  unfold impl_LinePut.f
  simp only [implInsOk_eq, Option.bind_some, decide_eq_true_eq]
  rw [if_pos h, itoa_eq (by omega) (by omega)]
  simp only [Option.bind_some]
  rw [implLine_eq h]
  rfl
/-- What is told of a line: the op that is written so, if there is one. -/
def IsLine (s : ByteArray) (v : Int × Int × Int × Int × Int × Int × Bool) : Prop :=
  (InsI v.1 v.2.1 v.2.2.1 v.2.2.2.1 v.2.2.2.2.1 v.2.2.2.2.2.1 ∧ lineT v.1 v.2.1 v.2.2.1 v.2.2.2.1 v.2.2.2.2.1 v.2.2.2.2.2.1 = s ∧ v.2.2.2.2.2.2 = true)
  ∨ ((∀ o d s1 f m z, InsI o d s1 f m z → lineT o d s1 f m z ≠ s) ∧ v = (0, 0, 0, 0, 0, 0, false))
theorem iget_is {s : ByteArray} (hs : s.size ≤ 1048576) {k : Nat} (hk : 200 ≤ k) : ∃ v, impl_LineGet.f k s = some v ∧ IsLine s v := by
  obtain ⟨k, rfl⟩ : ∃ q, k = q + 1 := ⟨k - 1, by omega⟩
  obtain ⟨ws, hw, h1, ht⟩ := split_gives hs
  obtain ⟨⟨o, d, s1, f, m, z, ok⟩, hr, _⟩ := iread_gives h1 ht (k := k + 1) (by omega)
  have none : (¬ (ok = true ∧ InsI o d s1 f m z ∧ lineT o d s1 f m z = s)) → ∀ o' d' s' f' m' z', InsI o' d' s' f' m' z' → lineT o' d' s' f' m' z' ≠ s := by
    intro hn o' d' s' f' m' z' hi he
    have e1 := split_eq (he ▸ (lineT_join o' d' s' f' m' z')) (words_nosp hi) (by omega)
    rw [hw] at e1
    obtain rfl := Option.some.inj e1
    have e2 := iread_eq hi (k := k + 1) (by omega)
    rw [hr] at e2
    simp only [Option.some.injEq, Prod.mk.injEq] at e2
    obtain ⟨rfl, rfl, rfl, rfl, rfl, rfl, rfl⟩ := e2
    exact hn ⟨rfl, hi, he⟩
  unfold impl_LineGet.f
  rw [hw, Option.bind_some, hr, Option.bind_some]
  simp only
  have bad : ∀ a b c d e f : Int, impl_LineGet.j0 (k + 1) true a b c d e f = some (0, 0, 0, 0, 0, 0, false) := fun a b c d e f => by rw [impl_LineGet.j0, if_pos rfl]
  cases ok with
  | false =>
    rw [if_neg (by decide), bad]
    exact ⟨_, rfl, Or.inr ⟨none (fun h => by cases h.1), rfl⟩⟩
  | true =>
    rw [if_pos rfl, implInsOk_eq, Option.bind_some]
    by_cases hi : InsI o d s1 f m z
    · rw [decide_eq_true hi, if_pos rfl, implPut_line hi, Option.bind_some, impl_LineGet.j0]
      by_cases he : lineT o d s1 f m z = s
      · rw [if_neg (by rw [he]; simp)]
        exact ⟨_, rfl, Or.inl ⟨hi, he, rfl⟩⟩
      · rw [if_pos (by rw [bne_iff_ne]; exact toList_ne he)]
        exact ⟨_, rfl, Or.inr ⟨none (fun h => he h.2.2), rfl⟩⟩
    · rw [decide_eq_false hi, if_neg (by decide), bad]
      exact ⟨_, rfl, Or.inr ⟨none (fun h => hi h.2.1), rfl⟩⟩
theorem IsLine.one {s : ByteArray} {v w : Int × Int × Int × Int × Int × Int × Bool} (hs : s.size ≤ 1048576) (hv : IsLine s v) (hw : IsLine s w) : v = w := by
  rcases hv with ⟨a1, a2, a3⟩ | ⟨a1, a2⟩
  · rcases hw with ⟨b1, b2, b3⟩ | ⟨b1, _⟩
    · have e1 := cut_eq (a2 ▸ (lineT_join _ _ _ _ _ _)) (words_nosp a1) (tail_len _ _ _ _ _) (by omega) (k := 2200400) (by omega)
      have e2 := cut_eq (b2 ▸ (lineT_join _ _ _ _ _ _)) (words_nosp b1) (tail_len _ _ _ _ _) (by omega) (k := 2200400) (by omega)
      rw [e1] at e2
      have e3 := Option.some.inj e2
      have r1 := sread_eq a1 (k := 200) (by decide)
      have r2 := sread_eq b1 (k := 200) (by decide)
      rw [e3, r2] at r1
      obtain ⟨v1, v2, v3, v4, v5, v6, v7⟩ := v
      obtain ⟨w1, w2, w3, w4, w5, w6, w7⟩ := w
      simp only [Option.some.injEq, Prod.mk.injEq] at r1 a3 b3 ⊢
      obtain ⟨q1, q2, q3, q4, q5, q6⟩ := r1
      exact ⟨q1.symm, q2.symm, q3.symm, q4.symm, q5.symm, q6.symm, by rw [a3, b3]⟩
    · exact absurd a2 (b1 _ _ _ _ _ _ a1)
  · rcases hw with ⟨b1, b2, _⟩ | ⟨_, b2⟩
    · exact absurd b2 (a1 _ _ _ _ _ _ b1)
    · rw [a2, b2]

-- InsI.range NoSp.app Gives.iteP Gives.bind Gives.ret
theorem opw_pos {o : Int} (h0 : 1 ≤ o) (h1 : o < 21) : 1 ≤ (rdOf ByteArray.empty impl_opWords.L o).size := by
  have hc : o = 1 ∨ o = 2 ∨ o = 3 ∨ o = 4 ∨ o = 5 ∨ o = 6 ∨ o = 7 ∨ o = 8 ∨ o = 9 ∨ o = 10 ∨ o = 11 ∨ o = 12 ∨ o = 13 ∨ o = 14 ∨ o = 15 ∨ o = 16 ∨ o = 17 ∨ o = 18 ∨ o = 19 ∨ o = 20 := by omega
  rcases hc with e|e|e|e|e|e|e|e|e|e|e|e|e|e|e|e|e|e|e|e <;> (rw [e]; decide)
/-- A line is not empty, and short. -/
theorem lineT_size {o d s f m z : Int} (h : InsI o d s f m z) : 1 ≤ (lineT o d s f m z).size ∧ (lineT o d s f m z).size ≤ 200 := by
  have hr := h.range
  have w1 := opw_size (o := o) (by omega) (by omega)
  have w2 := opw_pos (o := o) (by omega) (by omega)
  have d1 := (dec_eq (a := d) (by omega) (by omega) (k := 30) (by decide)).2
  have f1 := (dec_eq (a := f) (by omega) (by omega) (k := 30) (by decide)).2
  have z1 := (dec_eq (a := z) (by omega) (by omega) (k := 30) (by decide)).2
  have s1 := (dec_eq (a := s) (by omega) (by omega) (k := 30) (by decide)).2
  have m1 := (dec_eq (a := m) (by omega) (by omega) (k := 30) (by decide)).2
  have v1 : (valT s m).size ≤ 21 := by
    unfold valT
    split
    · omega
    · simp only [ByteArray.size_append, bsz1]; omega
  have c1 : o = 19 → (rdOf ByteArray.empty impl_callWords.L m).size ≤ 5 := fun e => callw_size (by omega) (by
    subst e
    unfold InsI at h
    simp at h
    omega)
  unfold lineT
  generalize rdOf ByteArray.empty impl_opWords.L o = w at *
  simp only
  split
  · simp only [ByteArray.size_append, bsz1]; omega
  split
  · simp only [ByteArray.size_append, bsz1]; omega
  split
  · simp only [ByteArray.size_append, bsz1]; omega
  split
  · simp only [ByteArray.size_append, bsz1]; omega
  split
  · simp only [ByteArray.size_append, bsz1]; omega
  split
  · rename_i e; have := c1 e; simp only [ByteArray.size_append, bsz1]; omega
  · omega
theorem drawLine_gives {k : Nat} {l : List Int} (hl : ∀ x ∈ l, (Lit.int .u8 x).wf = true) (hk : 410 < k) : Gives (spec_DrawLinePut.f k l) (fun _ => True) := by
  unfold spec_DrawLinePut.f
  refine (open_gives hl).bind fun b hb => ?_
  exact (ins_gives hb.1 (by have := hb.2; omega) (by have := hb.2; omega) hk).bind fun v hv => Gives.ret trivial
theorem FnLinePut : laws_FnLinePut.Pure := by
  intro l _ _ hl
  refine ⟨2200400, ?_⟩
  unfold laws_FnLinePut.f
  split
  · rfl
  obtain ⟨v, hv, _⟩ := drawLine_gives (k := 2200400) hl (by decide)
  obtain ⟨o, d, s, f, m, z⟩ := v
  rw [hv, Option.bind_some]
  by_cases h : InsI o d s f m z
  · have e1 := implPut_line h
    have e2 : ∀ k, 20 < k → spec_LinePut.f k o d s f m z = some (lineT o d s f m z) := fun k hk => by
      unfold spec_LinePut.f
      simp only [specInsOk_eq, Option.bind_some, decide_eq_true_eq]
      rw [if_pos h, specLine_eq h hk]; rfl
    have hz := lineT_size h
    simp only [e1, e2 2200400 (by decide), Option.bind_some, if_true]
    have ne : ((lineT o d s f m z).toList == ([] : List UInt8)) = false := by
      rw [beq_eq_false_iff_ne, Go.ByteArray.toList_eq]
      intro e
      have := congrArg List.length e
      simp only [Array.length_toList, List.length_nil] at this
      have z0 : (lineT o d s f m z).size = 0 := this
      omega
    rw [ne, laws_FnLinePut.j0, if_neg (by decide)]
    obtain ⟨v, e3, hv3⟩ := iget_is (s := lineT o d s f m z) (by omega) (k := 2200399) (by decide)
    obtain rfl := IsLine.one (by omega) hv3 (Or.inl ⟨h, rfl, rfl⟩ : IsLine (lineT o d s f m z) (o, d, s, f, m, z, true))
    rw [e3, Option.bind_some]
    simp
  · have e1 : impl_LinePut.f o d s f m z = some ⟨#[]⟩ := by
      unfold impl_LinePut.f
      simp only [implInsOk_eq, Option.bind_some, decide_eq_true_eq]
      rw [if_neg h]
    have e2 : ∀ k, spec_LinePut.f k o d s f m z = some ⟨#[]⟩ := fun k => by
      unfold spec_LinePut.f
      simp only [specInsOk_eq, Option.bind_some, decide_eq_true_eq]
      rw [if_neg h]
    have e : (⟨#[]⟩ : ByteArray).toList = [] := by rw [Go.ByteArray.toList_eq]
    simp only [e1, e2, Option.bind_some, if_true, e]
    rw [show (([] : List UInt8) == []) = true from rfl, laws_FnLinePut.j0, if_pos rfl, e2, Option.bind_some, e]
    rfl

end Go.Proofs.YtllmbooicobmkaaGreatDoor.Pure
