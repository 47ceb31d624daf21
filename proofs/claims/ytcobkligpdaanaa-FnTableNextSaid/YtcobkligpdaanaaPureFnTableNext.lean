/- The law FnTableNext, as a statement about numbers and lists alone: going from key to key comes to each key of a table once, whatever bytes are drawn from. It holds at every input. -/
import Derived.Test.YtcobkligpdaanaaQ54
import Derived.Test.YtcobkligpdaanaaMath
namespace Go.Proofs.Ytcobkligpdaanaa.Pure
open Go Go.RowKit Go.Proofs.Ytcobkligpdaanaa.Q Go.Proofs.YtcobkligpdaanaaW.PrintWords Go.Proofs.YtcobkligpdaanaaW.PrintLast Go.Proofs.YtcobkligpdaanaaW.PrintMore Rg

theorem l1In_eq (a b c : Int) : spec_l1In.f a b c = some (decide (b ≤ a ∧ a ≤ c)) := by
  unfold spec_l1In.f
  by_cases h : a ≥ b
  · rw [if_pos h]; simp [show b ≤ a from h]
  · rw [if_neg h]; simp [show ¬ b ≤ a from h]
theorem within_eq (a b c : Int) : impl_within.f a b c = some (decide (b ≤ a ∧ a ≤ c)) := by
  unfold impl_within.f
  by_cases h : a ≥ b
  · rw [if_pos h]; simp [show b ≤ a from h]
  · rw [if_neg h]; simp [show ¬ b ≤ a from h]
theorem numOk_eq (a : Int) : impl_numOk.f a = some (decide (0 ≤ a ∧ a ≤ 4294967295)) := by
  unfold impl_numOk.f
  rw [within_eq]; rfl
theorem open_gives {l : List Int} (hl : ∀ x ∈ l, (Lit.int .u8 x).wf = true) : Gives (spec_l20Open.f l) (fun v => Bytes v.1 ∧ v.2 = 0) := by
  unfold spec_l20Open.f
  refine Gives.ite (fun h => ?_) (fun h => ?_)
  · rw [if_pos (by omega)]
    exact Gives.ret ⟨⟨by rw [List.length_take]; omega, fun x hx => u8_wf (hl x (List.mem_of_mem_take hx))⟩, rfl⟩
  · exact Gives.ret ⟨⟨by show l.length ≤ 2000; omega, fun x hx => u8_wf (hl x hx)⟩, rfl⟩
theorem pick_gives {k : Nat} {b : List Int} (hb : Bytes b) {p n : Int} (h0 : 0 ≤ p) (h1 : p ≤ 10000) (hn : 1 ≤ n) (hk : 0 < k) : Gives (spec_l20Rd_pick.f k b p n) (fun v => 0 ≤ v.1 ∧ v.1 < n ∧ v.2 = p + 1) := by
  obtain ⟨k, rfl⟩ : ∃ m, k = m + 1 := ⟨k - 1, by omega⟩
  unfold spec_l20Rd_pick.f
  rw [if_neg (by omega)]
  simp only [spec_l20Rd_pick.j0]
  rw [wrap64_id (n := p + 1) (by omega) (by omega), wrap64_id (n := p + 1 - 1) (by omega) (by omega), show p + 1 - 1 = p by omega]
  obtain ⟨hb1, hb2⟩ := hb
  refine Gives.ite (fun _ => Gives.ret ⟨by omega, by omega, rfl⟩) (fun he => ?_)
  have hl : 1 ≤ (b.length : Int) := by
    rcases b with _ | ⟨x, l⟩
    · simp at he
    · simp; omega
  refine Gives.ite (fun hlt => ?_) (fun _ => ?_)
  · rw [if_pos h0, if_neg (by omega)]
    have hv := hb2 _ (rd_mem h0 hlt)
    rw [wrap64_id (by omega) (by omega)]
    have := tmod_range hv.1 hn
    exact Gives.ret ⟨this.1, this.2, rfl⟩
  · have hq := tmod_range h0 hl
    have hw : 0 ≤ wrap64 (wrap64 (p * 7) + 3) := by rw [wrap64_id (n := p * 7) (by omega) (by omega), wrap64_id (by omega) (by omega)]; omega
    have hr := tmod_range hw hl
    rw [if_neg (by omega), if_pos hq.1, if_pos hq.2, if_pos hr.1, if_pos hr.2, if_neg (by omega)]
    have hv1 := hb2 _ (rd_mem hq.1 hq.2)
    have hv2 := hb2 _ (rd_mem hr.1 hr.2)
    have hd : 0 ≤ Int.tdiv p (b.length : Int) ∧ Int.tdiv p (b.length : Int) ≤ 100000 := by
      refine ⟨Int.tdiv_nonneg h0 (by omega), ?_⟩
      rw [Int.tdiv_eq_ediv_of_nonneg h0]
      have := Int.ediv_le_self (b.length : Int) h0
      omega
    have hm := mix hv1 hv2 ⟨h0, by omega⟩ hd
    have hx := tmod_range (xor_pos hm.1 hm.2) hn
    exact Gives.ret ⟨hx.1, hx.2, rfl⟩
theorem one_gives {k : Nat} {b : List Int} (hb : Bytes b) {p : Int} (h0 : 0 ≤ p) (h1 : p ≤ 10000) {l : List Int} (hl : 1 ≤ (l.length : Int)) (hk : 0 < k) : Gives (spec_l20Rd_one.f k b p l) (fun v => v.1 ∈ l ∧ v.2 = p + 1) := by
  unfold spec_l20Rd_one.f
  refine (pick_gives hb h0 h1 hl hk).bind fun v hv => ?_
  rw [if_pos hv.1, if_pos hv.2.1]
  exact Gives.ret ⟨rd_mem hv.1 hv.2.1, hv.2.2⟩
theorem imm_gives {k : Nat} {b : List Int} (hb : Bytes b) {p : Int} (h0 : 0 ≤ p) (h1 : p ≤ 10000) (hk : 0 < k) : Gives (spec_l20Imm.f k b p) (fun v => N32 v.1 ∧ v.2 = p + 1) := by
  unfold spec_l20Imm.f
  refine (one_gives hb h0 h1 (by decide) hk).bind fun v hv => Gives.ret ⟨?_, hv.2⟩
  have := hv.1
  simp only [List.mem_cons, List.not_mem_nil, or_false] at this
  show N32 v.1
  unfold N32
  omega
theorem number_gives {k : Nat} {b : List Int} (hb : Bytes b) {p : Int} (h0 : 0 ≤ p) (h1 : p ≤ 9990) (hk : 0 < k) : Gives (spec_l20Number.f k b p) (fun v => N32 v.1 ∧ 0 ≤ v.2 ∧ v.2 ≤ p + 3) := by
  unfold spec_l20Number.f
  refine (pick_gives hb h0 (by omega) (by decide) hk).bind fun v hv => ?_
  obtain ⟨_, _, hv⟩ := hv
  refine Gives.ite (fun _ => ?_) (fun _ => Gives.ite (fun _ => ?_) (fun _ => ?_))
  · exact (imm_gives hb (by omega) (by omega) hk).bind fun u hu => Gives.ret ⟨hu.1, by omega, by omega⟩
  · exact (pick_gives hb (by omega) (by omega) (by decide) hk).bind fun u hu => Gives.ret ⟨⟨hu.1, by omega⟩, by omega, by omega⟩
  · refine (pick_gives hb (by omega) (by omega) (by decide) hk).bind fun u hu => ?_
    obtain ⟨hu0, hu1, hu2⟩ := hu
    refine (one_gives hb (by omega) (by omega) (by decide) hk).bind fun s hs => ?_
    obtain ⟨hs1, hs2⟩ := hs
    simp only [List.mem_cons, List.not_mem_nil, or_false] at hs1
    rw [if_pos (by omega)]
    refine Gives.ret ⟨?_, by omega, by omega⟩
    obtain ⟨a, ha⟩ := Int.eq_ofNat_of_zero_le hu0
    show N32 (shl .i64 u.1 s.1)
    rw [ha] at hu1 ⊢
    have ha' : a < 256 := by omega
    unfold N32
    rcases hs1 with h | h | h | h | h <;> rw [h]
    · have := shl_nat (a := a) (k := 0) (by decide) (by omega); rw [show (0 : Int) = ((0 : Nat) : Int) from rfl, this]; omega
    · have := shl_nat (a := a) (k := 4) (by decide) (by omega); rw [show (4 : Int) = ((4 : Nat) : Int) from rfl, this]; omega
    · have := shl_nat (a := a) (k := 8) (by decide) (by omega); rw [show (8 : Int) = ((8 : Nat) : Int) from rfl, this]; omega
    · have := shl_nat (a := a) (k := 16) (by decide) (by omega); rw [show (16 : Int) = ((16 : Nat) : Int) from rfl, this]; omega
    · have := shl_nat (a := a) (k := 24) (by decide) (by omega); rw [show (24 : Int) = ((24 : Nat) : Int) from rfl, this]; omega
/-- v is the place of the first x in K, or -1 if there is none. -/
def IdxOf (K : List Int) (x v : Int) : Prop := (v = -1 ∧ ∀ j : Nat, j < K.length → rd K j ≠ x) ∨ ∃ n : Nat, v = n ∧ n < K.length ∧ rd K n = x ∧ ∀ j : Nat, j < n → rd K j ≠ x
theorem IdxOf.unique {K : List Int} {x v u : Int} (h : IdxOf K x v) (g : IdxOf K x u) : v = u := by
  rcases h with ⟨rfl, h⟩ | ⟨n, rfl, hn, hx, hl⟩ <;> rcases g with ⟨rfl, g⟩ | ⟨m, rfl, hm, gx, gl⟩
  · rfl
  · exact absurd gx (h m hm)
  · exact absurd hx (g n hn)
  · rcases Nat.lt_trichotomy n m with a | a | a
    · exact absurd hx (gl n a)
    · rw [a]
    · exact absurd gx (hl m a)
/-- A row of a table is in order. -/
def RowOk (a s : Int) (K : List Int) (V : List ByteArray) (i : Nat) : Prop := ((rdOf ByteArray.empty V i).size : Int) = s ∧ (0 ≤ rd K i ∧ rd K i ≤ 4294967295) ∧ (a = 1 → rd K i = i) ∧ ∀ j : Nat, j < i → rd K j ≠ rd K i
/-- A table is in order but for its rows. -/
def ShapeOk (a s m : Int) (K : List Int) (V : List ByteArray) : Prop := (1 ≤ a ∧ a ≤ 2) ∧ (1 ≤ s ∧ s ≤ 8) ∧ (1 ≤ m ∧ m ≤ 8) ∧ K.length = V.length ∧ (K.length : Int) ≤ m
/-- A table is in order. -/
def TabOk (a s m : Int) (K : List Int) (V : List ByteArray) : Prop := ShapeOk a s m K V ∧ (a = 1 → (K.length : Int) = m) ∧ ∀ i : Nat, i < K.length → RowOk a s K V i
theorem rows_step {a s : Int} {K : List Int} {V : List ByteArray} {p : Nat} (hp : p < K.length) : (∀ i : Nat, p ≤ i → i < K.length → RowOk a s K V i) ↔ RowOk a s K V p ∧ ∀ i : Nat, p + 1 ≤ i → i < K.length → RowOk a s K V i := by
  constructor
  · exact fun h => ⟨h p (Nat.le_refl p) hp, fun i h1 h2 => h i (by omega) h2⟩
  · rintro ⟨h0, h⟩ i h1 h2
    by_cases e : i = p
    · rw [e]; exact h0
    · exact h i (by omega) h2
theorem index_from (K : List Int) (x : Int) (hK : K.length ≤ 1000) (d : Nat) : ∀ (k p : Nat), p + d = K.length → d < k → (∀ j : Nat, j < p → rd K j ≠ x) →
    Gives (slices_Index_int_int.l0 k K x (K.length : Int) (p : Int)) (IdxOf K x) := by
  induction d with
  | zero =>
    intro k p hp hk hno
    obtain ⟨k, rfl⟩ : ∃ m, k = m + 1 := ⟨k - 1, by omega⟩
    simp only [slices_Index_int_int.l0]
    rw [if_neg (by omega)]
    exact Gives.ret (Or.inl ⟨rfl, fun j hj => hno j (by omega)⟩)
  | succ d ih =>
    intro k p hp hk hno
    obtain ⟨k, rfl⟩ : ∃ m, k = m + 1 := ⟨k - 1, by omega⟩
    simp only [slices_Index_int_int.l0]
    rw [if_pos (by omega), if_pos (by omega), if_pos (by omega)]
    refine Gives.ite (fun h => Gives.ret (Or.inr ⟨p, rfl, by omega, h.symm, hno⟩)) (fun h => ?_)
    rw [w_succ (by omega)]
    refine ih k (p + 1) (by omega) (by omega) (fun j hj => ?_)
    by_cases e : j = p
    · rw [e]; exact fun z => h z.symm
    · exact hno j (by omega)
theorem find_gives (a s m : Int) (K : List Int) (V : List ByteArray) (x : Int) (hK : K.length ≤ 1000) {k : Nat} (hk : K.length < k) : Gives (impl_Table_find.f k a s m K V x) (IdxOf K x) := by
  unfold impl_Table_find.f slices_Index_int_int.f
  exact (index_from K x hK K.length k 0 (by omega) hk (fun j hj => absurd hj (by omega))).bind fun v hv => Gives.ret hv
theorem shaped_eq (a s m : Int) (K : List Int) (V : List ByteArray) : impl_Table_shaped.f a s m K V = some (decide ((1 ≤ a ∧ a ≤ 2) ∧ (1 ≤ s ∧ s ≤ 8) ∧ (1 ≤ m ∧ m ≤ 8))) := by
  unfold impl_Table_shaped.f
  simp only [within_eq, Option.bind_some, decide_eq_true_eq]
  by_cases h1 : 1 ≤ a ∧ a ≤ 2
  · rw [if_pos h1]
    by_cases h2 : 1 ≤ s ∧ s ≤ 8
    · rw [if_pos h2]; simp [h1, h2]
    · rw [if_neg h2]; simp [h2]
  · rw [if_neg h1]; simp [h1]
theorem rowsI (a s m : Int) (K : List Int) (V : List ByteArray) (hl : K.length = V.length) (hK : K.length ≤ 8) (d : Nat) : ∀ (k p : Nat), p + d = K.length → 2 * d + 10 < k →
    Gives (impl_TableOk.l0 k K (K.length : Int) (p : Int) a s m K V) (fun b => b = true ↔ ∀ i : Nat, p ≤ i → i < K.length → RowOk a s K V i) := by
  induction d with
  | zero =>
    intro k p hp hk
    obtain ⟨k, rfl⟩ : ∃ m, k = m + 1 := ⟨k - 1, by omega⟩
    simp only [impl_TableOk.l0]
    rw [if_neg (by omega)]
    exact Gives.ret ⟨fun _ i h1 h2 => absurd h1 (by omega), fun _ => rfl⟩
  | succ d ih =>
    intro k p hp hk
    obtain ⟨k, rfl⟩ : ∃ m, k = m + 2 := ⟨k - 2, by omega⟩
    have bad : ¬ RowOk a s K V p → Gives (impl_TableOk.j2 (k + 1) K (K.length : Int) (p : Int) true a s m K V) (fun b => b = true ↔ ∀ i : Nat, p ≤ i → i < K.length → RowOk a s K V i) := by
      intro h
      simp only [impl_TableOk.j2]
      rw [if_pos trivial]
      exact Gives.ret ⟨fun e => (by cases e), fun e => absurd (e p (Nat.le_refl p) (by omega)) h⟩
    have good : RowOk a s K V p → Gives (impl_TableOk.j2 (k + 1) K (K.length : Int) (p : Int) false a s m K V) (fun b => b = true ↔ ∀ i : Nat, p ≤ i → i < K.length → RowOk a s K V i) := by
      intro h
      simp only [impl_TableOk.j2]
      rw [if_neg (by decide), w_succ (by omega)]
      refine (ih k (p + 1) (by omega) (by omega)).mono fun b hb => ?_
      rw [hb, rows_step (p := p) (by omega)]
      exact ⟨fun z => ⟨h, z⟩, fun z => z.2⟩
    simp only [impl_TableOk.l0]
    rw [if_pos (by omega), if_pos (by omega), if_pos (by omega), numOk_eq]
    simp only [Option.bind_some, decide_eq_true_eq]
    refine Gives.ite (fun h1 => ?_) (fun h1 => bad (fun r => h1 r.2.1))
    refine (find_gives a s m K V (rd K p) (by omega) (by omega)).bind fun v hv => ?_
    refine Gives.ite (fun h2 => ?_) (fun h2 => bad (fun r => h2 (IdxOf.unique hv (Or.inr ⟨p, rfl, by omega, rfl, r.2.2.2⟩))))
    have hno : ∀ j : Nat, j < p → rd K j ≠ rd K p := by
      rcases hv with ⟨e, _⟩ | ⟨n, e, _, _, hno⟩
      · omega
      · intro j hj; exact hno j (by omega)
    rw [if_pos (by omega)]
    refine Gives.ite (fun h3 => ?_) (fun h3 => bad (fun r => h3 r.1))
    refine Gives.ite (fun h4 => ?_) (fun h4 => good ⟨h3, h1, fun z => absurd z h4, hno⟩)
    by_cases h5 : rd K p = p
    · rw [show (rd K (p : Int) != (p : Int)) = false from bne_eq_false_iff_eq.mpr h5]
      exact good ⟨h3, h1, fun _ => h5, hno⟩
    · rw [show (rd K (p : Int) != (p : Int)) = true from bne_iff_ne.mpr h5]
      exact bad (fun r => h5 (r.2.2.1 h4))
theorem implTab_gives (a s m : Int) (K : List Int) (V : List ByteArray) {k : Nat} (hk : 40 < k) : Gives (impl_TableOk.f k a s m K V) (fun b => b = true ↔ TabOk a s m K V) := by
  obtain ⟨k, rfl⟩ : ∃ m, k = m + 1 := ⟨k - 1, by omega⟩
  have bad : ¬ TabOk a s m K V → Gives (impl_TableOk.j0 (k + 1) true a s m K V) (fun b => b = true ↔ TabOk a s m K V) := by
    intro h
    simp only [impl_TableOk.j0]
    rw [if_pos trivial]
    exact Gives.ret ⟨fun e => (by cases e), fun e => absurd e h⟩
  have good : ShapeOk a s m K V → (a = 1 → (K.length : Int) = m) → Gives (impl_TableOk.j0 (k + 1) false a s m K V) (fun b => b = true ↔ TabOk a s m K V) := by
    intro h g
    simp only [impl_TableOk.j0]
    rw [if_neg (by decide)]
    have h1 := h.2.2.1
    have h2 := h.2.2.2.2
    refine (rowsI a s m K V h.2.2.2.1 (by omega) K.length k 0 (by omega) (by omega)).mono fun b hb => ?_
    rw [hb]
    exact ⟨fun z => ⟨h, g, fun i hi => z i (Nat.zero_le i) hi⟩, fun z i _ hi => z.2.2 i hi⟩
  unfold impl_TableOk.f
  rw [shaped_eq]
  simp only [Option.bind_some, decide_eq_true_eq]
  refine Gives.ite (fun h1 => ?_) (fun h1 => bad (fun z => h1 ⟨z.1.1, z.1.2.1, z.1.2.2.1⟩))
  refine Gives.ite (fun h2 => bad (fun z => by have := z.1.2.2.2.2; omega)) (fun h2 => ?_)
  refine Gives.ite (fun h3 => ?_) (fun h3 => bad (fun z => h3 (by have := z.1.2.2.2.1; omega)))
  have hs : ShapeOk a s m K V := ⟨h1.1, h1.2.1, h1.2.2, by omega, by omega⟩
  refine Gives.ite (fun h4 => ?_) (fun h4 => good hs (fun z => absurd z h4))
  by_cases h5 : (K.length : Int) = m
  · rw [show ((K.length : Int) != m) = false from bne_eq_false_iff_eq.mpr h5]; exact good hs (fun _ => h5)
  · rw [show ((K.length : Int) != m) = true from bne_iff_ne.mpr h5]; exact bad (fun z => h5 (z.2.1 h4))
theorem at_from (a s m : Int) (K : List Int) (V : List ByteArray) (x : Int) (hK : K.length ≤ 1000) (d : Nat) : ∀ (k p : Nat), p + d = K.length → d < k → (∀ j : Nat, j < p → rd K j ≠ x) →
    Gives (spec_l3At.l0 k x (p : Int) a s m K V) (IdxOf K x) := by
  induction d with
  | zero =>
    intro k p hp hk hno
    obtain ⟨k, rfl⟩ : ∃ m, k = m + 1 := ⟨k - 1, by omega⟩
    simp only [spec_l3At.l0]
    rw [if_neg (by omega)]
    exact Gives.ret (Or.inl ⟨rfl, fun j hj => hno j (by omega)⟩)
  | succ d ih =>
    intro k p hp hk hno
    obtain ⟨k, rfl⟩ : ∃ m, k = m + 1 := ⟨k - 1, by omega⟩
    simp only [spec_l3At.l0]
    rw [if_pos (by omega), if_pos (by omega)]
    refine Gives.ite (fun h => Gives.ret (Or.inr ⟨p, rfl, by omega, h, hno⟩)) (fun h => ?_)
    rw [w_succ (by omega)]
    refine ih k (p + 1) (by omega) (by omega) (fun j hj => ?_)
    by_cases e : j = p
    · rw [e]; exact h
    · exact hno j (by omega)
theorem at_gives (a s m : Int) (K : List Int) (V : List ByteArray) (x : Int) (hK : K.length ≤ 1000) {k : Nat} (hk : K.length < k) : Gives (spec_l3At.f k a s m K V x) (IdxOf K x) := by
  unfold spec_l3At.f
  exact at_from a s m K V x hK K.length k 0 (by omega) hk (fun j hj => absurd hj (by omega))
theorem shape_eq (a s m : Int) (K : List Int) (V : List ByteArray) : Gives (spec_l3Shape.f a s m K V) (fun b => b = true ↔ ShapeOk a s m K V) := by
  unfold spec_l3Shape.f
  simp only [l1In_eq, Option.bind_some, decide_eq_true_eq]
  have no : ¬ ShapeOk a s m K V → Gives (some false) (fun b => b = true ↔ ShapeOk a s m K V) := fun h => Gives.ret ⟨fun e => (by cases e), fun e => absurd e h⟩
  refine Gives.ite (fun h1 => ?_) (fun h1 => no (fun z => h1 z.1))
  refine Gives.ite (fun h2 => ?_) (fun h2 => no (fun z => h2 z.2.1))
  refine Gives.ite (fun h3 => ?_) (fun h3 => no (fun z => h3 z.2.2.1))
  refine Gives.ite (fun h4 => ?_) (fun h4 => no (fun z => h4 (by have := z.2.2.2.1; omega)))
  refine Gives.ret ?_
  rw [decide_eq_true_eq]
  exact ⟨fun h => ⟨h1, h2, h3, by omega, h⟩, fun z => z.2.2.2.2⟩
theorem l1_run (a s m : Int) (K : List Int) (V : List ByteArray) {p : Nat} (hp : p < K.length) (hK : K.length ≤ 8) (t : Nat) : ∀ (k q : Nat), q + t = p → (∀ j : Nat, j < q → rd K j ≠ rd K p) →
    ((¬ ∀ j : Nat, j < p → rd K j ≠ rd K p) ∧ spec_l3Ok.l1 (k + t + 1) (p : Int) (q : Int) a s m K V = some false) ∨ ((∀ j : Nat, j < p → rd K j ≠ rd K p) ∧ spec_l3Ok.l1 (k + t + 1) (p : Int) (q : Int) a s m K V = spec_l3Ok.l0 k ((p + 1 : Nat) : Int) a s m K V) := by
  induction t with
  | zero =>
    intro k q hq hno
    right
    refine ⟨fun j hj => hno j (by omega), ?_⟩
    simp only [spec_l3Ok.l1]
    rw [if_neg (by omega), w_succ (by omega)]
  | succ t ih =>
    intro k q hq hno
    have e : spec_l3Ok.l1 (k + (t + 1) + 1) (p : Int) (q : Int) a s m K V = if rd K q = rd K p then some false else spec_l3Ok.l1 (k + t + 1) (p : Int) ((q + 1 : Nat) : Int) a s m K V := by
      simp only [spec_l3Ok.l1]
      rw [if_pos (by omega), if_pos (by omega), if_pos (by omega), if_pos (by omega), if_pos (by omega), w_succ (by omega)]
      rfl
    rw [e]
    by_cases h : rd K q = rd K p
    · left
      exact ⟨fun z => z q (by omega) h, if_pos h⟩
    · rw [if_neg h]
      refine ih k (q + 1) (by omega) (fun j hj => ?_)
      by_cases e : j = q
      · rw [e]; exact h
      · exact hno j (by omega)
theorem rowsS (a s m : Int) (K : List Int) (V : List ByteArray) (hl : K.length = V.length) (hK : K.length ≤ 8) (d : Nat) : ∀ (k p : Nat), p + d = K.length → 12 * d < k →
    Gives (spec_l3Ok.l0 k (p : Int) a s m K V) (fun b => b = true ↔ ∀ i : Nat, p ≤ i → i < K.length → RowOk a s K V i) := by
  induction d with
  | zero =>
    intro k p hp hk
    obtain ⟨k, rfl⟩ : ∃ m, k = m + 1 := ⟨k - 1, by omega⟩
    simp only [spec_l3Ok.l0]
    rw [if_neg (by omega)]
    exact Gives.ret ⟨fun _ i h1 h2 => absurd h1 (by omega), fun _ => rfl⟩
  | succ d ih =>
    intro k p hp hk
    obtain ⟨k, rfl⟩ : ∃ m, k = (m + p + 1) + 2 := ⟨k - p - 3, by omega⟩
    have bad : ¬ RowOk a s K V p → Gives (spec_l3Ok.j2 (k + p + 1 + 1) (p : Int) true a s m K V) (fun b => b = true ↔ ∀ i : Nat, p ≤ i → i < K.length → RowOk a s K V i) := by
      intro h
      simp only [spec_l3Ok.j2]
      rw [if_pos trivial]
      exact Gives.ret ⟨fun e => (by cases e), fun e => absurd (e p (Nat.le_refl p) (by omega)) h⟩
    have good : ((rdOf ByteArray.empty V (p : Int)).size : Int) = s → (0 ≤ rd K (p : Int) ∧ rd K (p : Int) ≤ 4294967295) → (a = 1 → rd K (p : Int) = p) → Gives (spec_l3Ok.j2 (k + p + 1 + 1) (p : Int) false a s m K V) (fun b => b = true ↔ ∀ i : Nat, p ≤ i → i < K.length → RowOk a s K V i) := by
      intro h1 h2 h3
      simp only [spec_l3Ok.j2]
      rw [if_neg (by decide)]
      rcases l1_run a s m K V (p := p) (by omega) hK p k 0 (by omega) (fun j hj => absurd hj (by omega)) with ⟨hn, e⟩ | ⟨hy, e⟩
      · rw [show (0 : Int) = ((0 : Nat) : Int) from rfl, e]
        exact Gives.ret ⟨fun e => (by cases e), fun e => absurd (e p (Nat.le_refl p) (by omega)).2.2.2 hn⟩
      · rw [show (0 : Int) = ((0 : Nat) : Int) from rfl, e]
        refine (ih k (p + 1) (by omega) (by omega)).mono fun b hb => ?_
        rw [hb, rows_step (p := p) (by omega)]
        exact ⟨fun z => ⟨⟨h1, h2, h3, hy⟩, z⟩, fun z => z.2⟩
    simp only [spec_l3Ok.l0]
    rw [if_pos (by omega), if_pos (by omega), if_pos (by omega)]
    refine Gives.ite (fun h1 => ?_) (fun h1 => bad (fun r => h1 r.1))
    rw [l1In_eq]
    simp only [Option.bind_some, decide_eq_true_eq]
    refine Gives.ite (fun h2 => ?_) (fun h2 => bad (fun r => h2 r.2.1))
    refine Gives.ite (fun h3 => ?_) (fun h3 => good h1 h2 (fun z => absurd z h3))
    by_cases h4 : rd K p = p
    · rw [show (rd K (p : Int) != (p : Int)) = false from bne_eq_false_iff_eq.mpr h4]; exact good h1 h2 (fun _ => h4)
    · rw [show (rd K (p : Int) != (p : Int)) = true from bne_iff_ne.mpr h4]; exact bad (fun r => h4 (r.2.2.1 h3))
theorem specTab_gives (a s m : Int) (K : List Int) (V : List ByteArray) {k : Nat} (hk : 110 < k) : Gives (spec_l3Ok.f k a s m K V) (fun b => b = true ↔ TabOk a s m K V) := by
  obtain ⟨k, rfl⟩ : ∃ m, k = m + 1 := ⟨k - 1, by omega⟩
  have bad : ¬ TabOk a s m K V → Gives (spec_l3Ok.j0 (k + 1) true a s m K V) (fun b => b = true ↔ TabOk a s m K V) := by
    intro h
    simp only [spec_l3Ok.j0]
    rw [if_pos trivial]
    exact Gives.ret ⟨fun e => (by cases e), fun e => absurd e h⟩
  have good : ShapeOk a s m K V → (a = 1 → (K.length : Int) = m) → Gives (spec_l3Ok.j0 (k + 1) false a s m K V) (fun b => b = true ↔ TabOk a s m K V) := by
    intro h g
    simp only [spec_l3Ok.j0]
    rw [if_neg (by decide)]
    have h1 := h.2.2.1
    have h2 := h.2.2.2.2
    refine (rowsS a s m K V h.2.2.2.1 (by omega) K.length k 0 (by omega) (by omega)).mono fun b hb => ?_
    rw [hb]
    exact ⟨fun z => ⟨h, g, fun i hi => z i (Nat.zero_le i) hi⟩, fun z i _ hi => z.2.2 i hi⟩
  unfold spec_l3Ok.f
  refine (shape_eq a s m K V).bind fun b hb => ?_
  refine Gives.ite (fun h1 => ?_) (fun h1 => bad (fun z => h1 (hb.2 z.1)))
  have hs := hb.1 h1
  refine Gives.ite (fun h4 => ?_) (fun h4 => good hs (fun z => absurd z h4))
  by_cases h5 : (K.length : Int) = m
  · rw [show ((K.length : Int) != m) = false from bne_eq_false_iff_eq.mpr h5]; exact good hs (fun _ => h5)
  · rw [show ((K.length : Int) != m) = true from bne_iff_ne.mpr h5]; exact bad (fun z => h5 (z.2.1 h4))
/-- A table of few rows. -/
def TB (n : Nat) (s : Int) (K : List Int) (V : List ByteArray) : Prop := 0 ≤ s ∧ s ≤ 8 ∧ K.length ≤ n ∧ V.length ≤ n
theorem zero_gives {s : Int} (h0 : 0 ≤ s) (h1 : s ≤ 9) : Gives (spec_l3Zero.f s) (fun _ => True) := by
  unfold spec_l3Zero.f
  rw [if_pos h0, if_pos (by omega)]
  exact Gives.ret trivial
theorem new_loop {s : Int} (hs : 0 ≤ s ∧ s ≤ 8) {M : Nat} (hM : M ≤ 8) (a0 s0 m0 : Int) (d : Nat) : ∀ (k p : Nat) (K : List Int) (V : List ByteArray), p + d = M → d < k → K.length ≤ p → V.length ≤ p →
    Gives (spec_l3New.l0 k s (M : Int) (p : Int) a0 s0 m0 K V) (fun v => v.2.1 = s0 ∧ v.2.2.2.1.length ≤ M ∧ v.2.2.2.2.length ≤ M) := by
  induction d with
  | zero =>
    intro k p K V hp hk h1 h2
    obtain ⟨k, rfl⟩ : ∃ m, k = m + 1 := ⟨k - 1, by omega⟩
    simp only [spec_l3New.l0]
    rw [if_neg (by omega)]
    exact Gives.ret ⟨rfl, by show K.length ≤ M; omega, by show V.length ≤ M; omega⟩
  | succ d ih =>
    intro k p K V hp hk h1 h2
    obtain ⟨k, rfl⟩ : ∃ m, k = m + 1 := ⟨k - 1, by omega⟩
    simp only [spec_l3New.l0]
    rw [if_pos (by omega), if_pos (by omega)]
    refine (zero_gives hs.1 (by omega)).bind fun z _ => ?_
    rw [if_pos (by omega), w_succ (by omega)]
    exact ih k (p + 1) _ _ (by omega) (by omega) (by simp; omega) (by simp; omega)
theorem tableNew_gives (a s m : Int) {k : Nat} (hk : 20 < k) : Gives (spec_TableNew.f k a s m) (fun v => TB 8 v.2.1 v.2.2.2.1 v.2.2.2.2) := by
  obtain ⟨k, rfl⟩ : ∃ m, k = m + 1 := ⟨k - 1, by omega⟩
  have bad : Gives (spec_TableNew.j0 (k + 1) a s m true) (fun v => TB 8 v.2.1 v.2.2.2.1 v.2.2.2.2) := by
    simp only [spec_TableNew.j0]
    rw [if_pos trivial]
    exact Gives.ret ⟨by decide, by decide, by simp, by simp⟩
  unfold spec_TableNew.f
  simp only [l1In_eq, Option.bind_some, decide_eq_true_eq]
  refine Gives.ite (fun h1 => ?_) (fun _ => bad)
  refine Gives.ite (fun h2 => ?_) (fun _ => bad)
  by_cases h3 : 1 ≤ m ∧ m ≤ 8
  · rw [decide_eq_true h3]
    simp only [spec_TableNew.j0]
    rw [if_neg (by decide)]
    unfold spec_l3New.f
    obtain ⟨M, rfl⟩ := Int.eq_ofNat_of_zero_le (show 0 ≤ m by omega)
    have hM : M ≤ 8 := by omega
    refine Gives.bind (P := fun v => TB 8 v.2.1 v.2.2.2.1 v.2.2.2.2) (Gives.ite (fun _ => ?_) (fun _ => ?_)) fun v hv => Gives.ret hv
    · refine (new_loop ⟨by omega, h2.2⟩ hM a s (M : Int) M k 0 [] [] (by omega) (by omega) (by simp) (by simp)).mono fun v hv => ?_
      obtain ⟨e, g1, g2⟩ := hv
      exact ⟨by rw [e]; omega, by rw [e]; omega, by omega, by omega⟩
    · exact Gives.ret ⟨by show 0 ≤ s; omega, h2.2, by simp, by simp⟩
  · rw [decide_eq_false h3]; exact bad
theorem bytes_loop {N : Nat} (hN : N ≤ 9) (d : Nat) : ∀ (k p : Nat) (x : Int) (L : List Int), p + d = N → d < k → L.length ≤ p → Gives (spec_l4Bytes.l0 k x (N : Int) L (p : Int)) (fun _ => True) := by
  induction d with
  | zero =>
    intro k p x L hp hk h1
    obtain ⟨k, rfl⟩ : ∃ m, k = m + 1 := ⟨k - 1, by omega⟩
    simp only [spec_l4Bytes.l0]
    rw [if_neg (by omega)]
    exact Gives.ret trivial
  | succ d ih =>
    intro k p x L hp hk h1
    obtain ⟨k, rfl⟩ : ∃ m, k = m + 1 := ⟨k - 1, by omega⟩
    simp only [spec_l4Bytes.l0]
    rw [if_pos (by omega), if_pos (by omega), w_succ (by omega)]
    exact ih k (p + 1) _ _ (by omega) (by omega) (by simp; omega)
theorem l4Bytes_gives (x : Int) {s : Int} (h0 : 0 ≤ s) (h1 : s ≤ 9) {k : Nat} (hk : 20 < k) : Gives (spec_l4Bytes.f k x s) (fun _ => True) := by
  unfold spec_l4Bytes.f
  obtain ⟨N, rfl⟩ := Int.eq_ofNat_of_zero_le h0
  exact bytes_loop (by omega) N k 0 x [] (by omega) (by omega) (by simp)
theorem copy_gives (a s m : Int) {K : List Int} {V : List ByteArray} {n : Nat} (hn : n ≤ 1000) (h : TB n s K V) : Gives (spec_l3Copy.f a s m K V) (fun v => v = (a, s, m, K, V)) := by
  obtain ⟨_, _, h1, h2⟩ := h
  unfold spec_l3Copy.f
  simp only [Option.bind_some, List.length_nil, Nat.zero_add, List.nil_append]
  rw [if_pos (by omega), if_pos (by omega)]
  exact Gives.ret rfl
theorem put_gives (a s m : Int) {K : List Int} {V : List ByteArray} (x : Int) (b : ByteArray) {n : Nat} (hn : n ≤ 1000) (h : TB n s K V) (hl : K.length = V.length) {k : Nat} (hk : n < k) : Gives (spec_l3Put.f k a s m K V x b) (fun v => TB (n + 1) v.2.1 v.2.2.2.1 v.2.2.2.2.1) := by
  have h' := h
  obtain ⟨h0, h1, h2, h3⟩ := h'
  unfold spec_l3Put.f
  refine (at_gives a s m K V x (by omega) (by omega)).bind fun v hv => ?_
  have same : TB (n + 1) s K V := ⟨h0, h1, by omega, by omega⟩
  refine Gives.ite (fun hp => ?_) (fun _ => ?_)
  · have hlt : v < (V.length : Int) := by
      rcases hv with ⟨e, _⟩ | ⟨q, e, hq, _⟩
      · omega
      · omega
    rw [if_pos hp, if_pos hlt]
    exact Gives.ret ⟨h0, h1, by show K.length ≤ _; omega, by show (V.set _ _).length ≤ _; simp; omega⟩
  refine Gives.ite (fun _ => Gives.ret same) (fun _ => ?_)
  refine Gives.ite (fun _ => Gives.ret same) (fun _ => ?_)
  rw [if_pos (by omega), if_pos (by omega)]
  exact Gives.ret ⟨h0, h1, by show (K ++ [x]).length ≤ _; simp; omega, by show (V ++ [b]).length ≤ _; simp; omega⟩
theorem tablePut_gives (a s m : Int) {K : List Int} {V : List ByteArray} (x : Int) (b : ByteArray) {n : Nat} (hn : n ≤ 50) (h : TB n s K V) {k : Nat} (hk : 111 < k) : Gives (spec_TablePut.f k a s m K V x b) (fun v => TB (n + 1) v.2.1 v.2.2.2.1 v.2.2.2.2.1) := by
  obtain ⟨k, rfl⟩ : ∃ m, k = m + 1 := ⟨k - 1, by omega⟩
  have h' := h
  obtain ⟨h0, h1, h2, h3⟩ := h'
  have bad : Gives (spec_TablePut.j0 (k + 1) x b true a s m K V) (fun v => TB (n + 1) v.2.1 v.2.2.2.1 v.2.2.2.2.1) := by
    simp only [spec_TablePut.j0]
    rw [if_pos trivial]
    refine (copy_gives a s m (by omega) h).bind fun v hv => ?_
    subst hv
    exact Gives.ret ⟨h0, h1, by show K.length ≤ _; omega, by show V.length ≤ _; omega⟩
  unfold spec_TablePut.f
  refine (specTab_gives a s m K V (by omega)).bind fun t ht => ?_
  refine Gives.ite (fun e => ?_) (fun _ => Gives.ret ⟨by decide, by decide, by simp, by simp⟩)
  have hT := ht.1 e
  rw [l1In_eq]
  simp only [Option.bind_some, decide_eq_true_eq]
  refine Gives.ite (fun _ => ?_) (fun _ => bad)
  cases hc : ((b.size : Int) != s) with
  | true => exact bad
  | false =>
    simp only [spec_TablePut.j0]
    rw [if_neg (by decide)]
    refine (copy_gives a s m (by omega) h).bind fun v hv => ?_
    subst hv
    exact (put_gives a s m x b (by omega) h hT.1.2.2.2.1 (by omega)).bind fun v hv => Gives.ret hv
theorem table_loop {b : List Int} (hb : Bytes b) (d : Nat) : ∀ (k : Nat) (c p a s m : Int) (K : List Int) (V : List ByteArray) (n : Nat), c = d → 0 ≤ p → p + 4 * d ≤ 9000 → TB n s K V → n + d ≤ 50 → d + 112 < k →
    Gives (spec_l20Table.l0 k c b p a s m K V) (fun v => TB (n + d) v.2.1 v.2.2.2.1 v.2.2.2.2.1 ∧ 0 ≤ v.2.2.2.2.2 ∧ v.2.2.2.2.2 ≤ p + 4 * d) := by
  induction d with
  | zero =>
    intro k c p a s m K V n hc h0 h1 hT hn hk
    obtain ⟨k, rfl⟩ : ∃ m, k = m + 1 := ⟨k - 1, by omega⟩
    simp only [spec_l20Table.l0]
    rw [if_neg (by omega)]
    exact Gives.ret ⟨hT, h0, by show p ≤ _; omega⟩
  | succ d ih =>
    intro k c p a s m K V n hc h0 h1 hT hn hk
    obtain ⟨k, rfl⟩ : ∃ m, k = m + 1 := ⟨k - 1, by omega⟩
    simp only [spec_l20Table.l0]
    rw [if_pos (by omega)]
    refine (one_gives hb h0 (by omega) (by decide) (by omega)).bind fun v hv => ?_
    have hv2 := hv.2
    refine (number_gives hb (by omega) (by omega) (by omega)).bind fun u hu => ?_
    obtain ⟨_, hu1, hu2⟩ := hu
    refine (l4Bytes_gives u.1 hT.1 (by have := hT.2.1; omega) (by omega)).bind fun w _ => ?_
    refine (tablePut_gives a s m v.1 w (by omega) hT (by omega)).bind fun t ht => ?_
    rw [wrap64_id (n := c - 1) (by omega) (by omega)]
    refine (ih k (c - 1) u.2 t.1 t.2.1 t.2.2.1 t.2.2.2.1 t.2.2.2.2.1 (n + 1) (by omega) hu1 (by omega) ht (by omega) (by omega)).mono fun r hr => ?_
    obtain ⟨r1, r2, r3⟩ := hr
    exact ⟨by rw [show n + (d + 1) = n + 1 + d by omega]; exact r1, r2, by omega⟩
theorem table_gives {b : List Int} (hb : Bytes b) {p : Int} (h0 : 0 ≤ p) (h1 : p ≤ 8000) {k : Nat} (hk : 140 < k) : Gives (spec_l20Table.f k b p) (fun v => TB 13 v.2.1 v.2.2.2.1 v.2.2.2.2.1 ∧ 0 ≤ v.2.2.2.2.2 ∧ v.2.2.2.2.2 ≤ p + 24) := by
  unfold spec_l20Table.f
  refine (pick_gives hb h0 (by omega) (by decide) (by omega)).bind fun u hu => ?_
  obtain ⟨_, _, hu⟩ := hu
  refine (one_gives hb (by omega) (by omega) (by decide) (by omega)).bind fun v hv => ?_
  have hv2 := hv.2
  refine (one_gives hb (by omega) (by omega) (by decide) (by omega)).bind fun w hw => ?_
  have hw2 := hw.2
  refine (tableNew_gives _ v.1 w.1 (by omega)).bind fun t ht => ?_
  refine (pick_gives hb (by omega) (by omega) (by decide) (by omega)).bind fun c hc => ?_
  obtain ⟨c0, c1, c2⟩ := hc
  obtain ⟨d, hd⟩ := Int.eq_ofNat_of_zero_le c0
  refine (table_loop hb d k c.1 c.2 _ _ _ _ _ 8 hd (by omega) (by omega) ht (by omega) (by omega)).mono fun r hr => ?_
  obtain ⟨r1, r2, r3⟩ := hr
  exact ⟨⟨r1.1, r1.2.1, by have := r1.2.2.1; omega, by have := r1.2.2.2; omega⟩, r2, by omega⟩
theorem anyTable_gives {b : List Int} (hb : Bytes b) {p : Int} (h0 : 0 ≤ p) (h1 : p ≤ 7000) {k : Nat} (hk : 140 < k) : Gives (spec_l20AnyTable.f k b p) (fun v => v.2.2.2.1.length ≤ 14 ∧ v.2.2.2.2.1.length ≤ 14 ∧ 0 ≤ v.2.2.2.2.2 ∧ v.2.2.2.2.2 ≤ p + 30) := by
  unfold spec_l20AnyTable.f
  refine (table_gives hb h0 (by omega) hk).bind fun t ht => ?_
  obtain ⟨⟨s0, s1, t1, t2⟩, t3, t4⟩ := ht
  refine (pick_gives hb t3 (by omega) (by decide) (by omega)).bind fun u hu => ?_
  obtain ⟨_, _, hu⟩ := hu
  refine Gives.ite (fun _ => ?_) (fun _ => Gives.ite (fun _ => ?_) (fun _ => Gives.ite (fun _ => ?_) (fun _ => Gives.ite (fun _ => ?_) (fun _ => ?_))))
  · refine (one_gives hb (by omega) (by omega) (by decide) (by omega)).bind fun v hv => ?_
    have hv2 := hv.2
    exact Gives.ret ⟨by show t.2.2.2.1.length ≤ 14; omega, by show t.2.2.2.2.1.length ≤ 14; omega, by show 0 ≤ v.2; omega, by show v.2 ≤ _; omega⟩
  · refine (one_gives hb (by omega) (by omega) (by decide) (by omega)).bind fun v hv => ?_
    have hv2 := hv.2
    exact Gives.ret ⟨by show t.2.2.2.1.length ≤ 14; omega, by show t.2.2.2.2.1.length ≤ 14; omega, by show 0 ≤ v.2; omega, by show v.2 ≤ _; omega⟩
  · rw [if_pos (by omega)]
    exact Gives.ret ⟨by show (t.2.2.2.1 ++ [5]).length ≤ 14; simp; omega, by show t.2.2.2.2.1.length ≤ 14; omega, by show 0 ≤ u.2; omega, by show u.2 ≤ _; omega⟩
  · rw [if_pos (by omega)]
    refine (zero_gives s0 (by omega)).bind fun z _ => ?_
    rw [if_pos (by omega)]
    exact Gives.ret ⟨by show (t.2.2.2.1 ++ [0]).length ≤ 14; simp; omega, by show (t.2.2.2.2.1 ++ [z]).length ≤ 14; simp; omega, by show 0 ≤ u.2; omega, by show u.2 ≤ _; omega⟩
  · exact Gives.ret ⟨by show t.2.2.2.1.length ≤ 14; omega, by show t.2.2.2.2.1.length ≤ 14; omega, by show 0 ≤ u.2; omega, by show u.2 ≤ _; omega⟩
/-- What is told of a key. -/
def LookOf (a s m : Int) (K : List Int) (V : List ByteArray) (key : Int) (v : ByteArray × Bool) : Prop :=
  (¬ TabOk a s m K V ∧ v = (⟨#[]⟩, false)) ∨ (TabOk a s m K V ∧ ∃ i, IdxOf K key i ∧ ((i < 0 ∧ v = (⟨#[]⟩, false)) ∨ (0 ≤ i ∧ v = (rdOf ByteArray.empty V i, true))))
theorem idx_lt {K : List Int} {x i : Int} (h : IdxOf K x i) : i < (K.length : Int) := by
  rcases h with ⟨e, _⟩ | ⟨n, e, hn, _⟩ <;> omega
theorem implLook_gives (a s m : Int) (K : List Int) (V : List ByteArray) (key : Int) (hK : K.length ≤ 100) {k : Nat} (hk : 140 < k) : Gives (impl_TableLook.f k a s m K V key) (LookOf a s m K V key) := by
  unfold impl_TableLook.f
  refine (find_gives a s m K V key (by omega) (by omega)).bind fun i hi => ?_
  refine (implTab_gives a s m K V (by omega)).bind fun t ht => ?_
  refine Gives.ite (fun e => ?_) (fun e => Gives.ret (Or.inl ⟨fun z => e (ht.2 z), rfl⟩))
  have hT := ht.1 e
  refine Gives.ite (fun h => Gives.ret (Or.inr ⟨hT, i, hi, Or.inl ⟨h, rfl⟩⟩)) (fun h => ?_)
  have hl := idx_lt hi
  have hv := hT.1.2.2.2.1
  rw [if_pos (by omega), if_pos (by omega)]
  exact Gives.ret (Or.inr ⟨hT, i, hi, Or.inr ⟨by omega, rfl⟩⟩)

/-- Of the first p keys, v is the least above x (-1: none is). -/
def LA (K : List Int) (x v : Int) (p : Nat) : Prop := (v = -1 ∧ ∀ j : Nat, j < p → rd K j ≤ x) ∨ ((∃ j : Nat, j < p ∧ rd K j = v) ∧ v > x ∧ ∀ i : Nat, i < p → rd K i > x → v ≤ rd K i)
theorem LA.unique {K : List Int} {x v u : Int} {p : Nat} (h : LA K x v p) (g : LA K x u p) : v = u := by
  rcases h with ⟨rfl, h⟩ | ⟨⟨j, hj, rfl⟩, h1, h2⟩ <;> rcases g with ⟨rfl, g⟩ | ⟨⟨i, hi, rfl⟩, g1, g2⟩
  · rfl
  · have := h i hi; omega
  · have := g j hj; omega
  · have := h2 i hi g1; have := g2 j hj h1; omega
theorem LA.stay {K : List Int} {x v : Int} {p : Nat} (h : LA K x v p) (hp : rd K p > x → 0 ≤ v ∧ v ≤ rd K p) : LA K x v (p + 1) := by
  rcases h with ⟨rfl, h⟩ | ⟨⟨j, hj, e⟩, h1, h2⟩
  · refine Or.inl ⟨rfl, fun j hj => ?_⟩
    by_cases e : j = p
    · rw [e]; exact Int.not_lt.1 (fun z => by have := (hp z).1; omega)
    · exact h j (by omega)
  · refine Or.inr ⟨⟨j, by omega, e⟩, h1, fun i hi g => ?_⟩
    by_cases e : i = p
    · rw [e] at g ⊢; exact (hp g).2
    · exact h2 i (by omega) g
theorem LA.take {K : List Int} {x v : Int} {p : Nat} (h : LA K x v p) (hp : rd K p > x) (hv : v < 0 ∨ rd K p < v) (h0 : ∀ j : Nat, j < p → 0 ≤ rd K j) : LA K x (rd K p) (p + 1) := by
  refine Or.inr ⟨⟨p, by omega, rfl⟩, hp, fun i hi g => ?_⟩
  by_cases e : i = p
  · rw [e]; exact Int.le_refl _
  · rcases h with ⟨rfl, h⟩ | ⟨⟨j, hj, e'⟩, h1, h2⟩
    · have := h i (by omega); omega
    · have := h2 i (by omega) g
      have := h0 j hj
      omega
def nextV (v : Int) : Int × Bool := if v < 0 then (-1, false) else (v, true)
def NextOf (a s m : Int) (K : List Int) (V : List ByteArray) (x : Int) (r : Int × Bool) : Prop := (¬ TabOk a s m K V ∧ r = (-1, false)) ∨ (TabOk a s m K V ∧ ∃ v, LA K x v K.length ∧ r = nextV v)
theorem NextOf.unique {a s m : Int} {K : List Int} {V : List ByteArray} {x : Int} {r q : Int × Bool} (h : NextOf a s m K V x r) (g : NextOf a s m K V x q) : r = q := by
  rcases h with ⟨n, rfl⟩ | ⟨t, v, hv, rfl⟩ <;> rcases g with ⟨n', rfl⟩ | ⟨t', u, hu, rfl⟩
  · rfl
  · exact absurd t' n
  · exact absurd t n'
  · rw [LA.unique hv hu]
theorem tab_pos {a s m : Int} {K : List Int} {V : List ByteArray} (h : TabOk a s m K V) : ∀ j : Nat, j < K.length → 0 ≤ rd K j := fun j hj => (h.2.2 j hj).2.1.1
theorem implNext_from (a s m : Int) (K : List Int) (V : List ByteArray) (x : Int) (hK : K.length ≤ 100) (d : Nat) : ∀ (k p : Nat) (v : Int), p + d = K.length → 2 * d + 41 < k → ((∀ j : Nat, j < K.length → 0 ≤ rd K j) → LA K x v p) →
    Gives (impl_TableNext.l0 k x v K (K.length : Int) (p : Int) a s m K V) (NextOf a s m K V x) := by
  induction d with
  | zero =>
    intro k p v hp hk hv
    obtain ⟨k, rfl⟩ : ∃ m, k = m + 1 := ⟨k - 1, by omega⟩
    simp only [impl_TableNext.l0]
    rw [if_neg (by omega)]
    rw [show p = K.length by omega] at hv
    refine (implTab_gives a s m K V (by omega)).bind fun t ht => ?_
    refine Gives.ite (fun e => ?_) (fun e => Gives.ret (Or.inl ⟨fun z => e (ht.2 z), rfl⟩))
    have hT := ht.1 e
    refine Gives.ite (fun h => Gives.ret (Or.inr ⟨hT, v, hv (tab_pos hT), ?_⟩)) (fun h => Gives.ret (Or.inr ⟨hT, v, hv (tab_pos hT), ?_⟩))
    · unfold nextV; rw [if_pos h]
    · unfold nextV; rw [if_neg h]
  | succ d ih =>
    intro k p v hp hk hv
    obtain ⟨k, rfl⟩ : ∃ m, k = m + 2 := ⟨k - 2, by omega⟩
    have yes : rd K p > x → (v < 0 ∨ rd K p < v) → Gives (impl_TableNext.j1 (k + 1) x v (rd K (p : Int)) K (K.length : Int) (p : Int) true a s m K V) (NextOf a s m K V x) := by
      intro h1 h2
      simp only [impl_TableNext.j1]
      rw [if_pos trivial, w_succ (by omega)]
      exact ih k (p + 1) _ (by omega) (by omega) (fun h0 => (hv h0).take h1 h2 (fun j hj => h0 j (by omega)))
    have no : (rd K p > x → 0 ≤ v ∧ v ≤ rd K p) → Gives (impl_TableNext.j1 (k + 1) x v (rd K (p : Int)) K (K.length : Int) (p : Int) false a s m K V) (NextOf a s m K V x) := by
      intro h1
      simp only [impl_TableNext.j1]
      rw [if_neg (by decide), w_succ (by omega)]
      exact ih k (p + 1) _ (by omega) (by omega) (fun h0 => (hv h0).stay h1)
    simp only [impl_TableNext.l0]
    rw [if_pos (by omega), if_pos (by omega), if_pos (by omega)]
    refine Gives.ite (fun h1 => Gives.ite (fun h2 => yes h1 (Or.inl h2)) (fun h2 => ?_)) (fun h1 => no (fun z => absurd z h1))
    by_cases h3 : rd K p < v
    · rw [decide_eq_true h3]; exact yes h1 (Or.inr h3)
    · rw [decide_eq_false h3]; exact no (fun _ => by omega)
theorem implNext_gives (a s m : Int) (K : List Int) (V : List ByteArray) (x : Int) (hK : K.length ≤ 20) {k : Nat} (hk : 140 < k) : Gives (impl_TableNext.f k a s m K V x) (NextOf a s m K V x) := by
  unfold impl_TableNext.f
  exact implNext_from a s m K V x (by omega) K.length k 0 (-1) (by omega) (by omega) (fun _ => Or.inl ⟨rfl, fun j hj => absurd hj (by omega)⟩)
theorem specNext_from (a s m : Int) (K : List Int) (V : List ByteArray) (x : Int) (hT : TabOk a s m K V) (hK : K.length ≤ 100) (d : Nat) : ∀ (k p : Nat) (v : Int), p + d = K.length → 2 * d < k → LA K x v p →
    Gives (spec_TableNext.l0 k x v (p : Int) a s m K V) (NextOf a s m K V x) := by
  have h0 := tab_pos hT
  induction d with
  | zero =>
    intro k p v hp hk hv
    obtain ⟨k, rfl⟩ : ∃ m, k = m + 1 := ⟨k - 1, by omega⟩
    simp only [spec_TableNext.l0]
    rw [if_neg (by omega)]
    rw [show p = K.length by omega] at hv
    refine Gives.ret (Or.inr ⟨hT, v, hv, ?_⟩)
    unfold nextV
    by_cases h : v < 0
    · rw [if_pos h, decide_eq_false (by omega)]
      rcases hv with ⟨rfl, _⟩ | ⟨⟨j, hj, e⟩, _⟩
      · rfl
      · have := h0 j hj; omega
    · rw [if_neg h, decide_eq_true (by omega)]
  | succ d ih =>
    intro k p v hp hk hv
    obtain ⟨k, rfl⟩ : ∃ m, k = m + 2 := ⟨k - 2, by omega⟩
    have yes : rd K p > x → (v < 0 ∨ rd K p < v) → Gives (spec_TableNext.j1 (k + 1) x v (p : Int) true a s m K V) (NextOf a s m K V x) := by
      intro h1 h2
      simp only [spec_TableNext.j1]
      rw [if_pos trivial, if_pos (by omega), if_pos (by omega), w_succ (by omega)]
      exact ih k (p + 1) _ (by omega) (by omega) (hv.take h1 h2 (fun j hj => h0 j (by omega)))
    have no : (rd K p > x → 0 ≤ v ∧ v ≤ rd K p) → Gives (spec_TableNext.j1 (k + 1) x v (p : Int) false a s m K V) (NextOf a s m K V x) := by
      intro h1
      simp only [spec_TableNext.j1]
      rw [if_neg (by decide), w_succ (by omega)]
      exact ih k (p + 1) _ (by omega) (by omega) (hv.stay h1)
    simp only [spec_TableNext.l0]
    rw [if_pos (by omega), if_pos (by omega)]
    refine Gives.ite (fun h1 => Gives.ite (fun h2 => yes h1 (Or.inl h2)) (fun h2 => ?_)) (fun h1 => no (fun z => absurd z h1))
    by_cases h3 : rd K p < v
    · rw [decide_eq_true h3]; exact yes h1 (Or.inr h3)
    · rw [decide_eq_false h3]; exact no (fun _ => by omega)
theorem specNext_gives (a s m : Int) (K : List Int) (V : List ByteArray) (x : Int) (hK : K.length ≤ 20) {k : Nat} (hk : 140 < k) : Gives (spec_TableNext.f k a s m K V x) (NextOf a s m K V x) := by
  unfold spec_TableNext.f
  refine (specTab_gives a s m K V (by omega)).bind fun t ht => ?_
  refine Gives.ite (fun e => ?_) (fun e => Gives.ret (Or.inl ⟨fun z => e (ht.2 z), rfl⟩))
  exact specNext_from a s m K V x (ht.1 e) (by omega) K.length k 0 (-1) (by omega) (by omega) (Or.inl ⟨rfl, fun j hj => absurd hj (by omega)⟩)
/-- How many of the first p keys are not above x. -/
def cnt (K : List Int) (x : Int) : Nat → Nat
  | 0 => 0
  | p + 1 => cnt K x p + if rd K p ≤ x then 1 else 0
theorem cnt_le (K : List Int) (x : Int) (p : Nat) : cnt K x p ≤ p := by
  induction p with
  | zero => exact Nat.le_refl 0
  | succ p ih => unfold cnt; split <;> omega
theorem cnt_all {K : List Int} {x : Int} {p : Nat} (h : ∀ j : Nat, j < p → rd K j ≤ x) : cnt K x p = p := by
  induction p with
  | zero => rfl
  | succ p ih => unfold cnt; rw [if_pos (h p (by omega)), ih (fun j hj => h j (by omega))]
theorem cnt_none {K : List Int} {x : Int} {p : Nat} (h : ∀ j : Nat, j < p → ¬ rd K j ≤ x) : cnt K x p = 0 := by
  induction p with
  | zero => rfl
  | succ p ih => unfold cnt; rw [if_neg (h p (by omega)), ih (fun j hj => h j (by omega))]
theorem cnt_next {K : List Int} {x v : Int} {n j : Nat} (hj : rd K j = v) (hx : v > x) (hm : ∀ i : Nat, i < n → rd K i > x → v ≤ rd K i) (hd : ∀ i : Nat, i < n → i ≠ j → rd K i ≠ v) (p : Nat) : p ≤ n → cnt K v p = cnt K x p + if j < p then 1 else 0 := by
  induction p with
  | zero => intro _; rfl
  | succ p ih =>
    intro hp
    have e := ih (by omega)
    unfold cnt
    rw [e]
    by_cases c : p = j
    · subst c
      rw [if_pos (show rd K p ≤ v by omega), if_neg (show ¬ rd K p ≤ x by omega), if_neg (Nat.lt_irrefl p), if_pos (by omega)]
    · have h1 := hd p (by omega) c
      have h2 := hm p (by omega)
      by_cases h3 : rd K p ≤ x
      · rw [if_pos (show rd K p ≤ v by omega), if_pos h3]
        by_cases h4 : j < p
        · rw [if_pos h4, if_pos (by omega)]; try omega
        · rw [if_neg h4, if_neg (by omega)]; try omega
      · have := h2 (by omega)
        rw [if_neg (show ¬ rd K p ≤ v by omega), if_neg h3]
        by_cases h4 : j < p
        · rw [if_pos h4, if_pos (by omega)]; try omega
        · rw [if_neg h4, if_neg (by omega)]; try omega
theorem next_loop (a s m : Int) (K : List Int) (V : List ByteArray) (hT : TabOk a s m K V) (hK : K.length ≤ 20) (key n : Int) (ok : Bool) (hn : ok = true → n > key) (d : Nat) : ∀ (k : Nat) (x : Int), cnt K x K.length + d = K.length → d + 150 < k →
    laws_FnTableNext.l0 k key n ok ((cnt K x K.length : Nat) : Int) x a s m K V = some true := by
  have h0 := tab_pos hT
  have hdis : ∀ j : Nat, j < K.length → ∀ i : Nat, i < K.length → i ≠ j → rd K i ≠ rd K j := by
    intro j hj i hi hij e
    rcases Nat.lt_or_gt_of_ne hij with h | h
    · exact (hT.2.2 j hj).2.2.2 i h e
    · exact (hT.2.2 i hi).2.2.2 j h e.symm
  have key2 : ∀ (k d : Nat) (x : Int), cnt K x K.length + d = K.length → 145 < k → (∀ y, cnt K y K.length = cnt K x K.length + 1 → laws_FnTableNext.l0 k key n ok ((cnt K x K.length + 1 : Nat) : Int) y a s m K V = some true) → laws_FnTableNext.l0 (k + 1) key n ok ((cnt K x K.length : Nat) : Int) x a s m K V = some true := by
    intro k d x hc hk go
    have hle := cnt_le K x K.length
    simp only [laws_FnTableNext.l0]
    obtain ⟨r, hr, hR⟩ := implNext_gives a s m K V x hK (k := k) (by omega)
    rw [hr]
    simp only [Option.bind_some]
    rcases hR with ⟨z, _⟩ | ⟨_, v, hv, rfl⟩
    · exact absurd hT z
    · unfold nextV
      rcases hv with ⟨rfl, hv⟩ | ⟨⟨j, hj, e⟩, h1, h2⟩
      · rw [if_pos (show (-1 : Int) < 0 by decide)]
        have hall := cnt_all hv
        rw [if_neg (by simp), if_pos (by rw [hall])]
        by_cases hk2 : ok = true
        · rw [if_pos hk2, decide_eq_true (hn hk2)]
        · rw [if_neg hk2]
      · have hj0 := h0 j hj
        rw [if_neg (show ¬ v < 0 by omega)]
        obtain ⟨w, hw, hW⟩ := implLook_gives a s m K V v (by omega) (k := k) (by omega)
        have hw2 : w.2 = true := by
          rcases hW with ⟨z, _⟩ | ⟨_, i, hi, g⟩
          · exact absurd hT z
          · rcases g with ⟨g0, rfl⟩ | ⟨g0, rfl⟩
            · rcases hi with ⟨_, hno⟩ | ⟨q, eq, _⟩
              · exact absurd e (hno j hj)
              · omega
            · rfl
        simp only [if_true, hw, Option.bind_some]
        rw [if_neg (by omega), if_pos hw2, w_succ (by omega)]
        refine go v ?_
        rw [cnt_next e h1 h2 (fun i hi hij => by rw [← e]; exact hdis j hj i hi hij) K.length (Nat.le_refl _), if_pos hj]
  induction d with
  | zero =>
    intro k x hc hk
    obtain ⟨k, rfl⟩ : ∃ m, k = m + 1 := ⟨k - 1, by omega⟩
    refine key2 k 0 x hc (by omega) (fun y hy => ?_)
    have := cnt_le K y K.length
    omega
  | succ d ih =>
    intro k x hc hk
    obtain ⟨k, rfl⟩ : ∃ m, k = m + 1 := ⟨k - 1, by omega⟩
    refine key2 k (d + 1) x hc (by omega) (fun y hy => ?_)
    rw [← hy]
    exact ih k y (by omega) (by omega)
theorem drawNext_gives {k : Nat} {l : List Int} (hl : ∀ x ∈ l, (Lit.int .u8 x).wf = true) (hk : 140 < k) : Gives (spec_DrawTableNext.f k l) (fun v => v.2.2.2.1.length ≤ 14) := by
  unfold spec_DrawTableNext.f
  refine (open_gives hl).bind fun b hb => ?_
  obtain ⟨hb, h0⟩ := hb
  refine (anyTable_gives hb (by omega) (by omega) hk).bind fun t ht => ?_
  obtain ⟨t1, t2, t3, t4⟩ := ht
  refine Gives.bind (P := fun _ => True) ?_ fun u _ => Gives.ret t1
  unfold spec_l20Key.f
  exact (one_gives hb t3 (by omega) (by decide) (by omega)).bind fun v hv => Gives.ret trivial
theorem FnTableNext : laws_FnTableNext.Pure := by
  intro l _ _ hl
  refine ⟨300, ?_⟩
  unfold laws_FnTableNext.f
  split
  · rfl
  obtain ⟨v, hv, hlen⟩ := drawNext_gives (k := 300) hl (by decide)
  obtain ⟨a, s, m, K, V, key⟩ := v
  have hlen : K.length ≤ 14 := hlen
  rw [hv]
  obtain ⟨w, hw, hW⟩ := implNext_gives a s m K V key (by omega) (k := 300) (by decide)
  obtain ⟨u, hu, hU⟩ := specNext_gives a s m K V key (by omega) (k := 300) (by decide)
  have e := NextOf.unique hW hU
  subst e
  obtain ⟨t, ht, hT⟩ := implTab_gives a s m K V (k := 300) (by decide)
  simp only [Option.bind_some, hw, hu, ht, if_true, bne_self_eq_false, Bool.false_eq_true, if_false]
  rw [laws_FnTableNext.j0]
  cases t with
  | false => simp
  | true =>
    have ok := hT.1 rfl
    rw [if_neg (by decide)]
    have hz : cnt K (-1) K.length = 0 := cnt_none (fun j hj h => by have := tab_pos ok j hj; omega)
    have := next_loop a s m K V ok (by omega) key w.1 w.2 (by
      intro e
      rcases hW with ⟨z, _⟩ | ⟨_, v, hv, rfl⟩
      · exact absurd ok z
      · unfold nextV at e ⊢
        by_cases h : v < 0
        · rw [if_pos h] at e; cases e
        · rw [if_neg h]
          rcases hv with ⟨rfl, _⟩ | ⟨_, h1, _⟩
          · exact absurd (by decide) h
          · exact h1) K.length 299 (-1) (by omega) (by omega)
    rw [hz] at this
    exact this

end Go.Proofs.Ytcobkligpdaanaa.Pure
