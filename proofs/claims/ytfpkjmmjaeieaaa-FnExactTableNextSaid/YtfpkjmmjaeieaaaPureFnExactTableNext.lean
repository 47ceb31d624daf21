/- The law FnExactTableNext, as a statement about numbers and lists alone: the program and the reference tell the same next key. It holds at every input. -/
import Derived.Test.YtfpkjmmjaeieaaaQ10
import Derived.Test.YtfpkjmmjaeieaaaMath
namespace Go.Proofs.Ytfpkjmmjaeieaaa.Pure
open Go Go.RowKit Go.Proofs.Ytfpkjmmjaeieaaa.Q Go.Proofs.YtfpkjmmjaeieaaaW.PrintWords Go.Proofs.YtfpkjmmjaeieaaaW.PrintLast Go.Proofs.YtfpkjmmjaeieaaaW.PrintMore Rg

theorem l1In_eq (a b c : Int) : spec_l1In.f a b c = some (decide (b ≤ a ∧ a ≤ c)) := by
  unfold spec_l1In.f
  by_cases h : a ≥ b
  · rw [if_pos h]; simp [show b ≤ a from h]
  · rw [if_neg h]; simp [show ¬ b ≤ a from h]
theorem within_eq (a b c : Int) : impl_within.f a b c = some (decide (b ≤ a ∧ a ≤ c)) := by
  unfold impl_within.f
  by_cases h : a ≥ b
  · rw [if_pos h]; simp [show b ≤ a from h]
  · rw [if_neg h]; simp [show ¬ b ≤ a from h]
theorem numOk_eq (a : Int) : impl_numOk.f a = some (decide (0 ≤ a ∧ a ≤ 4294967295)) := by
  unfold impl_numOk.f
  rw [within_eq]; rfl
/-- v is the place of the first x in K, or -1 if there is none. -/
def IdxOf (K : List Int) (x v : Int) : Prop := (v = -1 ∧ ∀ j : Nat, j < K.length → rd K j ≠ x) ∨ ∃ n : Nat, v = n ∧ n < K.length ∧ rd K n = x ∧ ∀ j : Nat, j < n → rd K j ≠ x
theorem IdxOf.unique {K : List Int} {x v u : Int} (h : IdxOf K x v) (g : IdxOf K x u) : v = u := by
  rcases h with ⟨rfl, h⟩ | ⟨n, rfl, hn, hx, hl⟩ <;> rcases g with ⟨rfl, g⟩ | ⟨m, rfl, hm, gx, gl⟩
  · rfl
  · exact absurd gx (h m hm)
  · exact absurd hx (g n hn)
  · rcases Nat.lt_trichotomy n m with a | a | a
    · exact absurd hx (gl n a)
    · rw [a]
    · exact absurd gx (hl m a)
/-- A row of a table is in order. -/
def RowOk (a s : Int) (K : List Int) (V : List ByteArray) (i : Nat) : Prop := ((rdOf ByteArray.empty V i).size : Int) = s ∧ (0 ≤ rd K i ∧ rd K i ≤ 4294967295) ∧ (a = 1 → rd K i = i) ∧ ∀ j : Nat, j < i → rd K j ≠ rd K i
/-- A table is in order but for its rows. -/
def ShapeOk (a s m : Int) (K : List Int) (V : List ByteArray) : Prop := (1 ≤ a ∧ a ≤ 2) ∧ (1 ≤ s ∧ s ≤ 8) ∧ (1 ≤ m ∧ m ≤ 8) ∧ K.length = V.length ∧ (K.length : Int) ≤ m
/-- A table is in order. -/
def TabOk (a s m : Int) (K : List Int) (V : List ByteArray) : Prop := ShapeOk a s m K V ∧ (a = 1 → (K.length : Int) = m) ∧ ∀ i : Nat, i < K.length → RowOk a s K V i
theorem rows_step {a s : Int} {K : List Int} {V : List ByteArray} {p : Nat} (hp : p < K.length) : (∀ i : Nat, p ≤ i → i < K.length → RowOk a s K V i) ↔ RowOk a s K V p ∧ ∀ i : Nat, p + 1 ≤ i → i < K.length → RowOk a s K V i := by
  constructor
  · exact fun h => ⟨h p (Nat.le_refl p) hp, fun i h1 h2 => h i (by omega) h2⟩
  · rintro ⟨h0, h⟩ i h1 h2
    by_cases e : i = p
    · rw [e]; exact h0
    · exact h i (by omega) h2
theorem index_from (K : List Int) (x : Int) (hK : K.length ≤ 2000000) (d : Nat) : ∀ (k p : Nat), p + d = K.length → d < k → (∀ j : Nat, j < p → rd K j ≠ x) →
    Gives (slices_Index_int_int.l0 k K x (K.length : Int) (p : Int)) (IdxOf K x) := by
  induction d with
  | zero =>
    intro k p hp hk hno
    obtain ⟨k, rfl⟩ : ∃ m, k = m + 1 := ⟨k - 1, by omega⟩
    simp only [slices_Index_int_int.l0]
    rw [if_neg (by omega)]
    exact Gives.ret (Or.inl ⟨rfl, fun j hj => hno j (by omega)⟩)
  | succ d ih =>
    intro k p hp hk hno
    obtain ⟨k, rfl⟩ : ∃ m, k = m + 1 := ⟨k - 1, by omega⟩
    simp only [slices_Index_int_int.l0]
    rw [if_pos (by omega), if_pos (by omega), if_pos (by omega)]
    refine Gives.ite (fun h => Gives.ret (Or.inr ⟨p, rfl, by omega, h.symm, hno⟩)) (fun h => ?_)
    rw [w_succ (by omega)]
    refine ih k (p + 1) (by omega) (by omega) (fun j hj => ?_)
    by_cases e : j = p
    · rw [e]; exact fun z => h z.symm
    · exact hno j (by omega)
theorem find_gives (a s m : Int) (K : List Int) (V : List ByteArray) (x : Int) (hK : K.length ≤ 2000000) {k : Nat} (hk : K.length < k) : Gives (impl_Table_find.f k a s m K V x) (IdxOf K x) := by
  unfold impl_Table_find.f slices_Index_int_int.f
  exact (index_from K x hK K.length k 0 (by omega) hk (fun j hj => absurd hj (by omega))).bind fun v hv => Gives.ret hv
theorem shaped_eq (a s m : Int) (K : List Int) (V : List ByteArray) : impl_Table_shaped.f a s m K V = some (decide ((1 ≤ a ∧ a ≤ 2) ∧ (1 ≤ s ∧ s ≤ 8) ∧ (1 ≤ m ∧ m ≤ 8))) := by
  unfold impl_Table_shaped.f
  simp only [within_eq, Option.bind_some, decide_eq_true_eq]
  by_cases h1 : 1 ≤ a ∧ a ≤ 2
  · rw [if_pos h1]
    by_cases h2 : 1 ≤ s ∧ s ≤ 8
    · rw [if_pos h2]; simp [h1, h2]
    · rw [if_neg h2]; simp [h2]
  · rw [if_neg h1]; simp [h1]
theorem rowsI (a s m : Int) (K : List Int) (V : List ByteArray) (hl : K.length = V.length) (hK : K.length ≤ 8) (d : Nat) : ∀ (k p : Nat), p + d = K.length → 2 * d + 10 < k →
    Gives (impl_TableOk.l0 k K (K.length : Int) (p : Int) a s m K V) (fun b => b = true ↔ ∀ i : Nat, p ≤ i → i < K.length → RowOk a s K V i) := by
  induction d with
  | zero =>
    intro k p hp hk
    obtain ⟨k, rfl⟩ : ∃ m, k = m + 1 := ⟨k - 1, by omega⟩
    simp only [impl_TableOk.l0]
    rw [if_neg (by omega)]
    exact Gives.ret ⟨fun _ i h1 h2 => absurd h1 (by omega), fun _ => rfl⟩
  | succ d ih =>
    intro k p hp hk
    obtain ⟨k, rfl⟩ : ∃ m, k = m + 2 := ⟨k - 2, by omega⟩
    have bad : ¬ RowOk a s K V p → Gives (impl_TableOk.j2 (k + 1) K (K.length : Int) (p : Int) true a s m K V) (fun b => b = true ↔ ∀ i : Nat, p ≤ i → i < K.length → RowOk a s K V i) := by
      intro h
      simp only [impl_TableOk.j2]
      rw [if_pos trivial]
      exact Gives.ret ⟨fun e => (by cases e), fun e => absurd (e p (Nat.le_refl p) (by omega)) h⟩
    have good : RowOk a s K V p → Gives (impl_TableOk.j2 (k + 1) K (K.length : Int) (p : Int) false a s m K V) (fun b => b = true ↔ ∀ i : Nat, p ≤ i → i < K.length → RowOk a s K V i) := by
      intro h
      simp only [impl_TableOk.j2]
      rw [if_neg (by decide), w_succ (by omega)]
      refine (ih k (p + 1) (by omega) (by omega)).mono fun b hb => ?_
      rw [hb, rows_step (p := p) (by omega)]
      exact ⟨fun z => ⟨h, z⟩, fun z => z.2⟩
    simp only [impl_TableOk.l0]
    rw [if_pos (by omega), if_pos (by omega), if_pos (by omega), numOk_eq]
    simp only [Option.bind_some, decide_eq_true_eq]
    refine Gives.ite (fun h1 => ?_) (fun h1 => bad (fun r => h1 r.2.1))
    refine (find_gives a s m K V (rd K p) (by omega) (by omega)).bind fun v hv => ?_
    refine Gives.ite (fun h2 => ?_) (fun h2 => bad (fun r => h2 (IdxOf.unique hv (Or.inr ⟨p, rfl, by omega, rfl, r.2.2.2⟩))))
    have hno : ∀ j : Nat, j < p → rd K j ≠ rd K p := by
      rcases hv with ⟨e, _⟩ | ⟨n, e, _, _, hno⟩
      · omega
      · intro j hj; exact hno j (by omega)
    rw [if_pos (by omega)]
    refine Gives.ite (fun h3 => ?_) (fun h3 => bad (fun r => h3 r.1))
    refine Gives.ite (fun h4 => ?_) (fun h4 => good ⟨h3, h1, fun z => absurd z h4, hno⟩)
    by_cases h5 : rd K p = p
    · rw [show (rd K (p : Int) != (p : Int)) = false from bne_eq_false_iff_eq.mpr h5]
      exact good ⟨h3, h1, fun _ => h5, hno⟩
    · rw [show (rd K (p : Int) != (p : Int)) = true from bne_iff_ne.mpr h5]
      exact bad (fun r => h5 (r.2.2.1 h4))
theorem implTab_gives (a s m : Int) (K : List Int) (V : List ByteArray) {k : Nat} (hk : 40 < k) : Gives (impl_TableOk.f k a s m K V) (fun b => b = true ↔ TabOk a s m K V) := by
  obtain ⟨k, rfl⟩ : ∃ m, k = m + 1 := ⟨k - 1, by omega⟩
  have bad : ¬ TabOk a s m K V → Gives (impl_TableOk.j0 (k + 1) true a s m K V) (fun b => b = true ↔ TabOk a s m K V) := by
    intro h
    simp only [impl_TableOk.j0]
    rw [if_pos trivial]
    exact Gives.ret ⟨fun e => (by cases e), fun e => absurd e h⟩
  have good : ShapeOk a s m K V → (a = 1 → (K.length : Int) = m) → Gives (impl_TableOk.j0 (k + 1) false a s m K V) (fun b => b = true ↔ TabOk a s m K V) := by
    intro h g
    simp only [impl_TableOk.j0]
    rw [if_neg (by decide)]
    have h1 := h.2.2.1
    have h2 := h.2.2.2.2
    refine (rowsI a s m K V h.2.2.2.1 (by omega) K.length k 0 (by omega) (by omega)).mono fun b hb => ?_
    rw [hb]
    exact ⟨fun z => ⟨h, g, fun i hi => z i (Nat.zero_le i) hi⟩, fun z i _ hi => z.2.2 i hi⟩
  unfold impl_TableOk.f
  rw [shaped_eq]
  simp only [Option.bind_some, decide_eq_true_eq]
  refine Gives.ite (fun h1 => ?_) (fun h1 => bad (fun z => h1 ⟨z.1.1, z.1.2.1, z.1.2.2.1⟩))
  refine Gives.ite (fun h2 => bad (fun z => by have := z.1.2.2.2.2; omega)) (fun h2 => ?_)
  refine Gives.ite (fun h3 => ?_) (fun h3 => bad (fun z => h3 (by have := z.1.2.2.2.1; omega)))
  have hs : ShapeOk a s m K V := ⟨h1.1, h1.2.1, h1.2.2, by omega, by omega⟩
  refine Gives.ite (fun h4 => ?_) (fun h4 => good hs (fun z => absurd z h4))
  by_cases h5 : (K.length : Int) = m
  · rw [show ((K.length : Int) != m) = false from bne_eq_false_iff_eq.mpr h5]; exact good hs (fun _ => h5)
  · rw [show ((K.length : Int) != m) = true from bne_iff_ne.mpr h5]; exact bad (fun z => h5 (z.2.1 h4))
theorem shape_eq (a s m : Int) (K : List Int) (V : List ByteArray) : Gives (spec_l3Shape.f a s m K V) (fun b => b = true ↔ ShapeOk a s m K V) := by
  unfold spec_l3Shape.f
  simp only [l1In_eq, Option.bind_some, decide_eq_true_eq]
  have no : ¬ ShapeOk a s m K V → Gives (some false) (fun b => b = true ↔ ShapeOk a s m K V) := fun h => Gives.ret ⟨fun e => (by cases e), fun e => absurd e h⟩
  refine Gives.ite (fun h1 => ?_) (fun h1 => no (fun z => h1 z.1))
  refine Gives.ite (fun h2 => ?_) (fun h2 => no (fun z => h2 z.2.1))
  refine Gives.ite (fun h3 => ?_) (fun h3 => no (fun z => h3 z.2.2.1))
  refine Gives.ite (fun h4 => ?_) (fun h4 => no (fun z => h4 (by have := z.2.2.2.1; omega)))
  refine Gives.ret ?_
  rw [decide_eq_true_eq]
  exact ⟨fun h => ⟨h1, h2, h3, by omega, h⟩, fun z => z.2.2.2.2⟩
theorem l1_run (a s m : Int) (K : List Int) (V : List ByteArray) {p : Nat} (hp : p < K.length) (hK : K.length ≤ 8) (t : Nat) : ∀ (k q : Nat), q + t = p → (∀ j : Nat, j < q → rd K j ≠ rd K p) →
    ((¬ ∀ j : Nat, j < p → rd K j ≠ rd K p) ∧ spec_l3Ok.l1 (k + t + 1) (p : Int) (q : Int) a s m K V = some false) ∨ ((∀ j : Nat, j < p → rd K j ≠ rd K p) ∧ spec_l3Ok.l1 (k + t + 1) (p : Int) (q : Int) a s m K V = spec_l3Ok.l0 k ((p + 1 : Nat) : Int) a s m K V) := by
  induction t with
  | zero =>
    intro k q hq hno
    right
    refine ⟨fun j hj => hno j (by omega), ?_⟩
    simp only [spec_l3Ok.l1]
    rw [if_neg (by omega), w_succ (by omega)]
  | succ t ih =>
    intro k q hq hno
    have e : spec_l3Ok.l1 (k + (t + 1) + 1) (p : Int) (q : Int) a s m K V = if rd K q = rd K p then some false else spec_l3Ok.l1 (k + t + 1) (p : Int) ((q + 1 : Nat) : Int) a s m K V := by
      simp only [spec_l3Ok.l1]
      rw [if_pos (by omega), if_pos (by omega), if_pos (by omega), if_pos (by omega), if_pos (by omega), w_succ (by omega)]
      rfl
    rw [e]
    by_cases h : rd K q = rd K p
    · left
      exact ⟨fun z => z q (by omega) h, if_pos h⟩
    · rw [if_neg h]
      refine ih k (q + 1) (by omega) (fun j hj => ?_)
      by_cases e : j = q
      · rw [e]; exact h
      · exact hno j (by omega)
theorem rowsS (a s m : Int) (K : List Int) (V : List ByteArray) (hl : K.length = V.length) (hK : K.length ≤ 8) (d : Nat) : ∀ (k p : Nat), p + d = K.length → 12 * d < k →
    Gives (spec_l3Ok.l0 k (p : Int) a s m K V) (fun b => b = true ↔ ∀ i : Nat, p ≤ i → i < K.length → RowOk a s K V i) := by
  induction d with
  | zero =>
    intro k p hp hk
    obtain ⟨k, rfl⟩ : ∃ m, k = m + 1 := ⟨k - 1, by omega⟩
    simp only [spec_l3Ok.l0]
    rw [if_neg (by omega)]
    exact Gives.ret ⟨fun _ i h1 h2 => absurd h1 (by omega), fun _ => rfl⟩
  | succ d ih =>
    intro k p hp hk
    obtain ⟨k, rfl⟩ : ∃ m, k = (m + p + 1) + 2 := ⟨k - p - 3, by omega⟩
    have bad : ¬ RowOk a s K V p → Gives (spec_l3Ok.j2 (k + p + 1 + 1) (p : Int) true a s m K V) (fun b => b = true ↔ ∀ i : Nat, p ≤ i → i < K.length → RowOk a s K V i) := by
      intro h
      simp only [spec_l3Ok.j2]
      rw [if_pos trivial]
      exact Gives.ret ⟨fun e => (by cases e), fun e => absurd (e p (Nat.le_refl p) (by omega)) h⟩
    have good : ((rdOf ByteArray.empty V (p : Int)).size : Int) = s → (0 ≤ rd K (p : Int) ∧ rd K (p : Int) ≤ 4294967295) → (a = 1 → rd K (p : Int) = p) → Gives (spec_l3Ok.j2 (k + p + 1 + 1) (p : Int) false a s m K V) (fun b => b = true ↔ ∀ i : Nat, p ≤ i → i < K.length → RowOk a s K V i) := by
      intro h1 h2 h3
      simp only [spec_l3Ok.j2]
      rw [if_neg (by decide)]
      rcases l1_run a s m K V (p := p) (by omega) hK p k 0 (by omega) (fun j hj => absurd hj (by omega)) with ⟨hn, e⟩ | ⟨hy, e⟩
      · rw [show (0 : Int) = ((0 : Nat) : Int) from rfl, e]
        exact Gives.ret ⟨fun e => (by cases e), fun e => absurd (e p (Nat.le_refl p) (by omega)).2.2.2 hn⟩
      · rw [show (0 : Int) = ((0 : Nat) : Int) from rfl, e]
        refine (ih k (p + 1) (by omega) (by omega)).mono fun b hb => ?_
        rw [hb, rows_step (p := p) (by omega)]
        exact ⟨fun z => ⟨⟨h1, h2, h3, hy⟩, z⟩, fun z => z.2⟩
    simp only [spec_l3Ok.l0]
    rw [if_pos (by omega), if_pos (by omega), if_pos (by omega)]
    refine Gives.ite (fun h1 => ?_) (fun h1 => bad (fun r => h1 r.1))
    rw [l1In_eq]
    simp only [Option.bind_some, decide_eq_true_eq]
    refine Gives.ite (fun h2 => ?_) (fun h2 => bad (fun r => h2 r.2.1))
    refine Gives.ite (fun h3 => ?_) (fun h3 => good h1 h2 (fun z => absurd z h3))
    by_cases h4 : rd K p = p
    · rw [show (rd K (p : Int) != (p : Int)) = false from bne_eq_false_iff_eq.mpr h4]; exact good h1 h2 (fun _ => h4)
    · rw [show (rd K (p : Int) != (p : Int)) = true from bne_iff_ne.mpr h4]; exact bad (fun r => h4 (r.2.2.1 h3))
theorem specTab_gives (a s m : Int) (K : List Int) (V : List ByteArray) {k : Nat} (hk : 110 < k) : Gives (spec_l3Ok.f k a s m K V) (fun b => b = true ↔ TabOk a s m K V) := by
  obtain ⟨k, rfl⟩ : ∃ m, k = m + 1 := ⟨k - 1, by omega⟩
  have bad : ¬ TabOk a s m K V → Gives (spec_l3Ok.j0 (k + 1) true a s m K V) (fun b => b = true ↔ TabOk a s m K V) := by
    intro h
    simp only [spec_l3Ok.j0]
    rw [if_pos trivial]
    exact Gives.ret ⟨fun e => (by cases e), fun e => absurd e h⟩
  have good : ShapeOk a s m K V → (a = 1 → (K.length : Int) = m) → Gives (spec_l3Ok.j0 (k + 1) false a s m K V) (fun b => b = true ↔ TabOk a s m K V) := by
    intro h g
    simp only [spec_l3Ok.j0]
    rw [if_neg (by decide)]
    have h1 := h.2.2.1
    have h2 := h.2.2.2.2
    refine (rowsS a s m K V h.2.2.2.1 (by omega) K.length k 0 (by omega) (by omega)).mono fun b hb => ?_
    rw [hb]
    exact ⟨fun z => ⟨h, g, fun i hi => z i (Nat.zero_le i) hi⟩, fun z i _ hi => z.2.2 i hi⟩
  unfold spec_l3Ok.f
  refine (shape_eq a s m K V).bind fun b hb => ?_
  refine Gives.ite (fun h1 => ?_) (fun h1 => bad (fun z => h1 (hb.2 z.1)))
  have hs := hb.1 h1
  refine Gives.ite (fun h4 => ?_) (fun h4 => good hs (fun z => absurd z h4))
  by_cases h5 : (K.length : Int) = m
  · rw [show ((K.length : Int) != m) = false from bne_eq_false_iff_eq.mpr h5]; exact good hs (fun _ => h5)
  · rw [show ((K.length : Int) != m) = true from bne_iff_ne.mpr h5]; exact bad (fun z => h5 (z.2.1 h4))
/-- Of the first p keys, v is the least above x (-1: none is). -/
def LA (K : List Int) (x v : Int) (p : Nat) : Prop := (v = -1 ∧ ∀ j : Nat, j < p → rd K j ≤ x) ∨ ((∃ j : Nat, j < p ∧ rd K j = v) ∧ v > x ∧ ∀ i : Nat, i < p → rd K i > x → v ≤ rd K i)
theorem LA.unique {K : List Int} {x v u : Int} {p : Nat} (h : LA K x v p) (g : LA K x u p) : v = u := by
  rcases h with ⟨rfl, h⟩ | ⟨⟨j, hj, rfl⟩, h1, h2⟩ <;> rcases g with ⟨rfl, g⟩ | ⟨⟨i, hi, rfl⟩, g1, g2⟩
  · rfl
  · have := h i hi; omega
  · have := g j hj; omega
  · have := h2 i hi g1; have := g2 j hj h1; omega
theorem LA.stay {K : List Int} {x v : Int} {p : Nat} (h : LA K x v p) (hp : rd K p > x → 0 ≤ v ∧ v ≤ rd K p) : LA K x v (p + 1) := by
  rcases h with ⟨rfl, h⟩ | ⟨⟨j, hj, e⟩, h1, h2⟩
  · refine Or.inl ⟨rfl, fun j hj => ?_⟩
    by_cases e : j = p
    · rw [e]; exact Int.not_lt.1 (fun z => by have := (hp z).1; omega)
    · exact h j (by omega)
  · refine Or.inr ⟨⟨j, by omega, e⟩, h1, fun i hi g => ?_⟩
    by_cases e : i = p
    · rw [e] at g ⊢; exact (hp g).2
    · exact h2 i (by omega) g
theorem LA.take {K : List Int} {x v : Int} {p : Nat} (h : LA K x v p) (hp : rd K p > x) (hv : v < 0 ∨ rd K p < v) (h0 : ∀ j : Nat, j < p → 0 ≤ rd K j) : LA K x (rd K p) (p + 1) := by
  refine Or.inr ⟨⟨p, by omega, rfl⟩, hp, fun i hi g => ?_⟩
  by_cases e : i = p
  · rw [e]; exact Int.le_refl _
  · rcases h with ⟨rfl, h⟩ | ⟨⟨j, hj, e'⟩, h1, h2⟩
    · have := h i (by omega); omega
    · have := h2 i (by omega) g
      have := h0 j hj
      omega
def nextV (v : Int) : Int × Bool := if v < 0 then (-1, false) else (v, true)
def NextOf (a s m : Int) (K : List Int) (V : List ByteArray) (x : Int) (r : Int × Bool) : Prop := (¬ TabOk a s m K V ∧ r = (-1, false)) ∨ (TabOk a s m K V ∧ ∃ v, LA K x v K.length ∧ r = nextV v)
theorem NextOf.unique {a s m : Int} {K : List Int} {V : List ByteArray} {x : Int} {r q : Int × Bool} (h : NextOf a s m K V x r) (g : NextOf a s m K V x q) : r = q := by
  rcases h with ⟨n, rfl⟩ | ⟨t, v, hv, rfl⟩ <;> rcases g with ⟨n', rfl⟩ | ⟨t', u, hu, rfl⟩
  · rfl
  · exact absurd t' n
  · exact absurd t n'
  · rw [LA.unique hv hu]
theorem tab_pos {a s m : Int} {K : List Int} {V : List ByteArray} (h : TabOk a s m K V) : ∀ j : Nat, j < K.length → 0 ≤ rd K j := fun j hj => (h.2.2 j hj).2.1.1
theorem implNext_from (a s m : Int) (K : List Int) (V : List ByteArray) (x : Int) (hK : K.length ≤ 2000000) (d : Nat) : ∀ (k p : Nat) (v : Int), p + d = K.length → 2 * d + 41 < k → ((∀ j : Nat, j < K.length → 0 ≤ rd K j) → LA K x v p) →
    Gives (impl_TableNext.l0 k x v K (K.length : Int) (p : Int) a s m K V) (NextOf a s m K V x) := by
  induction d with
  | zero =>
    intro k p v hp hk hv
    obtain ⟨k, rfl⟩ : ∃ m, k = m + 1 := ⟨k - 1, by omega⟩
    simp only [impl_TableNext.l0]
    rw [if_neg (by omega)]
    rw [show p = K.length by omega] at hv
    refine (implTab_gives a s m K V (by omega)).bind fun t ht => ?_
    refine Gives.ite (fun e => ?_) (fun e => Gives.ret (Or.inl ⟨fun z => e (ht.2 z), rfl⟩))
    have hT := ht.1 e
    refine Gives.ite (fun h => Gives.ret (Or.inr ⟨hT, v, hv (tab_pos hT), ?_⟩)) (fun h => Gives.ret (Or.inr ⟨hT, v, hv (tab_pos hT), ?_⟩))
    · unfold nextV; rw [if_pos h]
    · unfold nextV; rw [if_neg h]
  | succ d ih =>
    intro k p v hp hk hv
    obtain ⟨k, rfl⟩ : ∃ m, k = m + 2 := ⟨k - 2, by omega⟩
    have yes : rd K p > x → (v < 0 ∨ rd K p < v) → Gives (impl_TableNext.j1 (k + 1) x v (rd K (p : Int)) K (K.length : Int) (p : Int) true a s m K V) (NextOf a s m K V x) := by
      intro h1 h2
      simp only [impl_TableNext.j1]
      rw [if_pos trivial, w_succ (by omega)]
      exact ih k (p + 1) _ (by omega) (by omega) (fun h0 => LA.take (hv h0) h1 h2 (fun j hj => h0 j (by omega)))
    have no : (rd K p > x → 0 ≤ v ∧ v ≤ rd K p) → Gives (impl_TableNext.j1 (k + 1) x v (rd K (p : Int)) K (K.length : Int) (p : Int) false a s m K V) (NextOf a s m K V x) := by
      intro h1
      simp only [impl_TableNext.j1]
      rw [if_neg (by decide), w_succ (by omega)]
      exact ih k (p + 1) _ (by omega) (by omega) (fun h0 => LA.stay (hv h0) h1)
    simp only [impl_TableNext.l0]
    rw [if_pos (by omega), if_pos (by omega), if_pos (by omega)]
    refine Gives.ite (fun h1 => Gives.ite (fun h2 => yes h1 (Or.inl h2)) (fun h2 => ?_)) (fun h1 => no (fun z => absurd z h1))
    by_cases h3 : rd K p < v
    · rw [decide_eq_true h3]; exact yes h1 (Or.inr h3)
    · rw [decide_eq_false h3]; exact no (fun _ => by omega)
theorem implNext_gives (a s m : Int) (K : List Int) (V : List ByteArray) (x : Int) (hK : K.length ≤ 2000000) {k : Nat} (hk : 2 * K.length + 141 < k) : Gives (impl_TableNext.f k a s m K V x) (NextOf a s m K V x) := by
  unfold impl_TableNext.f
  exact implNext_from a s m K V x (by omega) K.length k 0 (-1) (by omega) (by omega) (fun _ => Or.inl ⟨rfl, fun j hj => absurd hj (by omega)⟩)
theorem specNext_from (a s m : Int) (K : List Int) (V : List ByteArray) (x : Int) (hT : TabOk a s m K V) (hK : K.length ≤ 2000000) (d : Nat) : ∀ (k p : Nat) (v : Int), p + d = K.length → 2 * d < k → LA K x v p →
    Gives (spec_TableNext.l0 k x v (p : Int) a s m K V) (NextOf a s m K V x) := by
  have h0 := tab_pos hT
  induction d with
  | zero =>
    intro k p v hp hk hv
    obtain ⟨k, rfl⟩ : ∃ m, k = m + 1 := ⟨k - 1, by omega⟩
    simp only [spec_TableNext.l0]
    rw [if_neg (by omega)]
    rw [show p = K.length by omega] at hv
    refine Gives.ret (Or.inr ⟨hT, v, hv, ?_⟩)
    unfold nextV
    by_cases h : v < 0
    · rw [if_pos h, decide_eq_false (by omega)]
      rcases hv with ⟨rfl, _⟩ | ⟨⟨j, hj, e⟩, _⟩
      · rfl
      · have := h0 j hj; omega
    · rw [if_neg h, decide_eq_true (by omega)]
  | succ d ih =>
    intro k p v hp hk hv
    obtain ⟨k, rfl⟩ : ∃ m, k = m + 2 := ⟨k - 2, by omega⟩
    have yes : rd K p > x → (v < 0 ∨ rd K p < v) → Gives (spec_TableNext.j1 (k + 1) x v (p : Int) true a s m K V) (NextOf a s m K V x) := by
      intro h1 h2
      simp only [spec_TableNext.j1]
      rw [if_pos trivial, if_pos (by omega), if_pos (by omega), w_succ (by omega)]
      exact ih k (p + 1) _ (by omega) (by omega) (LA.take hv h1 h2 (fun j hj => h0 j (by omega)))
    have no : (rd K p > x → 0 ≤ v ∧ v ≤ rd K p) → Gives (spec_TableNext.j1 (k + 1) x v (p : Int) false a s m K V) (NextOf a s m K V x) := by
      intro h1
      simp only [spec_TableNext.j1]
      rw [if_neg (by decide), w_succ (by omega)]
      exact ih k (p + 1) _ (by omega) (by omega) (LA.stay hv h1)
    simp only [spec_TableNext.l0]
    rw [if_pos (by omega), if_pos (by omega)]
    refine Gives.ite (fun h1 => Gives.ite (fun h2 => yes h1 (Or.inl h2)) (fun h2 => ?_)) (fun h1 => no (fun z => absurd z h1))
    by_cases h3 : rd K p < v
    · rw [decide_eq_true h3]; exact yes h1 (Or.inr h3)
    · rw [decide_eq_false h3]; exact no (fun _ => by omega)
theorem specNext_gives (a s m : Int) (K : List Int) (V : List ByteArray) (x : Int) (hK : K.length ≤ 2000000) {k : Nat} (hk : 140 < k) : Gives (spec_TableNext.f k a s m K V x) (NextOf a s m K V x) := by
  unfold spec_TableNext.f
  refine (specTab_gives a s m K V (by omega)).bind fun t ht => ?_
  refine Gives.ite (fun e => ?_) (fun e => Gives.ret (Or.inl ⟨fun z => e (ht.2 z), rfl⟩))
  have hm8 := (ht.1 e).1.2.2.1
  have hl8 := (ht.1 e).1.2.2.2.2
  exact specNext_from a s m K V x (ht.1 e) (by omega) K.length k 0 (-1) (by omega) (by omega) (Or.inl ⟨rfl, fun j hj => absurd hj (by omega)⟩)
theorem set_step {α : Type} (l x : List α) (z : α) (p : Nat) (hx : x.length = l.length) (hp : p < l.length) (h : x.take p = l.take p) : (x.set p (l.getD p z)).take (p + 1) = l.take (p + 1) := by
  have e : l.getD p z = l[p] := by rw [List.getD_eq_getElem?_getD, List.getElem?_eq_getElem hp]; rfl
  rw [e, List.take_add_one, List.take_add_one, List.take_set_of_le (Nat.le_refl p), h, List.getElem?_set_self (by omega), List.getElem?_eq_getElem hp]
theorem toInt_loop (l : List Int) (hl : l.length ≤ 2000000) (d : Nat) : ∀ (k p : Nat) (x : List Int), p + d = l.length → d < k → x.length = l.length → x.take p = l.take p → laws_toIntS.l0 k l x (p : Int) = some l := by
  induction d with
  | zero =>
    intro k p x hp hk hx h
    obtain ⟨k, rfl⟩ : ∃ m, k = m + 1 := ⟨k - 1, by omega⟩
    rw [laws_toIntS.l0, if_neg (by omega)]
    rw [List.take_of_length_le (by omega), List.take_of_length_le (by omega)] at h
    rw [h]
  | succ d ih =>
    intro k p x hp hk hx h
    obtain ⟨k, rfl⟩ : ∃ m, k = m + 1 := ⟨k - 1, by omega⟩
    rw [laws_toIntS.l0, if_pos (by omega), if_pos (by omega), if_pos (by omega), w_succ (by omega)]
    exact ih k (p + 1) _ (by omega) (by omega) (by rw [List.length_set]; exact hx) (set_step l x 0 p hx (by omega) h)
theorem toInts_eq (l : List Int) (hl : l.length ≤ 2000000) {k : Nat} (hk : l.length < k) : laws_toIntS.f k l = some l := by
  unfold laws_toIntS.f
  rw [if_pos (by omega), if_pos (by omega)]
  exact toInt_loop l hl l.length k 0 _ (by omega) hk (by simp) rfl
theorem toString_loop (l : List ByteArray) (hl : l.length ≤ 2000000) (d : Nat) : ∀ (k p : Nat) (x : List ByteArray), p + d = l.length → d < k → x.length = l.length → x.take p = l.take p → laws_toStringS.l0 k l x (p : Int) = some l := by
  induction d with
  | zero =>
    intro k p x hp hk hx h
    obtain ⟨k, rfl⟩ : ∃ m, k = m + 1 := ⟨k - 1, by omega⟩
    rw [laws_toStringS.l0, if_neg (by omega)]
    rw [List.take_of_length_le (by omega), List.take_of_length_le (by omega)] at h
    rw [h]
  | succ d ih =>
    intro k p x hp hk hx h
    obtain ⟨k, rfl⟩ : ∃ m, k = m + 1 := ⟨k - 1, by omega⟩
    rw [laws_toStringS.l0, if_pos (by omega), if_pos (by omega), if_pos (by omega), w_succ (by omega)]
    exact ih k (p + 1) _ (by omega) (by omega) (by rw [List.length_set]; exact hx) (set_step l x ByteArray.empty p hx (by omega) h)
theorem toStrings_eq (l : List ByteArray) (hl : l.length ≤ 2000000) {k : Nat} (hk : l.length < k) : laws_toStringS.f k l = some l := by
  unfold laws_toStringS.f
  rw [if_pos (by omega), if_pos (by omega)]
  exact toString_loop l hl l.length k 0 _ (by omega) hk (by simp) rfl
theorem toTable_eq (a s m : Int) (K : List Int) (V : List ByteArray) (hK : K.length ≤ 2000000) (hV : V.length ≤ 2000000) {k : Nat} (hk : K.length < k) (hk' : V.length < k) : laws_toTable.f k a s m K V = some (a, s, m, K, V) := by
  unfold laws_toTable.f
  rw [toInts_eq K hK hk, toStrings_eq V hV hk']
  rfl
theorem eqInt_loop (l : List Int) (hl : l.length ≤ 2000000) (d : Nat) : ∀ (k p : Nat), p + d = l.length → d < k → laws_eqIntS.l0 k l l (p : Int) = some true := by
  induction d with
  | zero =>
    intro k p hp hk
    obtain ⟨k, rfl⟩ : ∃ m, k = m + 1 := ⟨k - 1, by omega⟩
    rw [laws_eqIntS.l0, if_neg (by omega)]
  | succ d ih =>
    intro k p hp hk
    obtain ⟨k, rfl⟩ : ∃ m, k = m + 1 := ⟨k - 1, by omega⟩
    rw [laws_eqIntS.l0, if_pos (by omega), if_pos (by omega), if_pos (by omega), if_pos rfl, w_succ (by omega)]
    exact ih k (p + 1) (by omega) (by omega)
theorem eqString_loop (l : List ByteArray) (hl : l.length ≤ 2000000) (d : Nat) : ∀ (k p : Nat), p + d = l.length → d < k → laws_eqStringS.l0 k l l (p : Int) = some true := by
  induction d with
  | zero =>
    intro k p hp hk
    obtain ⟨k, rfl⟩ : ∃ m, k = m + 1 := ⟨k - 1, by omega⟩
    rw [laws_eqStringS.l0, if_neg (by omega)]
  | succ d ih =>
    intro k p hp hk
    obtain ⟨k, rfl⟩ : ∃ m, k = m + 1 := ⟨k - 1, by omega⟩
    rw [laws_eqStringS.l0, if_pos (by omega), if_pos (by omega), if_pos (by omega), if_pos rfl, w_succ (by omega)]
    exact ih k (p + 1) (by omega) (by omega)
theorem eqTable_eq (a s m : Int) (K : List Int) (V : List ByteArray) (hK : K.length ≤ 2000000) (hV : V.length ≤ 2000000) {k : Nat} (hk : K.length < k) (hk' : V.length < k) : laws_eqTable.f k a s m K V a s m K V = some true := by
  unfold laws_eqTable.f laws_eqIntS.f laws_eqStringS.f
  rw [if_pos rfl, if_pos rfl, if_pos rfl, if_pos rfl, if_pos rfl]
  have h1 := eqInt_loop K hK K.length k 0 (by omega) hk
  have h2 := eqString_loop V hV V.length k 0 (by omega) hk'
  have h1 : laws_eqIntS.l0 k K K 0 = some true := h1
  have h2 : laws_eqStringS.l0 k V V 0 = some true := h2
  rw [h1, h2]
  rfl
theorem szString_loop (l : List ByteArray) (hl : l.length ≤ 2000000) (hs : ∀ x ∈ l, x.size ≤ maxLen) (d : Nat) : ∀ (k p : Nat) (a : Int), p + d = l.length → d < k → 0 ≤ a → a ≤ 1048576 → Gives (laws_szStringS.l0 k l a (p : Int)) (fun v => v ≤ 1048576) := by
  induction d with
  | zero =>
    intro k p a hp hk h0 h1
    obtain ⟨k, rfl⟩ : ∃ m, k = m + 1 := ⟨k - 1, by omega⟩
    rw [laws_szStringS.l0, if_neg (by omega)]
    exact Gives.ret h1
  | succ d ih =>
    intro k p a hp hk h0 h1
    obtain ⟨k, rfl⟩ : ∃ m, k = m + 1 := ⟨k - 1, by omega⟩
    have hm : (rdOf ByteArray.empty l (p : Int)).size ≤ 9223372036854775807 := by
      unfold rdOf
      rw [List.getD_eq_getElem?_getD, List.getElem?_eq_getElem (by simp; omega)]
      exact hs _ (List.getElem_mem _)
    rw [laws_szStringS.l0, if_pos (by omega), if_pos (by omega), w_succ (by omega), wrap64_id (by omega) (by omega)]
    exact Gives.ite (fun _ => Gives.ret (by omega)) (fun h => ih k (p + 1) _ (by omega) (by omega) (by omega) (by omega))
theorem szTable_gives (a s m : Int) (K : List Int) (V : List ByteArray) (hK : K.length ≤ maxLen) (hV : V.length ≤ maxLen) (hs : ∀ x ∈ V, x.size ≤ maxLen) {b : Int} (h0 : 0 ≤ b) (h1 : b ≤ 1048576) {k : Nat} (hk : 1048577 < k) : Gives (laws_szTable.f k a s m K V b) (fun v => v ≤ 1048576 ∧ (v < 0 ∨ (K.length ≤ 1048576 ∧ V.length ≤ 1048576))) := by
  have hK : K.length ≤ 9223372036854775807 := hK
  have hV : V.length ≤ 9223372036854775807 := hV
  unfold laws_szTable.f laws_szIntS.f laws_szStringS.f
  rw [wrap64_id (n := b - (K.length : Int)) (by omega) (by omega)]
  refine Gives.bind (P := fun v => v ≤ 1048576 ∧ (v < 0 ∨ (0 ≤ v ∧ K.length ≤ 1048576))) (Gives.ite (fun _ => Gives.ret (by omega)) (fun h => Gives.ret (by omega))) fun v hv => ?_
  refine Gives.ite (fun _ => Gives.ret (by omega)) (fun h => ?_)
  rw [wrap64_id (n := v - (V.length : Int)) (by omega) (by omega)]
  refine Gives.bind (P := fun u => u ≤ 1048576 ∧ (u < 0 ∨ V.length ≤ 1048576)) (Gives.ite (fun _ => Gives.ret (by omega)) (fun h' => ?_)) fun u hu => ?_
  · exact (szString_loop V (by omega) hs V.length k 0 _ (by omega) (by omega) (by omega) (by omega)).mono fun u hu => by omega
  · exact Gives.ite (fun _ => Gives.ret (by omega)) (fun _ => Gives.ret (by omega))

theorem FnExactTableNext : laws_FnExactTableNext.Pure := by
  intro a s m K V key _ _ _ hK hV _
  obtain ⟨k, hk⟩ : ∃ k : Nat, k = 5000000 := ⟨_, rfl⟩
  refine ⟨k + 1, ?_⟩
  unfold laws_FnExactTableNext.f
  obtain ⟨v, hv, h1, h2⟩ := szTable_gives a s m K V hK.2 hV.2 hV.1 (b := 1048576) (by decide) (by decide) (k := k + 1) (by omega)
  rw [hv]
  simp only [Option.bind_some]
  by_cases c : v < 0
  · rw [if_pos c]
  · rw [if_neg c]
    have h3 : K.length ≤ 1048576 := by omega
    have h4 : V.length ≤ 1048576 := by omega
    obtain ⟨x, hx, gx⟩ := implNext_gives a s m K V key (by omega) (k := k + 1) (by omega)
    obtain ⟨y, hy, gy⟩ := specNext_gives a s m K V key (by omega) (k := k + 1) (by omega)
    have e := NextOf.unique gx gy
    subst e
    rw [toTable_eq a s m K V (by omega) (by omega) (by omega) (by omega)]
    simp only [Option.bind_some, hx, hy, bne_self_eq_false]
    rw [if_pos trivial, laws_FnExactTableNext.j0, if_neg (by decide), toTable_eq a s m K V (by omega) (by omega) (by omega) (by omega)]
    simp only [Option.bind_some, eqTable_eq a s m K V (show K.length ≤ 2000000 by omega) (show V.length ≤ 2000000 by omega) (k := k) (by omega) (by omega), if_true]

end Go.Proofs.Ytfpkjmmjaeieaaa.Pure
