/- The law FnExactStartOk, as a statement about numbers and lists alone: the program and the reference tell alike whether a run may begin so. It holds at every input. -/
import Derived.Test.YtjalmkoeekbfbaaQ14
import Derived.Test.YtjalmkoeekbfbaaMath
namespace Go.Proofs.Ytjalmkoeekbfbaa.Pure
open Go Go.RowKit Go.Proofs.Ytjalmkoeekbfbaa.Q Go.Proofs.YtjalmkoeekbfbaaW.PrintWords Go.Proofs.YtjalmkoeekbfbaaW.PrintLast Go.Proofs.YtjalmkoeekbfbaaW.PrintMore Rg

theorem l1In_eq (a b c : Int) : spec_l1In.f a b c = some (decide (b ≤ a ∧ a ≤ c)) := by
  unfold spec_l1In.f
  by_cases h : a ≥ b
  · rw [if_pos h]; simp [show b ≤ a from h]
  · rw [if_neg h]; simp [show ¬ b ≤ a from h]
theorem within_eq (a b c : Int) : impl_within.f a b c = some (decide (b ≤ a ∧ a ≤ c)) := by
  unfold impl_within.f
  by_cases h : a ≥ b
  · rw [if_pos h]; simp [show b ≤ a from h]
  · rw [if_neg h]; simp [show ¬ b ≤ a from h]
theorem numOk_eq (a : Int) : impl_numOk.f a = some (decide (0 ≤ a ∧ a ≤ 4294967295)) := by
  unfold impl_numOk.f
  rw [within_eq]; rfl
/-- v is the place of the first x in K, or -1 if there is none. -/
def IdxOf (K : List Int) (x v : Int) : Prop := (v = -1 ∧ ∀ j : Nat, j < K.length → rd K j ≠ x) ∨ ∃ n : Nat, v = n ∧ n < K.length ∧ rd K n = x ∧ ∀ j : Nat, j < n → rd K j ≠ x
theorem IdxOf.unique {K : List Int} {x v u : Int} (h : IdxOf K x v) (g : IdxOf K x u) : v = u := by
  rcases h with ⟨rfl, h⟩ | ⟨n, rfl, hn, hx, hl⟩ <;> rcases g with ⟨rfl, g⟩ | ⟨m, rfl, hm, gx, gl⟩
  · rfl
  · exact absurd gx (h m hm)
  · exact absurd hx (g n hn)
  · rcases Nat.lt_trichotomy n m with a | a | a
    · exact absurd hx (gl n a)
    · rw [a]
    · exact absurd gx (hl m a)
/-- A row of a table is in order. -/
def RowOk (a s : Int) (K : List Int) (V : List ByteArray) (i : Nat) : Prop := ((rdOf ByteArray.empty V i).size : Int) = s ∧ (0 ≤ rd K i ∧ rd K i ≤ 4294967295) ∧ (a = 1 → rd K i = i) ∧ ∀ j : Nat, j < i → rd K j ≠ rd K i
/-- A table is in order but for its rows. -/
def ShapeOk (a s m : Int) (K : List Int) (V : List ByteArray) : Prop := (1 ≤ a ∧ a ≤ 2) ∧ (1 ≤ s ∧ s ≤ 8) ∧ (1 ≤ m ∧ m ≤ 8) ∧ K.length = V.length ∧ (K.length : Int) ≤ m
/-- A table is in order. -/
def TabOk (a s m : Int) (K : List Int) (V : List ByteArray) : Prop := ShapeOk a s m K V ∧ (a = 1 → (K.length : Int) = m) ∧ ∀ i : Nat, i < K.length → RowOk a s K V i
theorem rows_step {a s : Int} {K : List Int} {V : List ByteArray} {p : Nat} (hp : p < K.length) : (∀ i : Nat, p ≤ i → i < K.length → RowOk a s K V i) ↔ RowOk a s K V p ∧ ∀ i : Nat, p + 1 ≤ i → i < K.length → RowOk a s K V i := by
  constructor
  · exact fun h => ⟨h p (Nat.le_refl p) hp, fun i h1 h2 => h i (by omega) h2⟩
  · rintro ⟨h0, h⟩ i h1 h2
    by_cases e : i = p
    · rw [e]; exact h0
    · exact h i (by omega) h2
theorem index_from (K : List Int) (x : Int) (hK : K.length ≤ 2000000) (d : Nat) : ∀ (k p : Nat), p + d = K.length → d < k → (∀ j : Nat, j < p → rd K j ≠ x) →
    Gives (slices_Index_int_int.l0 k K x (K.length : Int) (p : Int)) (IdxOf K x) := by
  induction d with
  | zero =>
    intro k p hp hk hno
    obtain ⟨k, rfl⟩ : ∃ m, k = m + 1 := ⟨k - 1, by omega⟩
    simp only [slices_Index_int_int.l0]
    rw [if_neg (by omega)]
    exact Gives.ret (Or.inl ⟨rfl, fun j hj => hno j (by omega)⟩)
  | succ d ih =>
    intro k p hp hk hno
    obtain ⟨k, rfl⟩ : ∃ m, k = m + 1 := ⟨k - 1, by omega⟩
    simp only [slices_Index_int_int.l0]
    rw [if_pos (by omega), if_pos (by omega), if_pos (by omega)]
    refine Gives.ite (fun h => Gives.ret (Or.inr ⟨p, rfl, by omega, h.symm, hno⟩)) (fun h => ?_)
    rw [w_succ (by omega)]
    refine ih k (p + 1) (by omega) (by omega) (fun j hj => ?_)
    by_cases e : j = p
    · rw [e]; exact fun z => h z.symm
    · exact hno j (by omega)
theorem find_gives (a s m : Int) (K : List Int) (V : List ByteArray) (x : Int) (hK : K.length ≤ 2000000) {k : Nat} (hk : K.length < k) : Gives (impl_Table_find.f k a s m K V x) (IdxOf K x) := by
  unfold impl_Table_find.f slices_Index_int_int.f
  exact (index_from K x hK K.length k 0 (by omega) hk (fun j hj => absurd hj (by omega))).bind fun v hv => Gives.ret hv
theorem shaped_eq (a s m : Int) (K : List Int) (V : List ByteArray) : impl_Table_shaped.f a s m K V = some (decide ((1 ≤ a ∧ a ≤ 2) ∧ (1 ≤ s ∧ s ≤ 8) ∧ (1 ≤ m ∧ m ≤ 8))) := by
  unfold impl_Table_shaped.f
  simp only [within_eq, Option.bind_some, decide_eq_true_eq]
  by_cases h1 : 1 ≤ a ∧ a ≤ 2
  · rw [if_pos h1]
    by_cases h2 : 1 ≤ s ∧ s ≤ 8
    · rw [if_pos h2]; simp [h1, h2]
    · rw [if_neg h2]; simp [h2]
  · rw [if_neg h1]; simp [h1]
theorem rowsI (a s m : Int) (K : List Int) (V : List ByteArray) (hl : K.length = V.length) (hK : K.length ≤ 8) (d : Nat) : ∀ (k p : Nat), p + d = K.length → 2 * d + 10 < k →
    Gives (impl_TableOk.l0 k K (K.length : Int) (p : Int) a s m K V) (fun b => b = true ↔ ∀ i : Nat, p ≤ i → i < K.length → RowOk a s K V i) := by
  induction d with
  | zero =>
    intro k p hp hk
    obtain ⟨k, rfl⟩ : ∃ m, k = m + 1 := ⟨k - 1, by omega⟩
    simp only [impl_TableOk.l0]
    rw [if_neg (by omega)]
    exact Gives.ret ⟨fun _ i h1 h2 => absurd h1 (by omega), fun _ => rfl⟩
  | succ d ih =>
    intro k p hp hk
    obtain ⟨k, rfl⟩ : ∃ m, k = m + 2 := ⟨k - 2, by omega⟩
    have bad : ¬ RowOk a s K V p → Gives (impl_TableOk.j2 (k + 1) K (K.length : Int) (p : Int) true a s m K V) (fun b => b = true ↔ ∀ i : Nat, p ≤ i → i < K.length → RowOk a s K V i) := by
      intro h
      simp only [impl_TableOk.j2]
      rw [if_pos trivial]
      exact Gives.ret ⟨fun e => (by cases e), fun e => absurd (e p (Nat.le_refl p) (by omega)) h⟩
    have good : RowOk a s K V p → Gives (impl_TableOk.j2 (k + 1) K (K.length : Int) (p : Int) false a s m K V) (fun b => b = true ↔ ∀ i : Nat, p ≤ i → i < K.length → RowOk a s K V i) := by
      intro h
      simp only [impl_TableOk.j2]
      rw [if_neg (by decide), w_succ (by omega)]
      refine (ih k (p + 1) (by omega) (by omega)).mono fun b hb => ?_
      rw [hb, rows_step (p := p) (by omega)]
      exact ⟨fun z => ⟨h, z⟩, fun z => z.2⟩
    simp only [impl_TableOk.l0]
    rw [if_pos (by omega), if_pos (by omega), if_pos (by omega), numOk_eq]
    simp only [Option.bind_some, decide_eq_true_eq]
    refine Gives.ite (fun h1 => ?_) (fun h1 => bad (fun r => h1 r.2.1))
    refine (find_gives a s m K V (rd K p) (by omega) (by omega)).bind fun v hv => ?_
    refine Gives.ite (fun h2 => ?_) (fun h2 => bad (fun r => h2 (IdxOf.unique hv (Or.inr ⟨p, rfl, by omega, rfl, r.2.2.2⟩))))
    have hno : ∀ j : Nat, j < p → rd K j ≠ rd K p := by
      rcases hv with ⟨e, _⟩ | ⟨n, e, _, _, hno⟩
      · omega
      · intro j hj; exact hno j (by omega)
    rw [if_pos (by omega)]
    refine Gives.ite (fun h3 => ?_) (fun h3 => bad (fun r => h3 r.1))
    refine Gives.ite (fun h4 => ?_) (fun h4 => good ⟨h3, h1, fun z => absurd z h4, hno⟩)
    by_cases h5 : rd K p = p
    · rw [show (rd K (p : Int) != (p : Int)) = false from bne_eq_false_iff_eq.mpr h5]
      exact good ⟨h3, h1, fun _ => h5, hno⟩
    · rw [show (rd K (p : Int) != (p : Int)) = true from bne_iff_ne.mpr h5]
      exact bad (fun r => h5 (r.2.2.1 h4))
theorem implTab_gives (a s m : Int) (K : List Int) (V : List ByteArray) {k : Nat} (hk : 40 < k) : Gives (impl_TableOk.f k a s m K V) (fun b => b = true ↔ TabOk a s m K V) := by
  obtain ⟨k, rfl⟩ : ∃ m, k = m + 1 := ⟨k - 1, by omega⟩
  have bad : ¬ TabOk a s m K V → Gives (impl_TableOk.j0 (k + 1) true a s m K V) (fun b => b = true ↔ TabOk a s m K V) := by
    intro h
    simp only [impl_TableOk.j0]
    rw [if_pos trivial]
    exact Gives.ret ⟨fun e => (by cases e), fun e => absurd e h⟩
  have good : ShapeOk a s m K V → (a = 1 → (K.length : Int) = m) → Gives (impl_TableOk.j0 (k + 1) false a s m K V) (fun b => b = true ↔ TabOk a s m K V) := by
    intro h g
    simp only [impl_TableOk.j0]
    rw [if_neg (by decide)]
    have h1 := h.2.2.1
    have h2 := h.2.2.2.2
    refine (rowsI a s m K V h.2.2.2.1 (by omega) K.length k 0 (by omega) (by omega)).mono fun b hb => ?_
    rw [hb]
    exact ⟨fun z => ⟨h, g, fun i hi => z i (Nat.zero_le i) hi⟩, fun z i _ hi => z.2.2 i hi⟩
  unfold impl_TableOk.f
  rw [shaped_eq]
  simp only [Option.bind_some, decide_eq_true_eq]
  refine Gives.ite (fun h1 => ?_) (fun h1 => bad (fun z => h1 ⟨z.1.1, z.1.2.1, z.1.2.2.1⟩))
  refine Gives.ite (fun h2 => bad (fun z => by have := z.1.2.2.2.2; omega)) (fun h2 => ?_)
  refine Gives.ite (fun h3 => ?_) (fun h3 => bad (fun z => h3 (by have := z.1.2.2.2.1; omega)))
  have hs : ShapeOk a s m K V := ⟨h1.1, h1.2.1, h1.2.2, by omega, by omega⟩
  refine Gives.ite (fun h4 => ?_) (fun h4 => good hs (fun z => absurd z h4))
  by_cases h5 : (K.length : Int) = m
  · rw [show ((K.length : Int) != m) = false from bne_eq_false_iff_eq.mpr h5]; exact good hs (fun _ => h5)
  · rw [show ((K.length : Int) != m) = true from bne_iff_ne.mpr h5]; exact bad (fun z => h5 (z.2.1 h4))
theorem shape_eq (a s m : Int) (K : List Int) (V : List ByteArray) : Gives (spec_l3Shape.f a s m K V) (fun b => b = true ↔ ShapeOk a s m K V) := by
  unfold spec_l3Shape.f
  simp only [l1In_eq, Option.bind_some, decide_eq_true_eq]
  have no : ¬ ShapeOk a s m K V → Gives (some false) (fun b => b = true ↔ ShapeOk a s m K V) := fun h => Gives.ret ⟨fun e => (by cases e), fun e => absurd e h⟩
  refine Gives.ite (fun h1 => ?_) (fun h1 => no (fun z => h1 z.1))
  refine Gives.ite (fun h2 => ?_) (fun h2 => no (fun z => h2 z.2.1))
  refine Gives.ite (fun h3 => ?_) (fun h3 => no (fun z => h3 z.2.2.1))
  refine Gives.ite (fun h4 => ?_) (fun h4 => no (fun z => h4 (by have := z.2.2.2.1; omega)))
  refine Gives.ret ?_
  rw [decide_eq_true_eq]
  exact ⟨fun h => ⟨h1, h2, h3, by omega, h⟩, fun z => z.2.2.2.2⟩
theorem l1_run (a s m : Int) (K : List Int) (V : List ByteArray) {p : Nat} (hp : p < K.length) (hK : K.length ≤ 8) (t : Nat) : ∀ (k q : Nat), q + t = p → (∀ j : Nat, j < q → rd K j ≠ rd K p) →
    ((¬ ∀ j : Nat, j < p → rd K j ≠ rd K p) ∧ spec_l3Ok.l1 (k + t + 1) (p : Int) (q : Int) a s m K V = some false) ∨ ((∀ j : Nat, j < p → rd K j ≠ rd K p) ∧ spec_l3Ok.l1 (k + t + 1) (p : Int) (q : Int) a s m K V = spec_l3Ok.l0 k ((p + 1 : Nat) : Int) a s m K V) := by
  induction t with
  | zero =>
    intro k q hq hno
    right
    refine ⟨fun j hj => hno j (by omega), ?_⟩
    simp only [spec_l3Ok.l1]
    rw [if_neg (by omega), w_succ (by omega)]
  | succ t ih =>
    intro k q hq hno
    have e : spec_l3Ok.l1 (k + (t + 1) + 1) (p : Int) (q : Int) a s m K V = if rd K q = rd K p then some false else spec_l3Ok.l1 (k + t + 1) (p : Int) ((q + 1 : Nat) : Int) a s m K V := by
      simp only [spec_l3Ok.l1]
      rw [if_pos (by omega), if_pos (by omega), if_pos (by omega), if_pos (by omega), if_pos (by omega), w_succ (by omega)]
      rfl
    rw [e]
    by_cases h : rd K q = rd K p
    · left
      exact ⟨fun z => z q (by omega) h, if_pos h⟩
    · rw [if_neg h]
      refine ih k (q + 1) (by omega) (fun j hj => ?_)
      by_cases e : j = q
      · rw [e]; exact h
      · exact hno j (by omega)
theorem rowsS (a s m : Int) (K : List Int) (V : List ByteArray) (hl : K.length = V.length) (hK : K.length ≤ 8) (d : Nat) : ∀ (k p : Nat), p + d = K.length → 12 * d < k →
    Gives (spec_l3Ok.l0 k (p : Int) a s m K V) (fun b => b = true ↔ ∀ i : Nat, p ≤ i → i < K.length → RowOk a s K V i) := by
  induction d with
  | zero =>
    intro k p hp hk
    obtain ⟨k, rfl⟩ : ∃ m, k = m + 1 := ⟨k - 1, by omega⟩
    simp only [spec_l3Ok.l0]
    rw [if_neg (by omega)]
    exact Gives.ret ⟨fun _ i h1 h2 => absurd h1 (by omega), fun _ => rfl⟩
  | succ d ih =>
    intro k p hp hk
    obtain ⟨k, rfl⟩ : ∃ m, k = (m + p + 1) + 2 := ⟨k - p - 3, by omega⟩
    have bad : ¬ RowOk a s K V p → Gives (spec_l3Ok.j2 (k + p + 1 + 1) (p : Int) true a s m K V) (fun b => b = true ↔ ∀ i : Nat, p ≤ i → i < K.length → RowOk a s K V i) := by
      intro h
      simp only [spec_l3Ok.j2]
      rw [if_pos trivial]
      exact Gives.ret ⟨fun e => (by cases e), fun e => absurd (e p (Nat.le_refl p) (by omega)) h⟩
    have good : ((rdOf ByteArray.empty V (p : Int)).size : Int) = s → (0 ≤ rd K (p : Int) ∧ rd K (p : Int) ≤ 4294967295) → (a = 1 → rd K (p : Int) = p) → Gives (spec_l3Ok.j2 (k + p + 1 + 1) (p : Int) false a s m K V) (fun b => b = true ↔ ∀ i : Nat, p ≤ i → i < K.length → RowOk a s K V i) := by
      intro h1 h2 h3
      simp only [spec_l3Ok.j2]
      rw [if_neg (by decide)]
      rcases l1_run a s m K V (p := p) (by omega) hK p k 0 (by omega) (fun j hj => absurd hj (by omega)) with ⟨hn, e⟩ | ⟨hy, e⟩
      · rw [show (0 : Int) = ((0 : Nat) : Int) from rfl, e]
        exact Gives.ret ⟨fun e => (by cases e), fun e => absurd (e p (Nat.le_refl p) (by omega)).2.2.2 hn⟩
      · rw [show (0 : Int) = ((0 : Nat) : Int) from rfl, e]
        refine (ih k (p + 1) (by omega) (by omega)).mono fun b hb => ?_
        rw [hb, rows_step (p := p) (by omega)]
        exact ⟨fun z => ⟨⟨h1, h2, h3, hy⟩, z⟩, fun z => z.2⟩
    simp only [spec_l3Ok.l0]
    rw [if_pos (by omega), if_pos (by omega), if_pos (by omega)]
    refine Gives.ite (fun h1 => ?_) (fun h1 => bad (fun r => h1 r.1))
    rw [l1In_eq]
    simp only [Option.bind_some, decide_eq_true_eq]
    refine Gives.ite (fun h2 => ?_) (fun h2 => bad (fun r => h2 r.2.1))
    refine Gives.ite (fun h3 => ?_) (fun h3 => good h1 h2 (fun z => absurd z h3))
    by_cases h4 : rd K p = p
    · rw [show (rd K (p : Int) != (p : Int)) = false from bne_eq_false_iff_eq.mpr h4]; exact good h1 h2 (fun _ => h4)
    · rw [show (rd K (p : Int) != (p : Int)) = true from bne_iff_ne.mpr h4]; exact bad (fun r => h4 (r.2.2.1 h3))
theorem specTab_gives (a s m : Int) (K : List Int) (V : List ByteArray) {k : Nat} (hk : 110 < k) : Gives (spec_l3Ok.f k a s m K V) (fun b => b = true ↔ TabOk a s m K V) := by
  obtain ⟨k, rfl⟩ : ∃ m, k = m + 1 := ⟨k - 1, by omega⟩
  have bad : ¬ TabOk a s m K V → Gives (spec_l3Ok.j0 (k + 1) true a s m K V) (fun b => b = true ↔ TabOk a s m K V) := by
    intro h
    simp only [spec_l3Ok.j0]
    rw [if_pos trivial]
    exact Gives.ret ⟨fun e => (by cases e), fun e => absurd e h⟩
  have good : ShapeOk a s m K V → (a = 1 → (K.length : Int) = m) → Gives (spec_l3Ok.j0 (k + 1) false a s m K V) (fun b => b = true ↔ TabOk a s m K V) := by
    intro h g
    simp only [spec_l3Ok.j0]
    rw [if_neg (by decide)]
    have h1 := h.2.2.1
    have h2 := h.2.2.2.2
    refine (rowsS a s m K V h.2.2.2.1 (by omega) K.length k 0 (by omega) (by omega)).mono fun b hb => ?_
    rw [hb]
    exact ⟨fun z => ⟨h, g, fun i hi => z i (Nat.zero_le i) hi⟩, fun z i _ hi => z.2.2 i hi⟩
  unfold spec_l3Ok.f
  refine (shape_eq a s m K V).bind fun b hb => ?_
  refine Gives.ite (fun h1 => ?_) (fun h1 => bad (fun z => h1 (hb.2 z.1)))
  have hs := hb.1 h1
  refine Gives.ite (fun h4 => ?_) (fun h4 => good hs (fun z => absurd z h4))
  by_cases h5 : (K.length : Int) = m
  · rw [show ((K.length : Int) != m) = false from bne_eq_false_iff_eq.mpr h5]; exact good hs (fun _ => h5)
  · rw [show ((K.length : Int) != m) = true from bne_iff_ne.mpr h5]; exact bad (fun z => h5 (z.2.1 h4))
theorem set_step {α : Type} (l x : List α) (z : α) (p : Nat) (hx : x.length = l.length) (hp : p < l.length) (h : x.take p = l.take p) : (x.set p (l.getD p z)).take (p + 1) = l.take (p + 1) := by
  have e : l.getD p z = l[p] := by rw [List.getD_eq_getElem?_getD, List.getElem?_eq_getElem hp]; rfl
  rw [e, List.take_add_one, List.take_add_one, List.take_set_of_le (Nat.le_refl p), h, List.getElem?_set_self (by omega), List.getElem?_eq_getElem hp]
theorem toInt_loop (l : List Int) (hl : l.length ≤ 2000000) (d : Nat) : ∀ (k p : Nat) (x : List Int), p + d = l.length → d < k → x.length = l.length → x.take p = l.take p → laws_toIntS.l0 k l x (p : Int) = some l := by
  induction d with
  | zero =>
    intro k p x hp hk hx h
    obtain ⟨k, rfl⟩ : ∃ m, k = m + 1 := ⟨k - 1, by omega⟩
    rw [laws_toIntS.l0, if_neg (by omega)]
    rw [List.take_of_length_le (by omega), List.take_of_length_le (by omega)] at h
    rw [h]
  | succ d ih =>
    intro k p x hp hk hx h
    obtain ⟨k, rfl⟩ : ∃ m, k = m + 1 := ⟨k - 1, by omega⟩
    rw [laws_toIntS.l0, if_pos (by omega), if_pos (by omega), if_pos (by omega), w_succ (by omega)]
    exact ih k (p + 1) _ (by omega) (by omega) (by rw [List.length_set]; exact hx) (set_step l x 0 p hx (by omega) h)
theorem toInts_eq (l : List Int) (hl : l.length ≤ 2000000) {k : Nat} (hk : l.length < k) : laws_toIntS.f k l = some l := by
  unfold laws_toIntS.f
  rw [if_pos (by omega), if_pos (by omega)]
  exact toInt_loop l hl l.length k 0 _ (by omega) hk (by simp) rfl
theorem toString_loop (l : List ByteArray) (hl : l.length ≤ 2000000) (d : Nat) : ∀ (k p : Nat) (x : List ByteArray), p + d = l.length → d < k → x.length = l.length → x.take p = l.take p → laws_toStringS.l0 k l x (p : Int) = some l := by
  induction d with
  | zero =>
    intro k p x hp hk hx h
    obtain ⟨k, rfl⟩ : ∃ m, k = m + 1 := ⟨k - 1, by omega⟩
    rw [laws_toStringS.l0, if_neg (by omega)]
    rw [List.take_of_length_le (by omega), List.take_of_length_le (by omega)] at h
    rw [h]
  | succ d ih =>
    intro k p x hp hk hx h
    obtain ⟨k, rfl⟩ : ∃ m, k = m + 1 := ⟨k - 1, by omega⟩
    rw [laws_toStringS.l0, if_pos (by omega), if_pos (by omega), if_pos (by omega), w_succ (by omega)]
    exact ih k (p + 1) _ (by omega) (by omega) (by rw [List.length_set]; exact hx) (set_step l x ByteArray.empty p hx (by omega) h)
theorem toStrings_eq (l : List ByteArray) (hl : l.length ≤ 2000000) {k : Nat} (hk : l.length < k) : laws_toStringS.f k l = some l := by
  unfold laws_toStringS.f
  rw [if_pos (by omega), if_pos (by omega)]
  exact toString_loop l hl l.length k 0 _ (by omega) hk (by simp) rfl
theorem toTable_eq (a s m : Int) (K : List Int) (V : List ByteArray) (hK : K.length ≤ 2000000) (hV : V.length ≤ 2000000) {k : Nat} (hk : K.length < k) (hk' : V.length < k) : laws_toTable.f k a s m K V = some (a, s, m, K, V) := by
  unfold laws_toTable.f
  rw [toInts_eq K hK hk, toStrings_eq V hV hk']
  rfl
theorem eqInt_loop (l : List Int) (hl : l.length ≤ 2000000) (d : Nat) : ∀ (k p : Nat), p + d = l.length → d < k → laws_eqIntS.l0 k l l (p : Int) = some true := by
  induction d with
  | zero =>
    intro k p hp hk
    obtain ⟨k, rfl⟩ : ∃ m, k = m + 1 := ⟨k - 1, by omega⟩
    rw [laws_eqIntS.l0, if_neg (by omega)]
  | succ d ih =>
    intro k p hp hk
    obtain ⟨k, rfl⟩ : ∃ m, k = m + 1 := ⟨k - 1, by omega⟩
    rw [laws_eqIntS.l0, if_pos (by omega), if_pos (by omega), if_pos (by omega), if_pos rfl, w_succ (by omega)]
    exact ih k (p + 1) (by omega) (by omega)
theorem eqString_loop (l : List ByteArray) (hl : l.length ≤ 2000000) (d : Nat) : ∀ (k p : Nat), p + d = l.length → d < k → laws_eqStringS.l0 k l l (p : Int) = some true := by
  induction d with
  | zero =>
    intro k p hp hk
    obtain ⟨k, rfl⟩ : ∃ m, k = m + 1 := ⟨k - 1, by omega⟩
    rw [laws_eqStringS.l0, if_neg (by omega)]
  | succ d ih =>
    intro k p hp hk
    obtain ⟨k, rfl⟩ : ∃ m, k = m + 1 := ⟨k - 1, by omega⟩
    rw [laws_eqStringS.l0, if_pos (by omega), if_pos (by omega), if_pos (by omega), if_pos rfl, w_succ (by omega)]
    exact ih k (p + 1) (by omega) (by omega)
theorem eqTable_eq (a s m : Int) (K : List Int) (V : List ByteArray) (hK : K.length ≤ 2000000) (hV : V.length ≤ 2000000) {k : Nat} (hk : K.length < k) (hk' : V.length < k) : laws_eqTable.f k a s m K V a s m K V = some true := by
  unfold laws_eqTable.f laws_eqIntS.f laws_eqStringS.f
  rw [if_pos rfl, if_pos rfl, if_pos rfl, if_pos rfl, if_pos rfl]
  have h1 := eqInt_loop K hK K.length k 0 (by omega) hk
  have h2 := eqString_loop V hV V.length k 0 (by omega) hk'
  have h1 : laws_eqIntS.l0 k K K 0 = some true := h1
  have h2 : laws_eqStringS.l0 k V V 0 = some true := h2
  rw [h1, h2]
  rfl
theorem szString_loop (l : List ByteArray) (hl : l.length ≤ 2000000) (hs : ∀ x ∈ l, x.size ≤ maxLen) (d : Nat) : ∀ (k p : Nat) (a : Int), p + d = l.length → d < k → 0 ≤ a → a ≤ 1048576 → Gives (laws_szStringS.l0 k l a (p : Int)) (fun v => v ≤ 1048576) := by
  induction d with
  | zero =>
    intro k p a hp hk h0 h1
    obtain ⟨k, rfl⟩ : ∃ m, k = m + 1 := ⟨k - 1, by omega⟩
    rw [laws_szStringS.l0, if_neg (by omega)]
    exact Gives.ret h1
  | succ d ih =>
    intro k p a hp hk h0 h1
    obtain ⟨k, rfl⟩ : ∃ m, k = m + 1 := ⟨k - 1, by omega⟩
    have hm : (rdOf ByteArray.empty l (p : Int)).size ≤ 9223372036854775807 := by
      unfold rdOf
      rw [List.getD_eq_getElem?_getD, List.getElem?_eq_getElem (by simp; omega)]
      exact hs _ (List.getElem_mem _)
    rw [laws_szStringS.l0, if_pos (by omega), if_pos (by omega), w_succ (by omega), wrap64_id (by omega) (by omega)]
    exact Gives.ite (fun _ => Gives.ret (by omega)) (fun h => ih k (p + 1) _ (by omega) (by omega) (by omega) (by omega))
theorem szTable_gives (a s m : Int) (K : List Int) (V : List ByteArray) (hK : K.length ≤ maxLen) (hV : V.length ≤ maxLen) (hs : ∀ x ∈ V, x.size ≤ maxLen) {b : Int} (h0 : 0 ≤ b) (h1 : b ≤ 1048576) {k : Nat} (hk : 1048577 < k) : Gives (laws_szTable.f k a s m K V b) (fun v => v ≤ 1048576 ∧ (v < 0 ∨ (K.length ≤ 1048576 ∧ V.length ≤ 1048576))) := by
  have hK : K.length ≤ 9223372036854775807 := hK
  have hV : V.length ≤ 9223372036854775807 := hV
  unfold laws_szTable.f laws_szIntS.f laws_szStringS.f
  rw [wrap64_id (n := b - (K.length : Int)) (by omega) (by omega)]
  refine Gives.bind (P := fun v => v ≤ 1048576 ∧ (v < 0 ∨ (0 ≤ v ∧ K.length ≤ 1048576))) (Gives.ite (fun _ => Gives.ret (by omega)) (fun h => Gives.ret (by omega))) fun v hv => ?_
  refine Gives.ite (fun _ => Gives.ret (by omega)) (fun h => ?_)
  rw [wrap64_id (n := v - (V.length : Int)) (by omega) (by omega)]
  refine Gives.bind (P := fun u => u ≤ 1048576 ∧ (u < 0 ∨ V.length ≤ 1048576)) (Gives.ite (fun _ => Gives.ret (by omega)) (fun h' => ?_)) fun u hu => ?_
  · exact (szString_loop V (by omega) hs V.length k 0 _ (by omega) (by omega) (by omega) (by omega)).mono fun u hu => by omega
  · exact Gives.ite (fun _ => Gives.ret (by omega)) (fun _ => Gives.ret (by omega))
/-- A register, or a number in its place. -/
def EitherI (s m : Int) : Prop := (0 ≤ s ∧ s ≤ 10 ∧ m = 0) ∨ (s = -1 ∧ 0 ≤ m ∧ m ≤ 4294967295)
/-- How many bytes are loaded or stored. -/
def SizeI (z : Int) : Prop := z = 1 ∨ z = 2 ∨ z = 4
/-- An op that is ok. -/
def InsI (o d s f m z : Int) : Prop :=
  if 1 ≤ o ∧ o ≤ 11 then (0 ≤ d ∧ d ≤ 10) ∧ EitherI s m ∧ f = 0 ∧ z = 0
  else if 12 ≤ o ∧ o ≤ 15 then (0 ≤ d ∧ d ≤ 10) ∧ EitherI s m ∧ (-128 ≤ f ∧ f ≤ 127) ∧ z = 0
  else if o = 16 then (-128 ≤ f ∧ f ≤ 127) ∧ d = 0 ∧ s = -1 ∧ m = 0 ∧ z = 0
  else if o = 17 then (0 ≤ d ∧ d ≤ 10) ∧ (0 ≤ s ∧ s ≤ 10) ∧ m = 0 ∧ (-128 ≤ f ∧ f ≤ 127) ∧ SizeI z
  else if o = 18 then (0 ≤ d ∧ d ≤ 10) ∧ EitherI s m ∧ (-128 ≤ f ∧ f ≤ 127) ∧ SizeI z
  else if o = 19 then (1 ≤ m ∧ m ≤ 6) ∧ d = 0 ∧ s = -1 ∧ f = 0 ∧ z = 0
  else o = 20 ∧ d = 0 ∧ s = -1 ∧ f = 0 ∧ m = 0 ∧ z = 0
instance EitherI_dec (s m : Int) : Decidable (EitherI s m) := by unfold EitherI; exact inferInstance
instance SizeI_dec (z : Int) : Decidable (SizeI z) := by unfold SizeI; exact inferInstance
instance InsI_dec (o d s f m z : Int) : Decidable (InsI o d s f m z) := by unfold InsI; exact inferInstance
theorem some_eq_dec {b : Bool} {p : Prop} [Decidable p] (h : b = true ↔ p) : some b = some (decide p) := by
  congr 1
  rw [Bool.eq_iff_iff, h, decide_eq_true_eq]
theorem InsI.range {o d s f m z : Int} (h : InsI o d s f m z) : (1 ≤ o ∧ o ≤ 20) ∧ (0 ≤ d ∧ d ≤ 10) ∧ (-1 ≤ s ∧ s ≤ 10) ∧ (-128 ≤ f ∧ f ≤ 127) ∧ (0 ≤ m ∧ m ≤ 4294967295) ∧ (0 ≤ z ∧ z ≤ 4) := by
  unfold InsI EitherI SizeI at h
  repeat' split at h
  all_goals omega
theorem reckons_eq (o : Int) : impl_kind_reckons.f o = some (decide (1 ≤ o ∧ o ≤ 11)) := by unfold impl_kind_reckons.f; simp only [within_eq, Option.bind_some]
theorem asks_eq (o : Int) : impl_kind_asks.f o = some (decide (12 ≤ o ∧ o ≤ 15)) := by unfold impl_kind_asks.f; simp only [within_eq, Option.bind_some]
theorem regOk_eq (d : Int) : impl_regOk.f d = some (decide (0 ≤ d ∧ d ≤ 10)) := by unfold impl_regOk.f; simp only [within_eq, Option.bind_some]
theorem sizeOk_eq (z : Int) : impl_sizeOk.f z = some (decide (SizeI z)) := by
  unfold impl_sizeOk.f
  repeat' split
  all_goals (apply some_eq_dec; unfold SizeI; simp only [beq_iff_eq, true_iff]; omega)
theorem either_eq (o d s f m z : Int) : impl_Ins_either.f o d s f m z = some (decide (EitherI s m)) := by
  unfold impl_Ins_either.f
  simp only [regOk_eq, numOk_eq, Option.bind_some, decide_eq_true_eq]
  repeat' split
  all_goals (apply some_eq_dec; unfold EitherI; simp only [decide_eq_true_eq, true_iff, Bool.false_eq_true, false_iff]; omega)
theorem implInsOk_eq (o d s f m z : Int) : impl_InsOk.f o d s f m z = some (decide (InsI o d s f m z)) := by
  unfold impl_InsOk.f
  simp only [within_eq, regOk_eq, reckons_eq, asks_eq, sizeOk_eq, either_eq, Option.bind_some, decide_eq_true_eq]
  by_cases h1 : 1 ≤ o ∧ o ≤ 11
  · unfold InsI; simp only [h1, and_self, if_true]
    repeat' split
    all_goals (apply some_eq_dec; simp_all; try (intros; omega))
  by_cases h2 : 12 ≤ o ∧ o ≤ 15
  · unfold InsI; simp only [h1, h2, and_self, if_true, if_false]
    repeat' split
    all_goals (apply some_eq_dec; simp_all; try (intros; omega))
  by_cases h3 : o = 16
  · subst h3; unfold InsI; simp only [h1, h2, if_true, if_false]
    repeat' split
    all_goals (apply some_eq_dec; simp_all; try (intros; omega))
  by_cases h4 : o = 17
  · subst h4; unfold InsI; simp only [h1, h2, h3, if_true, if_false]
    repeat' split
    all_goals (apply some_eq_dec; simp_all; try (intros; omega))
  by_cases h5 : o = 18
  · subst h5; unfold InsI; simp only [h1, h2, h3, h4, if_true, if_false]
    repeat' split
    all_goals (apply some_eq_dec; simp_all; try (intros; omega))
  by_cases h6 : o = 19
  · subst h6; unfold InsI; simp only [h1, h2, h3, h4, h5, if_true, if_false]
    repeat' split
    all_goals (apply some_eq_dec; simp_all; try (intros; omega))
  · unfold InsI; simp only [h1, h2, h3, h4, h5, h6, if_false]
    apply some_eq_dec
    simp
theorem specBare_eq (o d s f m z : Int) (hs : -1 ≤ s ∧ s ≤ 10) (hd : 0 ≤ d ∧ d ≤ 10) (hf : -128 ≤ f ∧ f ≤ 127) (hm : 0 ≤ m ∧ m ≤ 4294967295) : spec_l1Bare.f o d s f m z = some (decide (InsI o d s f m z)) := by
  have he : EitherI s m ↔ (s < 0 ∨ m = 0) := by unfold EitherI; omega
  have hr : (0 ≤ s ∧ s ≤ 10) ↔ s ≥ 0 := by omega
  unfold spec_l1Bare.f spec_l1Alu.f spec_l1Jump.f
  simp only [l1In_eq, Option.bind_some, decide_eq_true_eq]
  by_cases h1 : 1 ≤ o ∧ o ≤ 11
  · unfold InsI; simp only [h1, he, hr, hd, hf, and_self, if_true, true_and]
    repeat' split
    all_goals (apply some_eq_dec; simp_all; try (intros; omega))
  by_cases h2 : 12 ≤ o ∧ o ≤ 15
  · unfold InsI; simp only [h1, h2, he, hr, hd, hf, and_self, if_true, if_false, true_and]
    repeat' split
    all_goals (apply some_eq_dec; simp_all; try (intros; omega))
  by_cases h3 : o = 16
  · subst h3; unfold InsI; simp only [h1, h2, hf, and_self, if_true, if_false, true_and]
    repeat' split
    all_goals (apply some_eq_dec; simp_all; try (intros; omega))
  by_cases h4 : o = 17
  · subst h4; unfold InsI SizeI; simp only [h1, h2, h3, hr, hd, hf, and_self, if_true, if_false, true_and]
    repeat' split
    all_goals (apply some_eq_dec; simp_all; try (intros; omega))
  by_cases h5 : o = 18
  · subst h5; unfold InsI SizeI; simp only [h1, h2, h3, h4, he, hd, hf, and_self, if_true, if_false, true_and]
    repeat' split
    all_goals (apply some_eq_dec; simp_all; try (intros; omega))
  by_cases h6 : o = 19
  · subst h6; unfold InsI; simp only [h1, h2, h3, h4, h5, if_true, if_false]
    repeat' split
    all_goals (apply some_eq_dec; simp_all; try (intros; omega))
  · unfold InsI; simp only [h1, h2, h3, h4, h5, h6, if_false]
    repeat' split
    all_goals (apply some_eq_dec; simp_all; try (intros; omega))
theorem specInsOk_eq (o d s f m z : Int) : spec_l1InsOk.f o d s f m z = some (decide (InsI o d s f m z)) := by
  unfold spec_l1InsOk.f
  simp only [l1In_eq, Option.bind_some, decide_eq_true_eq]
  by_cases h1 : 0 ≤ d ∧ d ≤ 10
  · by_cases h2 : -1 ≤ s ∧ s ≤ 10
    · by_cases h3 : -128 ≤ f ∧ f ≤ 127
      · by_cases h4 : 0 ≤ m ∧ m ≤ 4294967295
        · rw [if_pos h1, if_pos h2, if_pos h3, if_pos h4, specBare_eq o d s f m z h2 h1 h3 h4]; rfl
        · rw [if_pos h1, if_pos h2, if_pos h3, if_neg h4, decide_eq_false (fun x => h4 (InsI.range x).2.2.2.2.1)]
      · rw [if_pos h1, if_pos h2, if_neg h3, decide_eq_false (fun x => h3 (InsI.range x).2.2.2.1)]
    · rw [if_pos h1, if_neg h2, decide_eq_false (fun x => h2 (InsI.range x).2.2.1)]
  · rw [if_neg h1, decide_eq_false (fun x => h1 (InsI.range x).2.1)]
def okIns (x : S57) : Prop := InsI x.f0 x.f1 x.f2 x.f3 x.f4 x.f5
/-- An op of a program that is ok, and leads nowhere beyond. -/
def okAt (l : List S57) (i : Nat) : Prop := okIns (rd_T57 l i) ∧ (12 ≤ (rd_T57 l i).f0 ∧ (rd_T57 l i).f0 ≤ 16 → 0 ≤ (i : Int) + 1 + (rd_T57 l i).f3 ∧ (i : Int) + 1 + (rd_T57 l i).f3 ≤ (l.length : Int) - 1)
def allAt (l : List S57) (p : Nat) : Prop := ∀ i : Nat, p ≤ i → i < l.length → okAt l i
/-- What is told of a program whose ops are ok. -/
def tailI (l : List S57) : Int := if (l.length : Int) > 48 then 3 else if (l.length : Int) = 0 then 4 else if (rd_T57 l ((l.length : Int) - 1)).f0 = 20 ∨ (rd_T57 l ((l.length : Int) - 1)).f0 = 16 then 0 else 4
def FormOf (l : List S57) (p : Nat) (r : Int) : Prop := (allAt l p → r = tailI l) ∧ (¬ allAt l p → r = 1 ∨ r = 2)
theorem allAt_step {l : List S57} {p : Nat} (hp : p < l.length) : allAt l p ↔ okAt l p ∧ allAt l (p + 1) := by
  constructor
  · exact fun h => ⟨h p (Nat.le_refl p) hp, fun i h1 h2 => h i (by omega) h2⟩
  · rintro ⟨h, h'⟩ i h1 h2
    by_cases e : i = p
    · rw [e]; exact h
    · exact h' i (by omega) h2
theorem FormOf.step {l : List S57} {p : Nat} {r : Int} (hp : p < l.length) (h : okAt l p) (f : FormOf l (p + 1) r) : FormOf l p r :=
  ⟨fun a => f.1 ((allAt_step hp).1 a).2, fun n => f.2 (fun a => n ((allAt_step hp).2 ⟨h, a⟩))⟩
theorem FormOf.bad {l : List S57} {p : Nat} {r : Int} (hp : p < l.length) (h : ¬ okAt l p) (hr : r = 1 ∨ r = 2) : FormOf l p r :=
  ⟨fun a => absurd ((allAt_step hp).1 a).1 h, fun _ => hr⟩
theorem goes_eq (o : Int) : impl_kind_goes.f o = some (decide (12 ≤ o ∧ o ≤ 16)) := by unfold impl_kind_goes.f; simp only [within_eq, Option.bind_some]
theorem form_both (l : List S57) (hl : l.length ≤ 2000000) (d : Nat) : ∀ (k j p : Nat), p + d = l.length → 2 * d + 3 < k → 2 * d + 3 < j →
    ∃ r, impl_ProgForm.l0 k l l (l.length : Int) (p : Int) = some r ∧ spec_l1Form.l0 j l (p : Int) = some r ∧ FormOf l p r := by
  induction d with
  | zero =>
    intro k j p hp hk hj
    obtain ⟨k, rfl⟩ : ∃ m, k = m + 2 := ⟨k - 2, by omega⟩
    obtain ⟨j, rfl⟩ : ∃ m, j = m + 2 := ⟨j - 2, by omega⟩
    refine ⟨tailI l, ?_, ?_, fun _ => rfl, fun n => absurd (fun i h1 h2 => absurd h1 (by omega)) n⟩
    · rw [impl_ProgForm.l0, if_neg (by omega)]
      unfold tailI
      by_cases c1 : (l.length : Int) > 48
      · rw [if_pos c1, if_pos c1]
      rw [if_neg c1, if_neg c1]
      by_cases c2 : (l.length : Int) = 0
      · rw [if_pos c2, if_pos c2, impl_ProgForm.j1, if_pos (by rw [beq_iff_eq]; exact c2)]
      rw [if_neg c2, if_neg c2, wrap64_id (n := (l.length : Int) - 1) (by omega) (by omega), if_pos (by omega), if_pos (by omega), impl_ProgForm.j1, impl_ProgForm.j1]
      by_cases c3 : (rd_T57 l ((l.length : Int) - 1)).f0 = 20
      · rw [if_pos c3, if_pos (Or.inl c3), if_neg (by decide)]
      by_cases c4 : (rd_T57 l ((l.length : Int) - 1)).f0 = 16
      · rw [if_neg c3, if_pos (Or.inr c4), c4]; rfl
      · rw [if_neg c3, if_neg (show ¬ ((rd_T57 l ((l.length : Int) - 1)).f0 = 20 ∨ (rd_T57 l ((l.length : Int) - 1)).f0 = 16) by omega), if_pos (by rw [bne_iff_ne]; exact c4)]
    · rw [spec_l1Form.l0, if_neg (by omega)]
      unfold tailI
      by_cases c1 : (l.length : Int) > 48
      · rw [if_pos c1, if_pos c1]
      rw [if_neg c1, if_neg c1]
      by_cases c2 : (l.length : Int) = 0
      · rw [if_pos c2, if_pos c2, spec_l1Form.j2, if_pos rfl]
      rw [if_neg c2, if_neg c2, wrap64_id (n := (l.length : Int) - 1) (by omega) (by omega), if_pos (by omega), if_pos (by omega), spec_l1Form.j2, spec_l1Form.j2]
      by_cases c3 : (rd_T57 l ((l.length : Int) - 1)).f0 = 20
      · rw [if_pos c3, if_pos (Or.inl c3), if_neg (by decide)]
      by_cases c4 : (rd_T57 l ((l.length : Int) - 1)).f0 = 16
      · rw [if_neg c3, if_pos (Or.inr c4), c4]; rfl
      · rw [if_neg c3, if_neg (show ¬ ((rd_T57 l ((l.length : Int) - 1)).f0 = 20 ∨ (rd_T57 l ((l.length : Int) - 1)).f0 = 16) by omega), if_pos (by rw [bne_iff_ne]; exact c4)]
  | succ d ih =>
    intro k j p hp hk hj
    obtain ⟨k, rfl⟩ : ∃ m, k = m + 2 := ⟨k - 2, by omega⟩
    obtain ⟨j, rfl⟩ : ∃ m, j = m + 2 := ⟨j - 2, by omega⟩
    have hlt : p < l.length := by omega
    rw [impl_ProgForm.l0, if_pos (by omega), if_pos (by omega), if_pos (by omega), spec_l1Form.l0, if_pos (by omega), if_pos (by omega), implInsOk_eq, specInsOk_eq, goes_eq]
    simp only [Option.bind_some, decide_eq_true_eq]
    by_cases h : InsI (rd_T57 l p).f0 (rd_T57 l p).f1 (rd_T57 l p).f2 (rd_T57 l p).f3 (rd_T57 l p).f4 (rd_T57 l p).f5
    · have hr := (InsI.range h).2.2.2.1
      have tgt : wrap64 (wrap64 ((p : Int) + 1) + (rd_T57 l p).f3) = (p : Int) + 1 + (rd_T57 l p).f3 := by
        rw [wrap64_id (n := (p : Int) + 1) (by omega) (by omega), wrap64_id (by omega) (by omega)]
      have len1 : wrap64 ((l.length : Int) - 1) = (l.length : Int) - 1 := wrap64_id (by omega) (by omega)
      have js : (spec_l1Jump.f (rd_T57 l p).f0).bind (fun t669 => if t669 = true then spec_l1Form.j1 (j + 1) l p true else spec_l1Form.j1 (j + 1) l p ((rd_T57 l p).f0 == 16)) = spec_l1Form.j1 (j + 1) l p (decide (12 ≤ (rd_T57 l p).f0 ∧ (rd_T57 l p).f0 ≤ 16)) := by
        unfold spec_l1Jump.f
        simp only [l1In_eq, Option.bind_some, decide_eq_true_eq]
        by_cases c : 12 ≤ (rd_T57 l p).f0 ∧ (rd_T57 l p).f0 ≤ 15
        · rw [if_pos c, decide_eq_true (by omega)]
        · rw [if_neg c]
          congr 1
          rw [Bool.eq_iff_iff, beq_iff_eq, decide_eq_true_eq]
          omega
      rw [if_pos h, if_pos h, js, spec_l1Form.j1]
      unfold impl_target.f
      rw [if_pos (show (0 : Int) ≤ p by omega), if_pos (show (p : Int) < l.length by omega), tgt, len1]
      simp only [Option.bind_some, within_eq, l1In_eq, decide_eq_true_eq, w_succ (show p < 4611686018427387904 by omega)]
      by_cases c : 12 ≤ (rd_T57 l p).f0 ∧ (rd_T57 l p).f0 ≤ 16
      · rw [if_pos c, if_pos c, if_pos (show (0 : Int) ≤ p by omega), if_pos (show (p : Int) < l.length by omega)]
        by_cases t : 0 ≤ (p : Int) + 1 + (rd_T57 l p).f3 ∧ (p : Int) + 1 + (rd_T57 l p).f3 ≤ (l.length : Int) - 1
        · rw [if_pos t, if_pos t]
          obtain ⟨r, e1, e2, e3⟩ := ih (k + 1) j (p + 1) (by omega) (by omega) (by omega)
          exact ⟨r, e1, e2, FormOf.step hlt ⟨h, fun _ => t⟩ e3⟩
        · rw [if_neg t, if_neg t]
          exact ⟨2, rfl, rfl, FormOf.bad hlt (fun q => t (q.2 c)) (Or.inr rfl)⟩
      · rw [if_neg c, if_neg c]
        obtain ⟨r, e1, e2, e3⟩ := ih (k + 1) j (p + 1) (by omega) (by omega) (by omega)
        exact ⟨r, e1, e2, FormOf.step hlt ⟨h, fun q => absurd q c⟩ e3⟩
    · rw [if_neg h, if_neg h]
      exact ⟨1, rfl, rfl, FormOf.bad hlt (fun q => h q.1) (Or.inl rfl)⟩
def insOf (x : S59) : S57 := ⟨x.f0, x.f1, x.f2, x.f3, x.f4, x.f5⟩
theorem insOf_at (l : List S59) (p : Nat) (hp : p < l.length) : insOf (rd_T59 l (p : Int)) = (l.map insOf).getD p z57 := by
  unfold rd_T59
  rw [List.getD_eq_getElem?_getD, List.getD_eq_getElem?_getD, List.getElem?_map, Int.toNat_natCast, List.getElem?_eq_getElem hp]
  rfl
theorem toIns_loop (l : List S59) (hl : l.length ≤ 2000000) (d : Nat) : ∀ (k p : Nat) (x : List S57), p + d = l.length → d < k → x.length = l.length → x.take p = (l.map insOf).take p → laws_toInsS.l0 k l x (p : Int) = some (l.map insOf) := by
  induction d with
  | zero =>
    intro k p x hp hk hx h
    obtain ⟨k, rfl⟩ : ∃ m, k = m + 1 := ⟨k - 1, by omega⟩
    rw [laws_toInsS.l0, if_neg (by omega)]
    rw [List.take_of_length_le (by omega), List.take_of_length_le (by rw [List.length_map]; omega)] at h
    rw [h]
  | succ d ih =>
    intro k p x hp hk hx h
    obtain ⟨k, rfl⟩ : ∃ m, k = m + 1 := ⟨k - 1, by omega⟩
    rw [laws_toInsS.l0, if_pos (by omega), if_pos (by omega)]
    unfold laws_toIns.f
    simp only [Option.bind_some]
    rw [if_pos (by omega), w_succ (by omega)]
    refine ih k (p + 1) _ (by omega) (by omega) (by rw [List.length_set]; exact hx) ?_
    have e := set_step (l.map insOf) x z57 p (by rw [List.length_map]; exact hx) (by rw [List.length_map]; omega) h
    rw [← insOf_at l p (by omega)] at e
    exact e
theorem toInsS_eq (l : List S59) (hl : l.length ≤ 2000000) {k : Nat} (hk : l.length < k) : laws_toInsS.f k l = some (l.map insOf) := by
  unfold laws_toInsS.f
  rw [if_pos (by omega), if_pos (by omega)]
  exact toIns_loop l hl l.length k 0 _ (by omega) hk (by simp) rfl
theorem eqIns_loop (l : List S57) (hl : l.length ≤ 2000000) (d : Nat) : ∀ (k p : Nat), p + d = l.length → d < k → laws_eqInsS.l0 k l l (p : Int) = some true := by
  induction d with
  | zero =>
    intro k p hp hk
    obtain ⟨k, rfl⟩ : ∃ m, k = m + 1 := ⟨k - 1, by omega⟩
    rw [laws_eqInsS.l0, if_neg (by omega)]
  | succ d ih =>
    intro k p hp hk
    obtain ⟨k, rfl⟩ : ∃ m, k = m + 1 := ⟨k - 1, by omega⟩
    rw [laws_eqInsS.l0, if_pos (by omega), if_pos (by omega), if_pos (by omega), w_succ (by omega)]
    unfold laws_eqIns.f
    rw [if_pos rfl, if_pos rfl, if_pos rfl, if_pos rfl, if_pos rfl, if_pos rfl]
    simp only [Option.bind_some, if_true]
    exact ih k (p + 1) (by omega) (by omega)
theorem eqInsS_eq (l : List S57) (hl : l.length ≤ 2000000) {k : Nat} (hk : l.length < k) : laws_eqInsS.f k l l = some true := by
  unfold laws_eqInsS.f
  rw [if_pos rfl]
  exact eqIns_loop l hl l.length k 0 (by omega) hk
theorem szInsS_gives (l : List S59) (hl : l.length ≤ maxLen) {b : Int} (h0 : 0 ≤ b) (h1 : b ≤ 1048576) : Gives (laws_szInsS.f l b) (fun v => v ≤ 1048576 ∧ (v < 0 ∨ (0 ≤ v ∧ l.length ≤ 1048576))) := by
  have hl : l.length ≤ 9223372036854775807 := hl
  unfold laws_szInsS.f
  rw [wrap64_id (n := b - (l.length : Int)) (by omega) (by omega)]
  exact Gives.ite (fun _ => Gives.ret (by omega)) (fun h => Gives.ret (by omega))
def tabOf (x : S52) : S54 := ⟨x.f0, x.f1, x.f2, x.f3, x.f4⟩
def SmallT (K : List Int) (V : List ByteArray) : Prop := K.length ≤ 1048576 ∧ V.length ≤ 1048576
theorem tabOf_at (l : List S52) (p : Nat) (hp : p < l.length) : tabOf (rd_T52 l (p : Int)) = (l.map tabOf).getD p z54 := by
  unfold rd_T52
  rw [List.getD_eq_getElem?_getD, List.getD_eq_getElem?_getD, List.getElem?_map, Int.toNat_natCast, List.getElem?_eq_getElem hp]
  rfl
theorem rdT_map (l : List S52) (p : Nat) (hp : p < l.length) : rd_T54 (l.map tabOf) (p : Int) = tabOf (rd_T52 l (p : Int)) := (tabOf_at l p hp).symm
theorem rdT_mem (l : List S52) (p : Nat) (hp : p < l.length) : rd_T52 l (p : Int) ∈ l := by
  unfold rd_T52
  rw [List.getD_eq_getElem?_getD, Int.toNat_natCast, List.getElem?_eq_getElem hp]
  exact List.getElem_mem hp
theorem toTab_loop (l : List S52) (hl : l.length ≤ 2000000) (hs : ∀ j : Nat, j < l.length → SmallT (rd_T52 l j).f3 (rd_T52 l j).f4) (d : Nat) : ∀ (k p : Nat) (x : List S54), p + d = l.length → d + 1048577 < k → x.length = l.length → x.take p = (l.map tabOf).take p → laws_toTableS.l0 k l x (p : Int) = some (l.map tabOf) := by
  induction d with
  | zero =>
    intro k p x hp hk hx h
    obtain ⟨k, rfl⟩ : ∃ m, k = m + 1 := ⟨k - 1, by omega⟩
    rw [laws_toTableS.l0, if_neg (by omega)]
    rw [List.take_of_length_le (by omega), List.take_of_length_le (by rw [List.length_map]; omega)] at h
    rw [h]
  | succ d ih =>
    intro k p x hp hk hx h
    obtain ⟨k, rfl⟩ : ∃ m, k = m + 1 := ⟨k - 1, by omega⟩
    obtain ⟨h1, h2⟩ := hs p (by omega)
    rw [laws_toTableS.l0, if_pos (by omega), if_pos (by omega), toTable_eq _ _ _ _ _ (by omega) (by omega) (by omega) (by omega)]
    simp only [Option.bind_some]
    rw [if_pos (by omega), w_succ (by omega)]
    refine ih k (p + 1) _ (by omega) (by omega) (by rw [List.length_set]; exact hx) ?_
    have e := set_step (l.map tabOf) x z54 p (by rw [List.length_map]; exact hx) (by rw [List.length_map]; omega) h
    rw [← tabOf_at l p (by omega)] at e
    exact e
theorem toTableS_eq (l : List S52) (hl : l.length ≤ 2000000) (hs : ∀ j : Nat, j < l.length → SmallT (rd_T52 l j).f3 (rd_T52 l j).f4) {k : Nat} (hk : l.length + 1048577 < k) : laws_toTableS.f k l = some (l.map tabOf) := by
  unfold laws_toTableS.f
  rw [if_pos (by omega), if_pos (by omega)]
  exact toTab_loop l hl hs l.length k 0 _ (by omega) hk (by simp) rfl
theorem eqTabS_loop (l : List S54) (hl : l.length ≤ 2000000) (hs : ∀ j : Nat, j < l.length → SmallT (rd_T54 l j).f3 (rd_T54 l j).f4) (d : Nat) : ∀ (k p : Nat), p + d = l.length → d + 1048577 < k → laws_eqTableS.l0 k l l (p : Int) = some true := by
  induction d with
  | zero =>
    intro k p hp hk
    obtain ⟨k, rfl⟩ : ∃ m, k = m + 1 := ⟨k - 1, by omega⟩
    rw [laws_eqTableS.l0, if_neg (by omega)]
  | succ d ih =>
    intro k p hp hk
    obtain ⟨k, rfl⟩ : ∃ m, k = m + 1 := ⟨k - 1, by omega⟩
    obtain ⟨h1, h2⟩ := hs p (by omega)
    rw [laws_eqTableS.l0, if_pos (by omega), if_pos (by omega), if_pos (by omega), w_succ (by omega), eqTable_eq _ _ _ _ _ (by omega) (by omega) (by omega) (by omega)]
    simp only [Option.bind_some, if_true]
    exact ih k (p + 1) (by omega) (by omega)
theorem eqTableS_eq (l : List S54) (hl : l.length ≤ 2000000) (hs : ∀ j : Nat, j < l.length → SmallT (rd_T54 l j).f3 (rd_T54 l j).f4) {k : Nat} (hk : l.length + 1048577 < k) : laws_eqTableS.f k l l = some true := by
  unfold laws_eqTableS.f
  rw [if_pos rfl]
  exact eqTabS_loop l hl hs l.length k 0 (by omega) hk
def GoodT (x : S52) : Prop := x.f3.length ≤ maxLen ∧ x.f4.length ≤ maxLen ∧ ∀ s ∈ x.f4, s.size ≤ maxLen
theorem szTab_loop (l : List S52) (hl : l.length ≤ 2000000) (hg : ∀ x ∈ l, GoodT x) (d : Nat) : ∀ (k p : Nat) (a : Int), p + d = l.length → d + 1048577 < k → 0 ≤ a → a ≤ 1048576 →
    Gives (laws_szTableS.l0 k l a (p : Int)) (fun v => v ≤ 1048576 ∧ (v < 0 ∨ ∀ j : Nat, p ≤ j → j < l.length → SmallT (rd_T52 l j).f3 (rd_T52 l j).f4)) := by
  induction d with
  | zero =>
    intro k p a hp hk h0 h1
    obtain ⟨k, rfl⟩ : ∃ m, k = m + 1 := ⟨k - 1, by omega⟩
    rw [laws_szTableS.l0, if_neg (by omega)]
    exact Gives.ret ⟨h1, Or.inr (fun j h2 h3 => absurd h2 (by omega))⟩
  | succ d ih =>
    intro k p a hp hk h0 h1
    obtain ⟨k, rfl⟩ : ∃ m, k = m + 1 := ⟨k - 1, by omega⟩
    obtain ⟨g1, g2, g3⟩ := hg _ (rdT_mem l p (by omega))
    rw [laws_szTableS.l0, if_pos (by omega), if_pos (by omega)]
    refine (szTable_gives _ _ _ _ _ g1 g2 g3 h0 h1 (by omega)).bind fun v hv => ?_
    refine Gives.ite (fun _ => Gives.ret (by omega)) (fun hv0 => ?_)
    rw [w_succ (by omega)]
    refine (ih k (p + 1) v (by omega) (by omega) (by omega) hv.1).mono fun u hu => ⟨hu.1, ?_⟩
    rcases hu.2 with h | h
    · exact Or.inl h
    · refine Or.inr (fun j h2 h3 => ?_)
      by_cases e : j = p
      · subst e
        rcases hv.2 with z | z
        · omega
        · exact z
      · exact h j (by omega) h3
def NumsFrom (l : List Int) (p : Nat) : Prop := ∀ j : Nat, p ≤ j → j < l.length → 0 ≤ rd l j ∧ rd l j ≤ 4294967295
theorem nums_step {l : List Int} {p : Nat} (hp : p < l.length) : NumsFrom l p ↔ (0 ≤ rd l p ∧ rd l p ≤ 4294967295) ∧ NumsFrom l (p + 1) := by
  constructor
  · exact fun h => ⟨h p (Nat.le_refl p) hp, fun j h1 h2 => h j (by omega) h2⟩
  · rintro ⟨h0, h⟩ j h1 h2
    by_cases e : j = p
    · rw [e]; exact h0
    · exact h j (by omega) h2
def TabI (x : S54) : Prop := TabOk x.f0 x.f1 x.f2 x.f3 x.f4
def TabsFrom (l : List S54) (p : Nat) : Prop := ∀ j : Nat, p ≤ j → j < l.length → TabI (rd_T54 l j)
theorem tabs_step {l : List S54} {p : Nat} (hp : p < l.length) : TabsFrom l p ↔ TabI (rd_T54 l p) ∧ TabsFrom l (p + 1) := by
  constructor
  · exact fun h => ⟨h p (Nat.le_refl p) hp, fun j h1 h2 => h j (by omega) h2⟩
  · rintro ⟨h0, h⟩ j h1 h2
    by_cases e : j = p
    · rw [e]; exact h0
    · exact h j (by omega) h2
theorem numsAt_from (l : List Int) (hl : l.length ≤ 2000000) (d : Nat) : ∀ (k p : Nat), p + d = l.length → d < k → Gives (numsAt.l0 k l (p : Int)) (fun t => t ≥ 0 ↔ ¬ NumsFrom l p) := by
  induction d with
  | zero =>
    intro k p hp hk
    obtain ⟨k, rfl⟩ : ∃ m, k = m + 1 := ⟨k - 1, by omega⟩
    rw [numsAt.l0, if_neg (by omega)]
    exact Gives.ret ⟨fun h => absurd h (by decide), fun h => absurd (fun j h1 h2 => absurd h1 (by omega)) h⟩
  | succ d ih =>
    intro k p hp hk
    obtain ⟨k, rfl⟩ : ∃ m, k = m + 1 := ⟨k - 1, by omega⟩
    rw [numsAt.l0, if_pos (by omega), if_pos (by omega)]
    unfold impl_numsOk_1.f
    rw [numOk_eq]
    simp only [Option.bind_some, Bool.not_eq_true', decide_eq_false_iff_not]
    refine Gives.ite (fun h => Gives.ret ?_) (fun h => ?_)
    · exact ⟨fun _ z => h (z p (Nat.le_refl p) (by omega)), fun _ => by omega⟩
    · rw [w_succ (by omega)]
      refine (ih k (p + 1) (by omega) (by omega)).mono fun t ht => ?_
      rw [ht, nums_step (p := p) (by omega)]
      have h : 0 ≤ rd l p ∧ rd l p ≤ 4294967295 := Decidable.not_not.1 h
      exact ⟨fun z q => z q.2, fun z q => z ⟨h, q⟩⟩
theorem implNums_gives (l : List Int) (hl : l.length ≤ 2000000) {k : Nat} (hk : l.length < k) : Gives (impl_numsOk.f k l) (fun b => b = true ↔ NumsFrom l 0) := by
  unfold impl_numsOk.f
  refine Gives.bind (numsAt_from l hl l.length k 0 (by omega) hk) fun t ht => Gives.ret ?_
  rw [Bool.not_eq_true', decide_eq_false_iff_not, ht, Classical.not_not]
theorem tabsAt_from (l : List S54) (hl : l.length ≤ 2000000) (d : Nat) : ∀ (k p : Nat), p + d = l.length → d + 50 < k → Gives (tabsAt.l0 k l (p : Int)) (fun t => t ≥ 0 ↔ ¬ TabsFrom l p) := by
  induction d with
  | zero =>
    intro k p hp hk
    obtain ⟨k, rfl⟩ : ∃ m, k = m + 1 := ⟨k - 1, by omega⟩
    rw [tabsAt.l0, if_neg (by omega)]
    exact Gives.ret ⟨fun h => absurd h (by decide), fun h => absurd (fun j h1 h2 => absurd h1 (by omega)) h⟩
  | succ d ih =>
    intro k p hp hk
    obtain ⟨k, rfl⟩ : ∃ m, k = m + 1 := ⟨k - 1, by omega⟩
    rw [tabsAt.l0, if_pos (by omega), if_pos (by omega)]
    unfold impl_tablesOk_1.f
    obtain ⟨b, e, hb⟩ := implTab_gives (rd_T54 l p).f0 (rd_T54 l p).f1 (rd_T54 l p).f2 (rd_T54 l p).f3 (rd_T54 l p).f4 (k := k) (by omega)
    rw [e]
    simp only [Option.bind_some, Bool.not_eq_true']
    refine Gives.ite (fun h => Gives.ret ?_) (fun h => ?_)
    · exact ⟨fun _ z => (by have := hb.2 (z p (Nat.le_refl p) (by omega)); rw [h] at this; cases this), fun _ => by omega⟩
    · rw [w_succ (by omega)]
      refine (ih k (p + 1) (by omega) (by omega)).mono fun t ht => ?_
      rw [ht, tabs_step (p := p) (by omega)]
      have h : TabI (rd_T54 l p) := hb.1 (by cases b <;> simp_all)
      exact ⟨fun z q => z q.2, fun z q => z ⟨h, q⟩⟩
theorem implTabs_gives (l : List S54) (hl : l.length ≤ 2000000) {k : Nat} (hk : l.length + 50 < k) : Gives (impl_tablesOk.f k l) (fun b => b = true ↔ (l.length : Int) ≤ 3 ∧ TabsFrom l 0) := by
  unfold impl_tablesOk.f
  refine Gives.ite (fun c => ?_) (fun c => Gives.ret ⟨fun h => (by cases h), fun h => absurd h.1 c⟩)
  refine Gives.bind (tabsAt_from l hl l.length k 0 (by omega) hk) fun t ht => Gives.ret ?_
  rw [Bool.not_eq_true', decide_eq_false_iff_not, ht, Classical.not_not]
  exact ⟨fun h => ⟨c, h⟩, fun h => h.2⟩
theorem form_zero {l : List S57} {r : Int} (h : FormOf l 0 r) : r = 0 ↔ allAt l 0 ∧ tailI l = 0 := by
  by_cases a : allAt l 0
  · have e := h.1 a
    exact ⟨fun z => ⟨a, by rw [← e]; exact z⟩, fun z => by rw [e]; exact z.2⟩
  · have e := h.2 a
    exact ⟨fun z => by rcases e with e | e <;> omega, fun z => absurd z.1 a⟩
/-- What is asked of a start but for its tables and numbers. -/
def RestS (P : List S57) (c : ByteArray) (T : List S54) (R U : List Int) : Prop := (allAt P 0 ∧ tailI P = 0) ∧ (c.size : Int) = 12 ∧ (T.length : Int) ≤ 3 ∧ (1 ≤ (R.length : Int) ∧ (R.length : Int) ≤ 4) ∧ (U.length : Int) ≤ 4
/-- A start that is ok. -/
def StartI (P : List S57) (c : ByteArray) (T : List S54) (R U : List Int) : Prop := TabsFrom T 0 ∧ NumsFrom R 0 ∧ NumsFrom U 0 ∧ RestS P c T R U
theorem implStart_gives (P : List S57) (c : ByteArray) (T : List S54) (R U : List Int) (hP : P.length ≤ 2000000) (hT : T.length ≤ 2000000) (hR : R.length ≤ 2000000) (hU : U.length ≤ 2000000) {k : Nat} (hk : 4000100 < k) : Gives (impl_StartOk.f k P c T R U) (fun b => b = true ↔ StartI P c T R U) := by
  unfold impl_StartOk.f
  have no : ¬ StartI P c T R U → Gives (some false) (fun b => b = true ↔ StartI P c T R U) := fun h => Gives.ret ⟨fun e => (by cases e), fun e => absurd e h⟩
  obtain ⟨r, e1, _, e3⟩ := form_both P hP P.length k k 0 (by omega) (by omega) (by omega)
  have e1 : impl_ProgForm.f k P = some r := e1
  have hz := form_zero e3
  rw [e1]
  simp only [Option.bind_some]
  refine Gives.ite (fun h1 => ?_) (fun h1 => no (fun z => h1 (hz.2 z.2.2.2.1)))
  refine Gives.ite (fun h2 => ?_) (fun h2 => no (fun z => h2 z.2.2.2.2.1))
  refine (implTabs_gives T hT (by omega)).bind fun b hb => ?_
  refine Gives.ite (fun h3 => ?_) (fun h3 => no (fun z => h3 (hb.2 ⟨z.2.2.2.2.2.1, z.1⟩)))
  rw [within_eq]
  simp only [Option.bind_some, decide_eq_true_eq]
  refine Gives.ite (fun h4 => ?_) (fun h4 => no (fun z => h4 z.2.2.2.2.2.2.1))
  refine Gives.ite (fun h5 => ?_) (fun h5 => no (fun z => h5 z.2.2.2.2.2.2.2))
  refine (implNums_gives R hR (by omega)).bind fun u hu => ?_
  refine Gives.ite (fun h6 => ?_) (fun h6 => no (fun z => h6 (hu.2 z.2.1)))
  refine (implNums_gives U hU (by omega)).bind fun v hv => Gives.ret ?_
  rw [hv]
  exact ⟨fun h => ⟨(hb.1 h3).2, hu.1 h6, h, hz.1 h1, h2, (hb.1 h3).1, h4, h5⟩, fun z => z.2.2.1⟩
theorem spec2_from (P : List S57) (c : ByteArray) (T : List S54) (R U : List Int) (hP : P.length ≤ 2000000) (hU : U.length ≤ 2000000) (d : Nat) : ∀ (k p : Nat), p + d = U.length → d + 4000010 < k → Gives (spec_l4StartOk.l2 k (p : Int) P c T R U) (fun b => b = true ↔ NumsFrom U p ∧ RestS P c T R U) := by
  induction d with
  | zero =>
    intro k p hp hk
    obtain ⟨k, rfl⟩ : ∃ m, k = m + 1 := ⟨k - 1, by omega⟩
    obtain ⟨r, _, e2, e3⟩ := form_both P hP P.length k k 0 (by omega) (by omega) (by omega)
    have e2 : spec_l1Form.f k P = some r := e2
    have hz := form_zero e3
    have hN : NumsFrom U p := fun j h1 h2 => absurd h1 (by omega)
    have no : ¬ RestS P c T R U → Gives (some false) (fun b => b = true ↔ NumsFrom U p ∧ RestS P c T R U) := fun h => Gives.ret ⟨fun e => (by cases e), fun e => absurd e.2 h⟩
    rw [spec_l4StartOk.l2, if_neg (by omega), e2]
    simp only [Option.bind_some, l1In_eq, decide_eq_true_eq]
    refine Gives.ite (fun h1 => ?_) (fun h1 => no (fun z => h1 (hz.2 z.1)))
    refine Gives.ite (fun h2 => ?_) (fun h2 => no (fun z => h2 z.2.1))
    refine Gives.ite (fun h3 => ?_) (fun h3 => no (fun z => h3 z.2.2.1))
    refine Gives.ite (fun h4 => ?_) (fun h4 => no (fun z => h4 z.2.2.2.1))
    refine Gives.ret ?_
    rw [decide_eq_true_eq]
    exact ⟨fun h => ⟨hN, hz.1 h1, h2, h3, h4, h⟩, fun z => z.2.2.2.2.2⟩
  | succ d ih =>
    intro k p hp hk
    obtain ⟨k, rfl⟩ : ∃ m, k = m + 1 := ⟨k - 1, by omega⟩
    rw [spec_l4StartOk.l2, if_pos (by omega), if_pos (by omega), l1In_eq]
    simp only [Option.bind_some, decide_eq_true_eq]
    refine Gives.ite (fun h => ?_) (fun h => Gives.ret ⟨fun e => (by cases e), fun e => absurd (e.1 p (Nat.le_refl p) (by omega)) h⟩)
    rw [w_succ (by omega)]
    refine (ih k (p + 1) (by omega) (by omega)).mono fun b hb => ?_
    rw [hb, nums_step (p := p) (by omega)]
    exact ⟨fun z => ⟨⟨h, z.1⟩, z.2⟩, fun z => ⟨z.1.2, z.2⟩⟩
theorem spec1_from (P : List S57) (c : ByteArray) (T : List S54) (R U : List Int) (hP : P.length ≤ 2000000) (hR : R.length ≤ 2000000) (hU : U.length ≤ 2000000) (d : Nat) : ∀ (k p : Nat), p + d = R.length → d + 6000020 < k → Gives (spec_l4StartOk.l1 k (p : Int) P c T R U) (fun b => b = true ↔ NumsFrom R p ∧ NumsFrom U 0 ∧ RestS P c T R U) := by
  induction d with
  | zero =>
    intro k p hp hk
    obtain ⟨k, rfl⟩ : ∃ m, k = m + 1 := ⟨k - 1, by omega⟩
    rw [spec_l4StartOk.l1, if_neg (by omega)]
    refine (spec2_from P c T R U hP hU U.length k 0 (by omega) (by omega)).mono fun b hb => ?_
    rw [hb]
    exact ⟨fun z => ⟨fun j h1 h2 => absurd h1 (by omega), z⟩, fun z => z.2⟩
  | succ d ih =>
    intro k p hp hk
    obtain ⟨k, rfl⟩ : ∃ m, k = m + 1 := ⟨k - 1, by omega⟩
    rw [spec_l4StartOk.l1, if_pos (by omega), if_pos (by omega), l1In_eq]
    simp only [Option.bind_some, decide_eq_true_eq]
    refine Gives.ite (fun h => ?_) (fun h => Gives.ret ⟨fun e => (by cases e), fun e => absurd (e.1 p (Nat.le_refl p) (by omega)) h⟩)
    rw [w_succ (by omega)]
    refine (ih k (p + 1) (by omega) (by omega)).mono fun b hb => ?_
    rw [hb, nums_step (p := p) (by omega)]
    exact ⟨fun z => ⟨⟨h, z.1⟩, z.2⟩, fun z => ⟨z.1.2, z.2⟩⟩
theorem spec0_from (P : List S57) (c : ByteArray) (T : List S54) (R U : List Int) (hP : P.length ≤ 2000000) (hT : T.length ≤ 2000000) (hR : R.length ≤ 2000000) (hU : U.length ≤ 2000000) (d : Nat) : ∀ (k p : Nat), p + d = T.length → d + 8000200 < k → Gives (spec_l4StartOk.l0 k (p : Int) P c T R U) (fun b => b = true ↔ TabsFrom T p ∧ NumsFrom R 0 ∧ NumsFrom U 0 ∧ RestS P c T R U) := by
  induction d with
  | zero =>
    intro k p hp hk
    obtain ⟨k, rfl⟩ : ∃ m, k = m + 1 := ⟨k - 1, by omega⟩
    rw [spec_l4StartOk.l0, if_neg (by omega)]
    refine (spec1_from P c T R U hP hR hU R.length k 0 (by omega) (by omega)).mono fun b hb => ?_
    rw [hb]
    exact ⟨fun z => ⟨fun j h1 h2 => absurd h1 (by omega), z⟩, fun z => z.2⟩
  | succ d ih =>
    intro k p hp hk
    obtain ⟨k, rfl⟩ : ∃ m, k = m + 1 := ⟨k - 1, by omega⟩
    rw [spec_l4StartOk.l0, if_pos (by omega), if_pos (by omega)]
    refine (specTab_gives (rd_T54 T p).f0 (rd_T54 T p).f1 (rd_T54 T p).f2 (rd_T54 T p).f3 (rd_T54 T p).f4 (by omega)).bind fun t ht => ?_
    refine Gives.ite (fun h => ?_) (fun h => Gives.ret ⟨fun e => (by cases e), fun e => absurd (ht.2 (e.1 p (Nat.le_refl p) (by omega))) h⟩)
    rw [w_succ (by omega)]
    refine (ih k (p + 1) (by omega) (by omega)).mono fun b hb => ?_
    rw [hb, tabs_step (p := p) (by omega)]
    exact ⟨fun z => ⟨⟨ht.1 h, z.1⟩, z.2⟩, fun z => ⟨z.1.2, z.2⟩⟩
theorem szInt_gives (l : List Int) (hl : l.length ≤ maxLen) {b : Int} (h0 : 0 ≤ b) (h1 : b ≤ 1048576) : Gives (laws_szIntS.f l b) (fun v => v ≤ 1048576 ∧ (v < 0 ∨ (0 ≤ v ∧ l.length ≤ 1048576))) := by
  have hl : l.length ≤ 9223372036854775807 := hl
  unfold laws_szIntS.f
  rw [wrap64_id (n := b - (l.length : Int)) (by omega) (by omega)]
  exact Gives.ite (fun _ => Gives.ret (by omega)) (fun h => Gives.ret (by omega))

theorem szStart_gives (P : List S59) (c : ByteArray) (T : List S52) (R U : List Int) (hP : P.length ≤ maxLen) (hc : c.size ≤ maxLen) (hT : T.length ≤ maxLen) (hg : ∀ x ∈ T, GoodT x) (hR : R.length ≤ maxLen) (hU : U.length ≤ maxLen) {k : Nat} (hk : 3000000 < k) :
    Gives (laws_szStart.f k P c T R U 1048576) (fun v => v < 0 ∨ (P.length ≤ 1048576 ∧ T.length ≤ 1048576 ∧ (∀ j : Nat, j < T.length → SmallT (rd_T52 T j).f3 (rd_T52 T j).f4) ∧ R.length ≤ 1048576 ∧ U.length ≤ 1048576)) := by
  have hc : c.size ≤ 9223372036854775807 := hc
  have hT : T.length ≤ 9223372036854775807 := hT
  have neg : Gives (some (-1 : Int)) (fun v => v < 0 ∨ (P.length ≤ 1048576 ∧ T.length ≤ 1048576 ∧ (∀ j : Nat, j < T.length → SmallT (rd_T52 T j).f3 (rd_T52 T j).f4) ∧ R.length ≤ 1048576 ∧ U.length ≤ 1048576)) := Gives.ret (Or.inl (by decide))
  unfold laws_szStart.f
  refine (szInsS_gives P hP (b := 1048576) (by decide) (by decide)).bind fun v hv => ?_
  refine Gives.ite (fun _ => neg) (fun h1 => ?_)
  rw [wrap64_id (n := v - (c.size : Int)) (by omega) (by omega)]
  refine Gives.ite (fun _ => neg) (fun h2 => ?_)
  unfold laws_szTableS.f
  rw [wrap64_id (n := v - (c.size : Int) - (T.length : Int)) (by omega) (by omega)]
  refine Gives.bind (P := fun u => u ≤ 1048576 ∧ (u < 0 ∨ (T.length ≤ 1048576 ∧ ∀ j : Nat, j < T.length → SmallT (rd_T52 T j).f3 (rd_T52 T j).f4))) (Gives.ite (fun _ => Gives.ret (by omega)) (fun h' => ?_)) fun u hu => ?_
  · refine (szTab_loop T (by omega) hg T.length k 0 _ (by omega) (by omega) (by omega) (by omega)).mono fun w hw => ⟨hw.1, ?_⟩
    rcases hw.2 with z | z
    · exact Or.inl z
    · exact Or.inr ⟨by omega, fun j hj => z j (Nat.zero_le j) hj⟩
  refine Gives.ite (fun _ => neg) (fun h3 => ?_)
  refine (szInt_gives R hR (by omega) hu.1).bind fun w hw => ?_
  refine Gives.ite (fun _ => neg) (fun h4 => ?_)
  refine (szInt_gives U hU (by omega) hw.1).bind fun x hx => ?_
  refine Gives.ite (fun _ => neg) (fun h5 => Gives.ret (Or.inr ?_))
  have hu2 : T.length ≤ 1048576 ∧ ∀ j : Nat, j < T.length → SmallT (rd_T52 T j).f3 (rd_T52 T j).f4 := hu.2.resolve_left h3
  exact ⟨by omega, hu2.1, hu2.2, by omega, by omega⟩
theorem FnExactStartOk : laws_FnExactStartOk.Pure := by
  intro P c T R U hP hc hT hR hU
  obtain ⟨k, hk⟩ : ∃ k : Nat, k = 20000000 := ⟨_, rfl⟩
  refine ⟨k, ?_⟩
  unfold laws_FnExactStartOk.f
  obtain ⟨v, hv, hs⟩ := szStart_gives P c T R U hP.2 hc hT.2 (fun x hx => ⟨(hT.1 x hx).2.2.2.1.2, (hT.1 x hx).2.2.2.2.2, (hT.1 x hx).2.2.2.2.1⟩) hR.2 hU.2 (k := k) (by omega)
  rw [hv]
  simp only [Option.bind_some]
  by_cases c0 : v < 0
  · rw [if_pos c0]
  rw [if_neg c0]
  obtain ⟨s1, s2, s3, s4, s5⟩ := hs.resolve_left c0
  have lP : (P.map insOf).length ≤ 1048576 := by rw [List.length_map]; exact s1
  have lT : (T.map tabOf).length ≤ 1048576 := by rw [List.length_map]; exact s2
  have sT : ∀ j : Nat, j < (T.map tabOf).length → SmallT (rd_T54 (T.map tabOf) j).f3 (rd_T54 (T.map tabOf) j).f4 := by
    intro j hj
    rw [List.length_map] at hj
    rw [rdT_map T j hj]
    exact s3 j hj
  have eS : laws_toStart.f k P c T R U = some (P.map insOf, c, T.map tabOf, R, U) := by
    unfold laws_toStart.f
    rw [toInsS_eq P (by omega) (by omega), toTableS_eq T (by omega) s3 (by omega), toInts_eq R (by omega) (by omega), toInts_eq U (by omega) (by omega)]
    rfl
  obtain ⟨a, ha, ga⟩ := implStart_gives (P.map insOf) c (T.map tabOf) R U (by omega) (by omega) (by omega) (by omega) (k := k) (by omega)
  obtain ⟨b, hb, gb⟩ := spec0_from (P.map insOf) c (T.map tabOf) R U (by omega) (by omega) (by omega) (by omega) (T.map tabOf).length k 0 (by omega) (by omega)
  have hb : spec_l4StartOk.f k (P.map insOf) c (T.map tabOf) R U = some b := hb
  have e : a = b := by rw [Bool.eq_iff_iff, ga, gb]; rfl
  have q1 := eqInsS_eq (P.map insOf) (by omega) (k := k) (by omega)
  have q2 := eqTableS_eq (T.map tabOf) (by omega) sT (k := k) (by omega)
  have q3 : laws_eqIntS.f k R R = some true := by
    unfold laws_eqIntS.f
    rw [if_pos rfl]
    exact eqInt_loop R (by omega) R.length k 0 (by omega) (by omega)
  have q4 : laws_eqIntS.f k U U = some true := by
    unfold laws_eqIntS.f
    rw [if_pos rfl]
    exact eqInt_loop U (by omega) U.length k 0 (by omega) (by omega)
  rw [eS]
  simp only [Option.bind_some, spec_StartOk.f, ha, hb, e, bne_self_eq_false, Bool.false_eq_true, if_false, laws_eqStart.f, q1, q2, q3, q4, if_true]

end Go.Proofs.Ytjalmkoeekbfbaa.Pure
