/- Plain facts about numbers bit by bit, about ranges of numbers of which bits are known, and about Go's int operations on numbers that are not below 0. No condition. -/
import Derived.Laws.BitsLemmas
import Derived.Lib.BitFns
import Derived.Test.YtllmbooicobmkaaGreatDoorV
namespace Rg
/-- The bits of the first that the second has not. -/
def andn (a b : Nat) : Nat := a ^^^ (a &&& b)
theorem eq_of_bits {a b : Nat} (h : ∀ i, a.testBit i = b.testBit i) : a = b := Nat.eq_of_testBit_eq h
theorem high_false {m k j : Nat} (h : m < 2 ^ k) (hj : k ≤ j) : m.testBit j = false := Nat.testBit_lt_two_pow (Nat.lt_of_lt_of_le h (Nat.pow_le_pow_right (by decide) hj))
theorem upper_bits {n m k : Nat} : n / 2 ^ k = m / 2 ^ k ↔ ∀ j, k ≤ j → n.testBit j = m.testBit j := by
  constructor
  · intro h j hj
    have := congrArg (fun x => Nat.testBit x (j - k)) h
    simp only [Nat.testBit_div_two_pow, Nat.sub_add_cancel hj] at this
    exact this
  · intro h
    apply eq_of_bits
    intro i
    rw [Nat.testBit_div_two_pow, Nat.testBit_div_two_pow]
    exact h _ (by omega)
/-- How many bits a number has. -/
def blen : Nat → Nat
  | 0 => 0
  | n + 1 => blen ((n + 1) / 2) + 1
decreasing_by omega
theorem lt_blen (n : Nat) : n < 2 ^ blen n := by
  induction n using Nat.strongRecOn with
  | _ n ih =>
    cases n with
    | zero => simp [blen]
    | succ n =>
      rw [blen, Nat.pow_succ]
      have := ih ((n + 1) / 2) (by omega)
      omega
/-- A range: from, to, the bits that are known to be 1, those that are not known. -/
structure R where
  lo : Nat
  hi : Nat
  bt : Nat
  op : Nat
deriving DecidableEq
def R.ok (r : R) : Prop := r.lo ≤ r.hi ∧ r.hi < 2 ^ 32 ∧ r.bt < 2 ^ 32 ∧ r.op < 2 ^ 32 ∧ r.bt &&& r.op = 0
def R.has (r : R) (n : Nat) : Prop := r.lo ≤ n ∧ n ≤ r.hi ∧ andn n r.op = r.bt
instance (r : R) : Decidable r.ok := by unfold R.ok; exact inferInstance
instance (r : R) (n : Nat) : Decidable (r.has n) := by unfold R.has; exact inferInstance
/-- Where both ends are alike all that lies between is alike. -/
theorem between {lo hi n j : Nat} (h1 : lo ≤ n) (h2 : n ≤ hi) (hj : blen (lo ^^^ hi) ≤ j) : n.testBit j = lo.testBit j := by
  have e : hi / 2 ^ blen (lo ^^^ hi) = lo / 2 ^ blen (lo ^^^ hi) := by
    rw [upper_bits]
    intro i hi'
    have := high_false (lt_blen (lo ^^^ hi)) hi'
    rw [Nat.testBit_xor] at this
    revert this
    cases lo.testBit i <;> cases hi.testBit i <;> simp
  have a1 := Nat.div_le_div_right (c := 2 ^ blen (lo ^^^ hi)) h1
  have a2 := Nat.div_le_div_right (c := 2 ^ blen (lo ^^^ hi)) h2
  exact upper_bits.1 (by omega) j hj
/-- A range of one number. -/
def R.one (n : Nat) : R := ⟨n, n, n, 0⟩
end Rg
namespace Rg
open Go Go.RowKit Go.Proofs.YtllmbooicobmkaaGreatDoorW.PrintWords Go.Proofs.YtllmbooicobmkaaGreatDoorW.PrintLast Go.Proofs.YtllmbooicobmkaaGreatDoorW.PrintMore
theorem wrap_id {n : Int} (h0 : -9223372036854775808 ≤ n) (h1 : n ≤ 9223372036854775807) : IntKind.i64.wrap n = n := by
  rw [IntKind.wrap_i64]; omega
theorem wrap64_id {n : Int} (h0 : -9223372036854775808 ≤ n) (h1 : n ≤ 9223372036854775807) : wrap64 n = n := by
  unfold wrap64; omega
theorem toNat_of {a : Nat} (h : a < 2 ^ 63) : (BitVec.ofInt 64 (a : Int)).toNat = a := by
  rw [BitVec.ofInt_natCast, BitVec.toNat_ofNat]
  exact Nat.mod_eq_of_lt (by omega)
theorem wrap_nat {a : Nat} (h : a < 2 ^ 63) : IntKind.i64.wrap (a : Int) = a := wrap_id (by omega) (by omega)
theorem bxor {a b : Nat} (ha : a < 2 ^ 63) (hb : b < 2 ^ 63) : Go.bits .xor .i64 a b = ((a ^^^ b : Nat) : Int) := by
  show IntKind.i64.wrap ((BitVec.ofInt 64 (a : Int) ^^^ BitVec.ofInt 64 (b : Int)).toNat : Int) = _
  rw [BitVec.toNat_xor, toNat_of ha, toNat_of hb]
  exact wrap_nat (Nat.xor_lt_two_pow ha hb)
theorem w_succ {i : Nat} (h : i < 4611686018427387904) : wrap64 ((i : Int) + 1) = ((i + 1 : Nat) : Int) := by rw [wrap64_id (by omega) (by omega)]; omega
/-- Each part is a number of 32 bits. -/
def R32 (r : R) : Prop := r.lo < 2 ^ 32 ∧ r.hi < 2 ^ 32 ∧ r.bt < 2 ^ 32 ∧ r.op < 2 ^ 32
theorem R32.xor {r : R} (h : R32 r) : r.lo ^^^ r.hi < 2 ^ 32 := Nat.xor_lt_two_pow h.1 h.2.1
theorem wrap64_nat {a : Nat} (h : a < 2 ^ 63) : wrap64 (a : Int) = a := wrap64_id (by omega) (by omega)
/-- Something comes back, and of it this holds. -/
def Gives {α : Type} (o : Option α) (P : α → Prop) : Prop := ∃ a, o = some a ∧ P a
theorem Gives.ret {α : Type} {a : α} {P : α → Prop} (h : P a) : Gives (some a) P := ⟨a, rfl, h⟩
theorem Gives.bind {α β : Type} {o : Option α} {f : α → Option β} {P : α → Prop} {Q : β → Prop} (h : Gives o P) (k : ∀ a, P a → Gives (f a) Q) : Gives (o.bind f) Q := by
  obtain ⟨a, rfl, ha⟩ := h
  exact k a ha
theorem Gives.ite {α : Type} {c : Prop} [Decidable c] {a b : Option α} {P : α → Prop} (h : c → Gives a P) (k : ¬ c → Gives b P) : Gives (if c then a else b) P := by
  by_cases hc : c
  · rw [if_pos hc]; exact h hc
  · rw [if_neg hc]; exact k hc
theorem Gives.mono {α : Type} {o : Option α} {P Q : α → Prop} (h : Gives o P) (k : ∀ a, P a → Q a) : Gives o Q := by
  obtain ⟨a, e, ha⟩ := h
  exact ⟨a, e, k a ha⟩
/-- Bytes of a code: not too many. -/
def Bytes (l : List Int) : Prop := l.length ≤ 2000 ∧ ∀ x ∈ l, 0 ≤ x ∧ x ≤ 255
/-- A number of 32 bits. -/
def N32 (x : Int) : Prop := 0 ≤ x ∧ x ≤ 4294967295
theorem rd_mem {l : List Int} {i : Int} (h0 : 0 ≤ i) (h1 : i < (l.length : Int)) : rd l i ∈ l := by
  unfold rd
  have h : i.toNat < l.length := by omega
  rw [List.getD_eq_getElem?_getD, List.getElem?_eq_getElem h]
  exact List.getElem_mem h
theorem u8_wf {x : Int} (h : (Lit.int .u8 x).wf = true) : 0 ≤ x ∧ x ≤ 255 := by
  simp [Lit.wf, IntKind.min, IntKind.max, IntKind.bits, IntKind.signed] at h
  omega
theorem tmod_range {x n : Int} (hx : 0 ≤ x) (hn : 1 ≤ n) : 0 ≤ Int.tmod x n ∧ Int.tmod x n < n := ⟨Int.tmod_nonneg _ hx, Int.tmod_lt_of_pos _ (by omega)⟩
theorem mix {v1 v2 p d : Int} (h1 : 0 ≤ v1 ∧ v1 ≤ 255) (h2 : 0 ≤ v2 ∧ v2 ≤ 255) (h3 : 0 ≤ p ∧ p ≤ 100000) (h4 : 0 ≤ d ∧ d ≤ 100000) :
    0 ≤ wrap64 (wrap64 (wrap64 (wrap64 (wrap64 v1 * 131) + wrap64 (wrap64 v2 * 1117)) + wrap64 (p * 29)) + wrap64 (wrap64 d * 53)) ∧ wrap64 (wrap64 (wrap64 (wrap64 (wrap64 v1 * 131) + wrap64 (wrap64 v2 * 1117)) + wrap64 (p * 29)) + wrap64 (wrap64 d * 53)) ≤ 1000000000 := by
  rw [wrap64_id (n := v1) (by omega) (by omega), wrap64_id (n := v2) (by omega) (by omega), wrap64_id (n := d) (by omega) (by omega), wrap64_id (n := v1 * 131) (by omega) (by omega), wrap64_id (n := v2 * 1117) (by omega) (by omega), wrap64_id (n := p * 29) (by omega) (by omega), wrap64_id (n := d * 53) (by omega) (by omega), wrap64_id (n := v1 * 131 + v2 * 1117) (by omega) (by omega), wrap64_id (n := v1 * 131 + v2 * 1117 + p * 29) (by omega) (by omega), wrap64_id (by omega) (by omega)]
  omega
theorem xor_pos {A : Int} (h0 : 0 ≤ A) (h1 : A ≤ 1000000000) : 0 ≤ Go.bits .xor .i64 A (wrap64 (Int.tdiv A 64)) := by
  obtain ⟨a, rfl⟩ := Int.eq_ofNat_of_zero_le h0
  rw [show Int.tdiv (a : Int) 64 = ((a / 64 : Nat) : Int) from rfl, wrap64_nat (by omega), bxor (by omega) (by omega)]
  omega
end Rg
