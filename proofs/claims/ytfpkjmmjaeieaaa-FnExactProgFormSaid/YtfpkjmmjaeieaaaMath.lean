/- Plain facts about numbers bit by bit, about ranges of numbers of which bits are known, and about Go's int operations on numbers that are not below 0. No condition. -/
import Derived.Laws.BitsLemmas
import Derived.Lib.BitFns
import Derived.Test.YtfpkjmmjaeieaaaV
namespace Rg
/-- The bits of the first that the second has not. -/
def andn (a b : Nat) : Nat := a ^^^ (a &&& b)
/-- The first place of so many, from one on, of which it holds. -/
def firstFrom (p : Nat → Bool) : Nat → Nat → Option Nat
  | 0, _ => none
  | d + 1, i => if p i = true then some i else firstFrom p d (i + 1)
/-- At this place a number with the bits that are told may part from m upwards. -/
def cand (bt op m i : Nat) : Bool := !m.testBit i && (bt ||| op).testBit i && decide (andn (m / 2 ^ (i + 1) * 2 ^ (i + 1)) op = bt / 2 ^ (i + 1) * 2 ^ (i + 1))
/-- The least one that does. -/
def val (bt m i : Nat) : Nat := m / 2 ^ (i + 1) * 2 ^ (i + 1) ||| 2 ^ i ||| bt % 2 ^ i
/-- The least number above m with the bits that are told. -/
def above (bt op m : Nat) : Option Nat := (firstFrom (cand bt op m) 32 0).map (val bt m)
/-- The least number from m on with the bits that are told. -/
def nxt (bt op m : Nat) : Option Nat := if andn m op = bt then some m else above bt op m
/-- A range: from, to, the bits that are known to be 1, those that are not known. -/
structure R where
  lo : Nat
  hi : Nat
  bt : Nat
  op : Nat
deriving DecidableEq
def R.ok (r : R) : Prop := r.lo ≤ r.hi ∧ r.hi < 2 ^ 32 ∧ r.bt < 2 ^ 32 ∧ r.op < 2 ^ 32 ∧ r.bt &&& r.op = 0
def R.has (r : R) (n : Nat) : Prop := r.lo ≤ n ∧ n ≤ r.hi ∧ andn n r.op = r.bt
instance (r : R) : Decidable r.ok := by unfold R.ok; exact inferInstance
instance (r : R) (n : Nat) : Decidable (r.has n) := by unfold R.has; exact inferInstance
/-- The least number of a range. -/
def R.least (r : R) : Option Nat := match nxt r.bt r.op r.lo with
  | some y => if y ≤ r.hi then some y else none
  | none => none
/-- A range of one number. -/
def R.one (n : Nat) : R := ⟨n, n, n, 0⟩
end Rg
namespace Rg
open Go Go.RowKit Go.Proofs.YtfpkjmmjaeieaaaW.PrintWords Go.Proofs.YtfpkjmmjaeieaaaW.PrintLast Go.Proofs.YtfpkjmmjaeieaaaW.PrintMore
theorem wrap64_id {n : Int} (h0 : -9223372036854775808 ≤ n) (h1 : n ≤ 9223372036854775807) : wrap64 n = n := by
  unfold wrap64; omega
theorem w_succ {i : Nat} (h : i < 4611686018427387904) : wrap64 ((i : Int) + 1) = ((i + 1 : Nat) : Int) := by rw [wrap64_id (by omega) (by omega)]; omega
/-- Something comes back, and of it this holds. -/
def Gives {α : Type} (o : Option α) (P : α → Prop) : Prop := ∃ a, o = some a ∧ P a
theorem Gives.ret {α : Type} {a : α} {P : α → Prop} (h : P a) : Gives (some a) P := ⟨a, rfl, h⟩
theorem Gives.bind {α β : Type} {o : Option α} {f : α → Option β} {P : α → Prop} {Q : β → Prop} (h : Gives o P) (k : ∀ a, P a → Gives (f a) Q) : Gives (o.bind f) Q := by
  obtain ⟨a, rfl, ha⟩ := h
  exact k a ha
theorem Gives.ite {α : Type} {c : Prop} [Decidable c] {a b : Option α} {P : α → Prop} (h : c → Gives a P) (k : ¬ c → Gives b P) : Gives (if c then a else b) P := by
  by_cases hc : c
  · rw [if_pos hc]; exact h hc
  · rw [if_neg hc]; exact k hc
theorem Gives.mono {α : Type} {o : Option α} {P Q : α → Prop} (h : Gives o P) (k : ∀ a, P a → Q a) : Gives o Q := by
  obtain ⟨a, e, ha⟩ := h
  exact ⟨a, e, k a ha⟩
end Rg
