/- Plain facts about numbers bit by bit, about ranges of numbers of which bits are known, and about Go's int operations on numbers that are not below 0. No condition. -/
import Derived.Laws.BitsLemmas
import Derived.Lib.BitFns
import Derived.Test.YtllmbooicobmkaaDoorV
namespace Rg
/-- A range: from, to, the bits that are known to be 1, those that are not known. -/
structure R where
  lo : Nat
  hi : Nat
  bt : Nat
  op : Nat
deriving DecidableEq
def R.ok (r : R) : Prop := r.lo ≤ r.hi ∧ r.hi < 2 ^ 32 ∧ r.bt < 2 ^ 32 ∧ r.op < 2 ^ 32 ∧ r.bt &&& r.op = 0
instance (r : R) : Decidable r.ok := by unfold R.ok; exact inferInstance
/-- A range of one number. -/
def R.one (n : Nat) : R := ⟨n, n, n, 0⟩
end Rg
namespace Rg
open Go Go.RowKit Go.Proofs.YtllmbooicobmkaaDoorW.PrintWords Go.Proofs.YtllmbooicobmkaaDoorW.PrintLast Go.Proofs.YtllmbooicobmkaaDoorW.PrintMore
theorem wrap64_id {n : Int} (h0 : -9223372036854775808 ≤ n) (h1 : n ≤ 9223372036854775807) : wrap64 n = n := by
  unfold wrap64; omega
end Rg
