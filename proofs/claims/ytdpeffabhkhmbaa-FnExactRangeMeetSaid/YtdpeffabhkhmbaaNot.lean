/- How the complement of an int reads in a walk. No condition. -/
import Derived.Laws.Entries
namespace Go.Proofs.YtdpeffabhkhmbaaN
theorem not_i64 : (if Go.IntKind.i64.signed = true then (-1 : Int) else 9223372036854775807) = -1 := rfl
end Go.Proofs.YtdpeffabhkhmbaaN
