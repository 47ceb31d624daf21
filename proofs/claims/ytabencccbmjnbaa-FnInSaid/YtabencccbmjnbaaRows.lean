/-
  No cell of these rows narrows 'for every input' (looked for: loops, veiled, ifaces, maps, wideKeys, modest, calm, conditions, laid).
  DERIVED. THE GIVEN ROWS OF THIS SEAT. 12 by the template 'for every input the law returns true; each argument reads behind the call as it read before'; 0 by the template 'total and deterministic' (their statements: YtabencccbmjnbaaTotals.lean).
  GIVEN WITH THE SEED: the statements are not yours to turn. If you find one false, say at which input.
  Laid BY PROGRAM, IN A SANDBOX (cutbox-rows.mjs): the forced cells as the released guide's own fill.sh prints them over the translation f002bdd51fc47e11… (all of the seat's roots in one cut). By AI agents, Wed Nov 11 2026. No macro, syntax, notation, axiom, sorry.
-/
import Derived.Test.YtabencccbmjnbaaChecked
import GoSem.Claim
import GoSem.ClaimJoined
import GoSem.ClaimMapViews
import Derived.JoinedTies
import Derived.KernelRfl
namespace Go.Proofs.Ytabencccbmjnbaa
/- THE CELL 'sum', in the pinned program and in every row, IS THE sha256 OF THE DUMP (.gsa) THAT YtabencccbmjnbaaProg.lean LOADS. Nothing in Lean hashes anything: it is a label: what it is worth is what the hold of that sum in a sandbox is worth. -/
noncomputable def Try.pinned : Pinned := { name := "ytabencccbmjnbaa", sum := "f002bdd51fc47e11d0ea683253364962bd79bcea93aa659694ed0c2d6d49def3", checked := Try.checked }
namespace Rows
def none {H : Type} : Left H := { results := [], args := [] }

/-- 'laws.FnOf': WHATEVER THE INPUT: true; the input reads as it did. -/
def fnOfSpec : ChangeSpec := { name := "fnOf", fn := fun _ => fun
  | [d1, d2] => { results := [.lit (.bool true)], args := [d1, d2] }
  | _ => none }
def fnOfRow : OpenClaim := { program := "ytabencccbmjnbaa", sum := "f002bdd51fc47e11d0ea683253364962bd79bcea93aa659694ed0c2d6d49def3", func := "loop.example/steerage/laws.FnOf", spec := "fnOf", apart := false }
def FnOfSaid : Prop := fnOfRow.holds Try.pinned (OpenSpec.ofChange fnOfSpec)

/-- ITS FALSE NEIGHBOUR: 'it returns false'. Refute it at one input. -/
def fnOfWrong : ChangeSpec := { name := "fnOf", fn := fun _ => fun
  | [d1, d2] => { results := [.lit (.bool false)], args := [d1, d2] }
  | _ => none }
def FnOfWrongFalsely : Prop := fnOfRow.holds Try.pinned (OpenSpec.ofChange fnOfWrong)

/-- 'laws.FnHolds': WHATEVER THE INPUT: true; the input reads as it did. -/
def fnHoldsSpec : ChangeSpec := { name := "fnHolds", fn := fun _ => fun
  | [d] => { results := [.lit (.bool true)], args := [d] }
  | _ => none }
def fnHoldsRow : OpenClaim := { program := "ytabencccbmjnbaa", sum := "f002bdd51fc47e11d0ea683253364962bd79bcea93aa659694ed0c2d6d49def3", func := "loop.example/steerage/laws.FnHolds", spec := "fnHolds", apart := false }
def FnHoldsSaid : Prop := fnHoldsRow.holds Try.pinned (OpenSpec.ofChange fnHoldsSpec)

/-- ITS FALSE NEIGHBOUR: 'it returns false'. Refute it at one input. -/
def fnHoldsWrong : ChangeSpec := { name := "fnHolds", fn := fun _ => fun
  | [d] => { results := [.lit (.bool false)], args := [d] }
  | _ => none }
def FnHoldsWrongFalsely : Prop := fnHoldsRow.holds Try.pinned (OpenSpec.ofChange fnHoldsWrong)

/-- 'laws.FnDo': WHATEVER THE INPUT: true; the input reads as it did. -/
def fnDoSpec : ChangeSpec := { name := "fnDo", fn := fun _ => fun
  | [d] => { results := [.lit (.bool true)], args := [d] }
  | _ => none }
def fnDoRow : OpenClaim := { program := "ytabencccbmjnbaa", sum := "f002bdd51fc47e11d0ea683253364962bd79bcea93aa659694ed0c2d6d49def3", func := "loop.example/steerage/laws.FnDo", spec := "fnDo", apart := false }
def FnDoSaid : Prop := fnDoRow.holds Try.pinned (OpenSpec.ofChange fnDoSpec)

/-- ITS FALSE NEIGHBOUR: 'it returns false'. Refute it at one input. -/
def fnDoWrong : ChangeSpec := { name := "fnDo", fn := fun _ => fun
  | [d] => { results := [.lit (.bool false)], args := [d] }
  | _ => none }
def FnDoWrongFalsely : Prop := fnDoRow.holds Try.pinned (OpenSpec.ofChange fnDoWrong)

/-- 'laws.FnOne': WHATEVER THE INPUT: true; the input reads as it did. -/
def fnOneSpec : ChangeSpec := { name := "fnOne", fn := fun _ => fun
  | [d] => { results := [.lit (.bool true)], args := [d] }
  | _ => none }
def fnOneRow : OpenClaim := { program := "ytabencccbmjnbaa", sum := "f002bdd51fc47e11d0ea683253364962bd79bcea93aa659694ed0c2d6d49def3", func := "loop.example/steerage/laws.FnOne", spec := "fnOne", apart := false }
def FnOneSaid : Prop := fnOneRow.holds Try.pinned (OpenSpec.ofChange fnOneSpec)

/-- ITS FALSE NEIGHBOUR: 'it returns false'. Refute it at one input. -/
def fnOneWrong : ChangeSpec := { name := "fnOne", fn := fun _ => fun
  | [d] => { results := [.lit (.bool false)], args := [d] }
  | _ => none }
def FnOneWrongFalsely : Prop := fnOneRow.holds Try.pinned (OpenSpec.ofChange fnOneWrong)

/-- 'laws.FnLeast': WHATEVER THE INPUT: true; the input reads as it did. -/
def fnLeastSpec : ChangeSpec := { name := "fnLeast", fn := fun _ => fun
  | [d1, d2] => { results := [.lit (.bool true)], args := [d1, d2] }
  | _ => none }
def fnLeastRow : OpenClaim := { program := "ytabencccbmjnbaa", sum := "f002bdd51fc47e11d0ea683253364962bd79bcea93aa659694ed0c2d6d49def3", func := "loop.example/steerage/laws.FnLeast", spec := "fnLeast", apart := false }
def FnLeastSaid : Prop := fnLeastRow.holds Try.pinned (OpenSpec.ofChange fnLeastSpec)

/-- ITS FALSE NEIGHBOUR: 'it returns false'. Refute it at one input. -/
def fnLeastWrong : ChangeSpec := { name := "fnLeast", fn := fun _ => fun
  | [d1, d2] => { results := [.lit (.bool false)], args := [d1, d2] }
  | _ => none }
def FnLeastWrongFalsely : Prop := fnLeastRow.holds Try.pinned (OpenSpec.ofChange fnLeastWrong)

/-- 'laws.FnSome': WHATEVER THE INPUT: true; the input reads as it did. -/
def fnSomeSpec : ChangeSpec := { name := "fnSome", fn := fun _ => fun
  | [d] => { results := [.lit (.bool true)], args := [d] }
  | _ => none }
def fnSomeRow : OpenClaim := { program := "ytabencccbmjnbaa", sum := "f002bdd51fc47e11d0ea683253364962bd79bcea93aa659694ed0c2d6d49def3", func := "loop.example/steerage/laws.FnSome", spec := "fnSome", apart := false }
def FnSomeSaid : Prop := fnSomeRow.holds Try.pinned (OpenSpec.ofChange fnSomeSpec)

/-- ITS FALSE NEIGHBOUR: 'it returns false'. Refute it at one input. -/
def fnSomeWrong : ChangeSpec := { name := "fnSome", fn := fun _ => fun
  | [d] => { results := [.lit (.bool false)], args := [d] }
  | _ => none }
def FnSomeWrongFalsely : Prop := fnSomeRow.holds Try.pinned (OpenSpec.ofChange fnSomeWrong)

/-- 'laws.FnHas': WHATEVER THE INPUT: true; the input reads as it did. -/
def fnHasSpec : ChangeSpec := { name := "fnHas", fn := fun _ => fun
  | [d] => { results := [.lit (.bool true)], args := [d] }
  | _ => none }
def fnHasRow : OpenClaim := { program := "ytabencccbmjnbaa", sum := "f002bdd51fc47e11d0ea683253364962bd79bcea93aa659694ed0c2d6d49def3", func := "loop.example/steerage/laws.FnHas", spec := "fnHas", apart := false }
def FnHasSaid : Prop := fnHasRow.holds Try.pinned (OpenSpec.ofChange fnHasSpec)

/-- ITS FALSE NEIGHBOUR: 'it returns false'. Refute it at one input. -/
def fnHasWrong : ChangeSpec := { name := "fnHas", fn := fun _ => fun
  | [d] => { results := [.lit (.bool false)], args := [d] }
  | _ => none }
def FnHasWrongFalsely : Prop := fnHasRow.holds Try.pinned (OpenSpec.ofChange fnHasWrong)

/-- 'laws.FnIn': WHATEVER THE INPUT: true; the input reads as it did. -/
def fnInSpec : ChangeSpec := { name := "fnIn", fn := fun _ => fun
  | [d1, d2] => { results := [.lit (.bool true)], args := [d1, d2] }
  | _ => none }
def fnInRow : OpenClaim := { program := "ytabencccbmjnbaa", sum := "f002bdd51fc47e11d0ea683253364962bd79bcea93aa659694ed0c2d6d49def3", func := "loop.example/steerage/laws.FnIn", spec := "fnIn", apart := false }
def FnInSaid : Prop := fnInRow.holds Try.pinned (OpenSpec.ofChange fnInSpec)

/-- ITS FALSE NEIGHBOUR: 'it returns false'. Refute it at one input. -/
def fnInWrong : ChangeSpec := { name := "fnIn", fn := fun _ => fun
  | [d1, d2] => { results := [.lit (.bool false)], args := [d1, d2] }
  | _ => none }
def FnInWrongFalsely : Prop := fnInRow.holds Try.pinned (OpenSpec.ofChange fnInWrong)

/-- 'laws.FnTidyIn': WHATEVER THE INPUT: true; the input reads as it did. -/
def fnTidyInSpec : ChangeSpec := { name := "fnTidyIn", fn := fun _ => fun
  | [d] => { results := [.lit (.bool true)], args := [d] }
  | _ => none }
def fnTidyInRow : OpenClaim := { program := "ytabencccbmjnbaa", sum := "f002bdd51fc47e11d0ea683253364962bd79bcea93aa659694ed0c2d6d49def3", func := "loop.example/steerage/laws.FnTidyIn", spec := "fnTidyIn", apart := false }
def FnTidyInSaid : Prop := fnTidyInRow.holds Try.pinned (OpenSpec.ofChange fnTidyInSpec)

/-- ITS FALSE NEIGHBOUR: 'it returns false'. Refute it at one input. -/
def fnTidyInWrong : ChangeSpec := { name := "fnTidyIn", fn := fun _ => fun
  | [d] => { results := [.lit (.bool false)], args := [d] }
  | _ => none }
def FnTidyInWrongFalsely : Prop := fnTidyInRow.holds Try.pinned (OpenSpec.ofChange fnTidyInWrong)

/-- 'laws.FnTidy': WHATEVER THE INPUT: true; the input reads as it did. -/
def fnTidySpec : ChangeSpec := { name := "fnTidy", fn := fun _ => fun
  | [d1, d2] => { results := [.lit (.bool true)], args := [d1, d2] }
  | _ => none }
def fnTidyRow : OpenClaim := { program := "ytabencccbmjnbaa", sum := "f002bdd51fc47e11d0ea683253364962bd79bcea93aa659694ed0c2d6d49def3", func := "loop.example/steerage/laws.FnTidy", spec := "fnTidy", apart := false }
def FnTidySaid : Prop := fnTidyRow.holds Try.pinned (OpenSpec.ofChange fnTidySpec)

/-- ITS FALSE NEIGHBOUR: 'it returns false'. Refute it at one input. -/
def fnTidyWrong : ChangeSpec := { name := "fnTidy", fn := fun _ => fun
  | [d1, d2] => { results := [.lit (.bool false)], args := [d1, d2] }
  | _ => none }
def FnTidyWrongFalsely : Prop := fnTidyRow.holds Try.pinned (OpenSpec.ofChange fnTidyWrong)

/-- 'laws.FnJoinIn': WHATEVER THE INPUT: true; the input reads as it did. -/
def fnJoinInSpec : ChangeSpec := { name := "fnJoinIn", fn := fun _ => fun
  | [d] => { results := [.lit (.bool true)], args := [d] }
  | _ => none }
def fnJoinInRow : OpenClaim := { program := "ytabencccbmjnbaa", sum := "f002bdd51fc47e11d0ea683253364962bd79bcea93aa659694ed0c2d6d49def3", func := "loop.example/steerage/laws.FnJoinIn", spec := "fnJoinIn", apart := false }
def FnJoinInSaid : Prop := fnJoinInRow.holds Try.pinned (OpenSpec.ofChange fnJoinInSpec)

/-- ITS FALSE NEIGHBOUR: 'it returns false'. Refute it at one input. -/
def fnJoinInWrong : ChangeSpec := { name := "fnJoinIn", fn := fun _ => fun
  | [d] => { results := [.lit (.bool false)], args := [d] }
  | _ => none }
def FnJoinInWrongFalsely : Prop := fnJoinInRow.holds Try.pinned (OpenSpec.ofChange fnJoinInWrong)

/-- 'laws.FnJoin': WHATEVER THE INPUT: true; the input reads as it did. -/
def fnJoinSpec : ChangeSpec := { name := "fnJoin", fn := fun _ => fun
  | [d1, d2] => { results := [.lit (.bool true)], args := [d1, d2] }
  | _ => none }
def fnJoinRow : OpenClaim := { program := "ytabencccbmjnbaa", sum := "f002bdd51fc47e11d0ea683253364962bd79bcea93aa659694ed0c2d6d49def3", func := "loop.example/steerage/laws.FnJoin", spec := "fnJoin", apart := false }
def FnJoinSaid : Prop := fnJoinRow.holds Try.pinned (OpenSpec.ofChange fnJoinSpec)

/-- ITS FALSE NEIGHBOUR: 'it returns false'. Refute it at one input. -/
def fnJoinWrong : ChangeSpec := { name := "fnJoin", fn := fun _ => fun
  | [d1, d2] => { results := [.lit (.bool false)], args := [d1, d2] }
  | _ => none }
def FnJoinWrongFalsely : Prop := fnJoinRow.holds Try.pinned (OpenSpec.ofChange fnJoinWrong)

/- THE SECOND FORM. 'bulk': how many values and letters a reading holds, each counted each time it is reached (what is shared counts as often as it is met; a slice's spare places count too). A statement '..UptoSaid' is the law's where the arguments, and the package variables that the reading takes, are together of bulk at most 1048576: NARROWER than '..Said'. Prove '..Said' where nothing that the law and all that it calls make is longer than what came in: it says more and counts as full. Else prove '..UptoSaid'. A law counts once. -/
mutual
def uptoBulk {H : Type} : DataW H → Nat
  | .lit (.string bytes) => bytes.length + 1
  | .lit _ => 1
  | .nil => 1
  | .ptr d => uptoBulk d + 1
  | .slice elems spare => uptoBulkAll elems + uptoBulkAll spare + 1
  | .agg parts => uptoBulkAll parts + 1
  | .iface _ d => uptoBulk d + 1
  | .map entries => uptoBulkEntries entries + 1
  | .held _ => 1
def uptoBulkAll {H : Type} : List (DataW H) → Nat
  | [] => 0
  | d :: r => uptoBulk d + uptoBulkAll r
def uptoBulkEntries {H : Type} : List (Lit × DataW H) → Nat
  | [] => 0
  | x :: r => uptoBulkEntry x + uptoBulkEntries r
def uptoBulkEntry {H : Type} : Lit × DataW H → Nat
  | (.string bytes, d) => bytes.length + uptoBulk d + 1
  | (_, d) => uptoBulk d + 1
 end
def uptoSmall : (H : Type) → List (DataW H) → Bool := fun _ ds => decide (uptoBulkAll ds ≤ 1048576)
def OpenSpec.upto (s : _root_.Go.ChangeSpec) : _root_.Go.OpenSpec := { _root_.Go.OpenSpec.ofChange s with cond := some uptoSmall }

/-- 'laws.FnOf', WHERE WHAT IT READS IS OF BULK AT MOST 1048576: true; the input reads as it did. -/
def fnOfUptoRow : OpenClaim := { program := "ytabencccbmjnbaa", sum := "f002bdd51fc47e11d0ea683253364962bd79bcea93aa659694ed0c2d6d49def3", func := "loop.example/steerage/laws.FnOf", spec := "fnOf", apart := false, narrowed := true }
def FnOfUptoSaid : Prop := fnOfUptoRow.holds Try.pinned (OpenSpec.upto fnOfSpec)

/-- 'laws.FnHolds', WHERE WHAT IT READS IS OF BULK AT MOST 1048576: true; the input reads as it did. -/
def fnHoldsUptoRow : OpenClaim := { program := "ytabencccbmjnbaa", sum := "f002bdd51fc47e11d0ea683253364962bd79bcea93aa659694ed0c2d6d49def3", func := "loop.example/steerage/laws.FnHolds", spec := "fnHolds", apart := false, narrowed := true }
def FnHoldsUptoSaid : Prop := fnHoldsUptoRow.holds Try.pinned (OpenSpec.upto fnHoldsSpec)

/-- 'laws.FnDo', WHERE WHAT IT READS IS OF BULK AT MOST 1048576: true; the input reads as it did. -/
def fnDoUptoRow : OpenClaim := { program := "ytabencccbmjnbaa", sum := "f002bdd51fc47e11d0ea683253364962bd79bcea93aa659694ed0c2d6d49def3", func := "loop.example/steerage/laws.FnDo", spec := "fnDo", apart := false, narrowed := true }
def FnDoUptoSaid : Prop := fnDoUptoRow.holds Try.pinned (OpenSpec.upto fnDoSpec)

/-- 'laws.FnOne', WHERE WHAT IT READS IS OF BULK AT MOST 1048576: true; the input reads as it did. -/
def fnOneUptoRow : OpenClaim := { program := "ytabencccbmjnbaa", sum := "f002bdd51fc47e11d0ea683253364962bd79bcea93aa659694ed0c2d6d49def3", func := "loop.example/steerage/laws.FnOne", spec := "fnOne", apart := false, narrowed := true }
def FnOneUptoSaid : Prop := fnOneUptoRow.holds Try.pinned (OpenSpec.upto fnOneSpec)

/-- 'laws.FnLeast', WHERE WHAT IT READS IS OF BULK AT MOST 1048576: true; the input reads as it did. -/
def fnLeastUptoRow : OpenClaim := { program := "ytabencccbmjnbaa", sum := "f002bdd51fc47e11d0ea683253364962bd79bcea93aa659694ed0c2d6d49def3", func := "loop.example/steerage/laws.FnLeast", spec := "fnLeast", apart := false, narrowed := true }
def FnLeastUptoSaid : Prop := fnLeastUptoRow.holds Try.pinned (OpenSpec.upto fnLeastSpec)

/-- 'laws.FnSome', WHERE WHAT IT READS IS OF BULK AT MOST 1048576: true; the input reads as it did. -/
def fnSomeUptoRow : OpenClaim := { program := "ytabencccbmjnbaa", sum := "f002bdd51fc47e11d0ea683253364962bd79bcea93aa659694ed0c2d6d49def3", func := "loop.example/steerage/laws.FnSome", spec := "fnSome", apart := false, narrowed := true }
def FnSomeUptoSaid : Prop := fnSomeUptoRow.holds Try.pinned (OpenSpec.upto fnSomeSpec)

/-- 'laws.FnHas', WHERE WHAT IT READS IS OF BULK AT MOST 1048576: true; the input reads as it did. -/
def fnHasUptoRow : OpenClaim := { program := "ytabencccbmjnbaa", sum := "f002bdd51fc47e11d0ea683253364962bd79bcea93aa659694ed0c2d6d49def3", func := "loop.example/steerage/laws.FnHas", spec := "fnHas", apart := false, narrowed := true }
def FnHasUptoSaid : Prop := fnHasUptoRow.holds Try.pinned (OpenSpec.upto fnHasSpec)

/-- 'laws.FnIn', WHERE WHAT IT READS IS OF BULK AT MOST 1048576: true; the input reads as it did. -/
def fnInUptoRow : OpenClaim := { program := "ytabencccbmjnbaa", sum := "f002bdd51fc47e11d0ea683253364962bd79bcea93aa659694ed0c2d6d49def3", func := "loop.example/steerage/laws.FnIn", spec := "fnIn", apart := false, narrowed := true }
def FnInUptoSaid : Prop := fnInUptoRow.holds Try.pinned (OpenSpec.upto fnInSpec)

/-- 'laws.FnTidyIn', WHERE WHAT IT READS IS OF BULK AT MOST 1048576: true; the input reads as it did. -/
def fnTidyInUptoRow : OpenClaim := { program := "ytabencccbmjnbaa", sum := "f002bdd51fc47e11d0ea683253364962bd79bcea93aa659694ed0c2d6d49def3", func := "loop.example/steerage/laws.FnTidyIn", spec := "fnTidyIn", apart := false, narrowed := true }
def FnTidyInUptoSaid : Prop := fnTidyInUptoRow.holds Try.pinned (OpenSpec.upto fnTidyInSpec)

/-- 'laws.FnTidy', WHERE WHAT IT READS IS OF BULK AT MOST 1048576: true; the input reads as it did. -/
def fnTidyUptoRow : OpenClaim := { program := "ytabencccbmjnbaa", sum := "f002bdd51fc47e11d0ea683253364962bd79bcea93aa659694ed0c2d6d49def3", func := "loop.example/steerage/laws.FnTidy", spec := "fnTidy", apart := false, narrowed := true }
def FnTidyUptoSaid : Prop := fnTidyUptoRow.holds Try.pinned (OpenSpec.upto fnTidySpec)

/-- 'laws.FnJoinIn', WHERE WHAT IT READS IS OF BULK AT MOST 1048576: true; the input reads as it did. -/
def fnJoinInUptoRow : OpenClaim := { program := "ytabencccbmjnbaa", sum := "f002bdd51fc47e11d0ea683253364962bd79bcea93aa659694ed0c2d6d49def3", func := "loop.example/steerage/laws.FnJoinIn", spec := "fnJoinIn", apart := false, narrowed := true }
def FnJoinInUptoSaid : Prop := fnJoinInUptoRow.holds Try.pinned (OpenSpec.upto fnJoinInSpec)

/-- 'laws.FnJoin', WHERE WHAT IT READS IS OF BULK AT MOST 1048576: true; the input reads as it did. -/
def fnJoinUptoRow : OpenClaim := { program := "ytabencccbmjnbaa", sum := "f002bdd51fc47e11d0ea683253364962bd79bcea93aa659694ed0c2d6d49def3", func := "loop.example/steerage/laws.FnJoin", spec := "fnJoin", apart := false, narrowed := true }
def FnJoinUptoSaid : Prop := fnJoinUptoRow.holds Try.pinned (OpenSpec.upto fnJoinSpec)

end Rows
end Go.Proofs.Ytabencccbmjnbaa
