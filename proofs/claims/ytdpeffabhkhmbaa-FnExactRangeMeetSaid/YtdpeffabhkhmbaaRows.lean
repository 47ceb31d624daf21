/-
  No cell of these rows narrows 'for every input' (looked for: loops, veiled, ifaces, maps, wideKeys, modest, calm, conditions, laid).
  DERIVED. THE GIVEN ROWS OF THIS SEAT. 12 by the template 'for every input the law returns true; each argument reads behind the call as it read before'; 0 by the template 'total and deterministic' (their statements: YtdpeffabhkhmbaaTotals.lean).
  GIVEN WITH THE SEED: the statements are not yours to turn. If you find one false, say at which input.
  Laid BY PROGRAM, IN A SANDBOX (cutbox-rows.mjs): the forced cells as the released guide's own fill.sh prints them over the translation ec42f3a57166aed7… (all of the seat's roots in one cut). By AI agents, Wed Nov 11 2026. No macro, syntax, notation, axiom, sorry.
-/
import Derived.Test.YtdpeffabhkhmbaaChecked
import GoSem.Claim
import GoSem.ClaimJoined
import GoSem.ClaimMapViews
import Derived.JoinedTies
import Derived.KernelRfl
namespace Go.Proofs.Ytdpeffabhkhmbaa
/- THE CELL 'sum', in the pinned program and in every row, IS THE sha256 OF THE DUMP (.gsa) THAT YtdpeffabhkhmbaaProg.lean LOADS. Nothing in Lean hashes anything: it is a label: what it is worth is what the hold of that sum in a sandbox is worth. -/
noncomputable def Try.pinned : Pinned := { name := "ytdpeffabhkhmbaa", sum := "ec42f3a57166aed79982a7814e564f244579181f1f48e78d4934b2a4e59076a9", checked := Try.checked }
namespace Rows
def none {H : Type} : Left H := { results := [], args := [] }

/-- 'laws.FnExactRangeOk': WHATEVER THE INPUT: true; the input reads as it did. -/
def fnExactRangeOkSpec : ChangeSpec := { name := "fnExactRangeOk", fn := fun _ => fun
  | [d] => { results := [.lit (.bool true)], args := [d] }
  | _ => none }
def fnExactRangeOkRow : OpenClaim := { program := "ytdpeffabhkhmbaa", sum := "ec42f3a57166aed79982a7814e564f244579181f1f48e78d4934b2a4e59076a9", func := "loop.example/steerage/laws.FnExactRangeOk", spec := "fnExactRangeOk", apart := false }
def FnExactRangeOkSaid : Prop := fnExactRangeOkRow.holds Try.pinned (OpenSpec.ofChange fnExactRangeOkSpec)

/-- ITS FALSE NEIGHBOUR: 'it returns false'. Refute it at one input. -/
def fnExactRangeOkWrong : ChangeSpec := { name := "fnExactRangeOk", fn := fun _ => fun
  | [d] => { results := [.lit (.bool false)], args := [d] }
  | _ => none }
def FnExactRangeOkWrongFalsely : Prop := fnExactRangeOkRow.holds Try.pinned (OpenSpec.ofChange fnExactRangeOkWrong)

/-- 'laws.FnExactRangeHas': WHATEVER THE INPUT: true; the input reads as it did. -/
def fnExactRangeHasSpec : ChangeSpec := { name := "fnExactRangeHas", fn := fun _ => fun
  | [d1, d2] => { results := [.lit (.bool true)], args := [d1, d2] }
  | _ => none }
def fnExactRangeHasRow : OpenClaim := { program := "ytdpeffabhkhmbaa", sum := "ec42f3a57166aed79982a7814e564f244579181f1f48e78d4934b2a4e59076a9", func := "loop.example/steerage/laws.FnExactRangeHas", spec := "fnExactRangeHas", apart := false }
def FnExactRangeHasSaid : Prop := fnExactRangeHasRow.holds Try.pinned (OpenSpec.ofChange fnExactRangeHasSpec)

/-- ITS FALSE NEIGHBOUR: 'it returns false'. Refute it at one input. -/
def fnExactRangeHasWrong : ChangeSpec := { name := "fnExactRangeHas", fn := fun _ => fun
  | [d1, d2] => { results := [.lit (.bool false)], args := [d1, d2] }
  | _ => none }
def FnExactRangeHasWrongFalsely : Prop := fnExactRangeHasRow.holds Try.pinned (OpenSpec.ofChange fnExactRangeHasWrong)

/-- 'laws.FnExactRangeOne': WHATEVER THE INPUT: true; the input reads as it did. -/
def fnExactRangeOneSpec : ChangeSpec := { name := "fnExactRangeOne", fn := fun _ => fun
  | [d] => { results := [.lit (.bool true)], args := [d] }
  | _ => none }
def fnExactRangeOneRow : OpenClaim := { program := "ytdpeffabhkhmbaa", sum := "ec42f3a57166aed79982a7814e564f244579181f1f48e78d4934b2a4e59076a9", func := "loop.example/steerage/laws.FnExactRangeOne", spec := "fnExactRangeOne", apart := false }
def FnExactRangeOneSaid : Prop := fnExactRangeOneRow.holds Try.pinned (OpenSpec.ofChange fnExactRangeOneSpec)

/-- ITS FALSE NEIGHBOUR: 'it returns false'. Refute it at one input. -/
def fnExactRangeOneWrong : ChangeSpec := { name := "fnExactRangeOne", fn := fun _ => fun
  | [d] => { results := [.lit (.bool false)], args := [d] }
  | _ => none }
def FnExactRangeOneWrongFalsely : Prop := fnExactRangeOneRow.holds Try.pinned (OpenSpec.ofChange fnExactRangeOneWrong)

/-- 'laws.FnExactRangeHolds': WHATEVER THE INPUT: true; the input reads as it did. -/
def fnExactRangeHoldsSpec : ChangeSpec := { name := "fnExactRangeHolds", fn := fun _ => fun
  | [d1, d2, d3] => { results := [.lit (.bool true)], args := [d1, d2, d3] }
  | _ => none }
def fnExactRangeHoldsRow : OpenClaim := { program := "ytdpeffabhkhmbaa", sum := "ec42f3a57166aed79982a7814e564f244579181f1f48e78d4934b2a4e59076a9", func := "loop.example/steerage/laws.FnExactRangeHolds", spec := "fnExactRangeHolds", apart := false }
def FnExactRangeHoldsSaid : Prop := fnExactRangeHoldsRow.holds Try.pinned (OpenSpec.ofChange fnExactRangeHoldsSpec)

/-- ITS FALSE NEIGHBOUR: 'it returns false'. Refute it at one input. -/
def fnExactRangeHoldsWrong : ChangeSpec := { name := "fnExactRangeHolds", fn := fun _ => fun
  | [d1, d2, d3] => { results := [.lit (.bool false)], args := [d1, d2, d3] }
  | _ => none }
def FnExactRangeHoldsWrongFalsely : Prop := fnExactRangeHoldsRow.holds Try.pinned (OpenSpec.ofChange fnExactRangeHoldsWrong)

/-- 'laws.FnExactRangeSome': WHATEVER THE INPUT: true; the input reads as it did. -/
def fnExactRangeSomeSpec : ChangeSpec := { name := "fnExactRangeSome", fn := fun _ => fun
  | [d] => { results := [.lit (.bool true)], args := [d] }
  | _ => none }
def fnExactRangeSomeRow : OpenClaim := { program := "ytdpeffabhkhmbaa", sum := "ec42f3a57166aed79982a7814e564f244579181f1f48e78d4934b2a4e59076a9", func := "loop.example/steerage/laws.FnExactRangeSome", spec := "fnExactRangeSome", apart := false }
def FnExactRangeSomeSaid : Prop := fnExactRangeSomeRow.holds Try.pinned (OpenSpec.ofChange fnExactRangeSomeSpec)

/-- ITS FALSE NEIGHBOUR: 'it returns false'. Refute it at one input. -/
def fnExactRangeSomeWrong : ChangeSpec := { name := "fnExactRangeSome", fn := fun _ => fun
  | [d] => { results := [.lit (.bool false)], args := [d] }
  | _ => none }
def FnExactRangeSomeWrongFalsely : Prop := fnExactRangeSomeRow.holds Try.pinned (OpenSpec.ofChange fnExactRangeSomeWrong)

/-- 'laws.FnExactRangeDo': WHATEVER THE INPUT: true; the input reads as it did. -/
def fnExactRangeDoSpec : ChangeSpec := { name := "fnExactRangeDo", fn := fun _ => fun
  | [d1, d2, d3] => { results := [.lit (.bool true)], args := [d1, d2, d3] }
  | _ => none }
def fnExactRangeDoRow : OpenClaim := { program := "ytdpeffabhkhmbaa", sum := "ec42f3a57166aed79982a7814e564f244579181f1f48e78d4934b2a4e59076a9", func := "loop.example/steerage/laws.FnExactRangeDo", spec := "fnExactRangeDo", apart := false }
def FnExactRangeDoSaid : Prop := fnExactRangeDoRow.holds Try.pinned (OpenSpec.ofChange fnExactRangeDoSpec)

/-- ITS FALSE NEIGHBOUR: 'it returns false'. Refute it at one input. -/
def fnExactRangeDoWrong : ChangeSpec := { name := "fnExactRangeDo", fn := fun _ => fun
  | [d1, d2, d3] => { results := [.lit (.bool false)], args := [d1, d2, d3] }
  | _ => none }
def FnExactRangeDoWrongFalsely : Prop := fnExactRangeDoRow.holds Try.pinned (OpenSpec.ofChange fnExactRangeDoWrong)

/-- 'laws.FnExactRangeIn': WHATEVER THE INPUT: true; the input reads as it did. -/
def fnExactRangeInSpec : ChangeSpec := { name := "fnExactRangeIn", fn := fun _ => fun
  | [d1, d2] => { results := [.lit (.bool true)], args := [d1, d2] }
  | _ => none }
def fnExactRangeInRow : OpenClaim := { program := "ytdpeffabhkhmbaa", sum := "ec42f3a57166aed79982a7814e564f244579181f1f48e78d4934b2a4e59076a9", func := "loop.example/steerage/laws.FnExactRangeIn", spec := "fnExactRangeIn", apart := false }
def FnExactRangeInSaid : Prop := fnExactRangeInRow.holds Try.pinned (OpenSpec.ofChange fnExactRangeInSpec)

/-- ITS FALSE NEIGHBOUR: 'it returns false'. Refute it at one input. -/
def fnExactRangeInWrong : ChangeSpec := { name := "fnExactRangeIn", fn := fun _ => fun
  | [d1, d2] => { results := [.lit (.bool false)], args := [d1, d2] }
  | _ => none }
def FnExactRangeInWrongFalsely : Prop := fnExactRangeInRow.holds Try.pinned (OpenSpec.ofChange fnExactRangeInWrong)

/-- 'laws.FnExactRangeLeast': WHATEVER THE INPUT: true; the input reads as it did. -/
def fnExactRangeLeastSpec : ChangeSpec := { name := "fnExactRangeLeast", fn := fun _ => fun
  | [d] => { results := [.lit (.bool true)], args := [d] }
  | _ => none }
def fnExactRangeLeastRow : OpenClaim := { program := "ytdpeffabhkhmbaa", sum := "ec42f3a57166aed79982a7814e564f244579181f1f48e78d4934b2a4e59076a9", func := "loop.example/steerage/laws.FnExactRangeLeast", spec := "fnExactRangeLeast", apart := false }
def FnExactRangeLeastSaid : Prop := fnExactRangeLeastRow.holds Try.pinned (OpenSpec.ofChange fnExactRangeLeastSpec)

/-- ITS FALSE NEIGHBOUR: 'it returns false'. Refute it at one input. -/
def fnExactRangeLeastWrong : ChangeSpec := { name := "fnExactRangeLeast", fn := fun _ => fun
  | [d] => { results := [.lit (.bool false)], args := [d] }
  | _ => none }
def FnExactRangeLeastWrongFalsely : Prop := fnExactRangeLeastRow.holds Try.pinned (OpenSpec.ofChange fnExactRangeLeastWrong)

/-- 'laws.FnExactRangeTidy': WHATEVER THE INPUT: true; the input reads as it did. -/
def fnExactRangeTidySpec : ChangeSpec := { name := "fnExactRangeTidy", fn := fun _ => fun
  | [d] => { results := [.lit (.bool true)], args := [d] }
  | _ => none }
def fnExactRangeTidyRow : OpenClaim := { program := "ytdpeffabhkhmbaa", sum := "ec42f3a57166aed79982a7814e564f244579181f1f48e78d4934b2a4e59076a9", func := "loop.example/steerage/laws.FnExactRangeTidy", spec := "fnExactRangeTidy", apart := false }
def FnExactRangeTidySaid : Prop := fnExactRangeTidyRow.holds Try.pinned (OpenSpec.ofChange fnExactRangeTidySpec)

/-- ITS FALSE NEIGHBOUR: 'it returns false'. Refute it at one input. -/
def fnExactRangeTidyWrong : ChangeSpec := { name := "fnExactRangeTidy", fn := fun _ => fun
  | [d] => { results := [.lit (.bool false)], args := [d] }
  | _ => none }
def FnExactRangeTidyWrongFalsely : Prop := fnExactRangeTidyRow.holds Try.pinned (OpenSpec.ofChange fnExactRangeTidyWrong)

/-- 'laws.FnExactRangeJoin': WHATEVER THE INPUT: true; the input reads as it did. -/
def fnExactRangeJoinSpec : ChangeSpec := { name := "fnExactRangeJoin", fn := fun _ => fun
  | [d1, d2] => { results := [.lit (.bool true)], args := [d1, d2] }
  | _ => none }
def fnExactRangeJoinRow : OpenClaim := { program := "ytdpeffabhkhmbaa", sum := "ec42f3a57166aed79982a7814e564f244579181f1f48e78d4934b2a4e59076a9", func := "loop.example/steerage/laws.FnExactRangeJoin", spec := "fnExactRangeJoin", apart := false }
def FnExactRangeJoinSaid : Prop := fnExactRangeJoinRow.holds Try.pinned (OpenSpec.ofChange fnExactRangeJoinSpec)

/-- ITS FALSE NEIGHBOUR: 'it returns false'. Refute it at one input. -/
def fnExactRangeJoinWrong : ChangeSpec := { name := "fnExactRangeJoin", fn := fun _ => fun
  | [d1, d2] => { results := [.lit (.bool false)], args := [d1, d2] }
  | _ => none }
def FnExactRangeJoinWrongFalsely : Prop := fnExactRangeJoinRow.holds Try.pinned (OpenSpec.ofChange fnExactRangeJoinWrong)

/-- 'laws.FnExactRangeMeet': WHATEVER THE INPUT: true; the input reads as it did. -/
def fnExactRangeMeetSpec : ChangeSpec := { name := "fnExactRangeMeet", fn := fun _ => fun
  | [d1, d2] => { results := [.lit (.bool true)], args := [d1, d2] }
  | _ => none }
def fnExactRangeMeetRow : OpenClaim := { program := "ytdpeffabhkhmbaa", sum := "ec42f3a57166aed79982a7814e564f244579181f1f48e78d4934b2a4e59076a9", func := "loop.example/steerage/laws.FnExactRangeMeet", spec := "fnExactRangeMeet", apart := false }
def FnExactRangeMeetSaid : Prop := fnExactRangeMeetRow.holds Try.pinned (OpenSpec.ofChange fnExactRangeMeetSpec)

/-- ITS FALSE NEIGHBOUR: 'it returns false'. Refute it at one input. -/
def fnExactRangeMeetWrong : ChangeSpec := { name := "fnExactRangeMeet", fn := fun _ => fun
  | [d1, d2] => { results := [.lit (.bool false)], args := [d1, d2] }
  | _ => none }
def FnExactRangeMeetWrongFalsely : Prop := fnExactRangeMeetRow.holds Try.pinned (OpenSpec.ofChange fnExactRangeMeetWrong)

/-- 'laws.FnExactRangeBranch': WHATEVER THE INPUT: true; the input reads as it did. -/
def fnExactRangeBranchSpec : ChangeSpec := { name := "fnExactRangeBranch", fn := fun _ => fun
  | [d1, d2, d3, d4] => { results := [.lit (.bool true)], args := [d1, d2, d3, d4] }
  | _ => none }
def fnExactRangeBranchRow : OpenClaim := { program := "ytdpeffabhkhmbaa", sum := "ec42f3a57166aed79982a7814e564f244579181f1f48e78d4934b2a4e59076a9", func := "loop.example/steerage/laws.FnExactRangeBranch", spec := "fnExactRangeBranch", apart := false }
def FnExactRangeBranchSaid : Prop := fnExactRangeBranchRow.holds Try.pinned (OpenSpec.ofChange fnExactRangeBranchSpec)

/-- ITS FALSE NEIGHBOUR: 'it returns false'. Refute it at one input. -/
def fnExactRangeBranchWrong : ChangeSpec := { name := "fnExactRangeBranch", fn := fun _ => fun
  | [d1, d2, d3, d4] => { results := [.lit (.bool false)], args := [d1, d2, d3, d4] }
  | _ => none }
def FnExactRangeBranchWrongFalsely : Prop := fnExactRangeBranchRow.holds Try.pinned (OpenSpec.ofChange fnExactRangeBranchWrong)

/- THE SECOND FORM. 'bulk': how many values and letters a reading holds, each counted each time it is reached (what is shared counts as often as it is met; a slice's spare places count too). A statement '..UptoSaid' is the law's where the arguments, and the package variables that the reading takes, are together of bulk at most 1048576: NARROWER than '..Said'. Prove '..Said' where nothing that the law and all that it calls make is longer than what came in: it says more and counts as full. Else prove '..UptoSaid'. A law counts once. -/
mutual
def uptoBulk {H : Type} : DataW H → Nat
  | .lit (.string bytes) => bytes.length + 1
  | .lit _ => 1
  | .nil => 1
  | .ptr d => uptoBulk d + 1
  | .slice elems spare => uptoBulkAll elems + uptoBulkAll spare + 1
  | .agg parts => uptoBulkAll parts + 1
  | .iface _ d => uptoBulk d + 1
  | .map entries => uptoBulkEntries entries + 1
  | .held _ => 1
def uptoBulkAll {H : Type} : List (DataW H) → Nat
  | [] => 0
  | d :: r => uptoBulk d + uptoBulkAll r
def uptoBulkEntries {H : Type} : List (Lit × DataW H) → Nat
  | [] => 0
  | x :: r => uptoBulkEntry x + uptoBulkEntries r
def uptoBulkEntry {H : Type} : Lit × DataW H → Nat
  | (.string bytes, d) => bytes.length + uptoBulk d + 1
  | (_, d) => uptoBulk d + 1
 end
def uptoSmall : (H : Type) → List (DataW H) → Bool := fun _ ds => decide (uptoBulkAll ds ≤ 1048576)
def OpenSpec.upto (s : _root_.Go.ChangeSpec) : _root_.Go.OpenSpec := { _root_.Go.OpenSpec.ofChange s with cond := some uptoSmall }

/-- 'laws.FnExactRangeOk', WHERE WHAT IT READS IS OF BULK AT MOST 1048576: true; the input reads as it did. -/
def fnExactRangeOkUptoRow : OpenClaim := { program := "ytdpeffabhkhmbaa", sum := "ec42f3a57166aed79982a7814e564f244579181f1f48e78d4934b2a4e59076a9", func := "loop.example/steerage/laws.FnExactRangeOk", spec := "fnExactRangeOk", apart := false, narrowed := true }
def FnExactRangeOkUptoSaid : Prop := fnExactRangeOkUptoRow.holds Try.pinned (OpenSpec.upto fnExactRangeOkSpec)

/-- 'laws.FnExactRangeHas', WHERE WHAT IT READS IS OF BULK AT MOST 1048576: true; the input reads as it did. -/
def fnExactRangeHasUptoRow : OpenClaim := { program := "ytdpeffabhkhmbaa", sum := "ec42f3a57166aed79982a7814e564f244579181f1f48e78d4934b2a4e59076a9", func := "loop.example/steerage/laws.FnExactRangeHas", spec := "fnExactRangeHas", apart := false, narrowed := true }
def FnExactRangeHasUptoSaid : Prop := fnExactRangeHasUptoRow.holds Try.pinned (OpenSpec.upto fnExactRangeHasSpec)

/-- 'laws.FnExactRangeOne', WHERE WHAT IT READS IS OF BULK AT MOST 1048576: true; the input reads as it did. -/
def fnExactRangeOneUptoRow : OpenClaim := { program := "ytdpeffabhkhmbaa", sum := "ec42f3a57166aed79982a7814e564f244579181f1f48e78d4934b2a4e59076a9", func := "loop.example/steerage/laws.FnExactRangeOne", spec := "fnExactRangeOne", apart := false, narrowed := true }
def FnExactRangeOneUptoSaid : Prop := fnExactRangeOneUptoRow.holds Try.pinned (OpenSpec.upto fnExactRangeOneSpec)

/-- 'laws.FnExactRangeHolds', WHERE WHAT IT READS IS OF BULK AT MOST 1048576: true; the input reads as it did. -/
def fnExactRangeHoldsUptoRow : OpenClaim := { program := "ytdpeffabhkhmbaa", sum := "ec42f3a57166aed79982a7814e564f244579181f1f48e78d4934b2a4e59076a9", func := "loop.example/steerage/laws.FnExactRangeHolds", spec := "fnExactRangeHolds", apart := false, narrowed := true }
def FnExactRangeHoldsUptoSaid : Prop := fnExactRangeHoldsUptoRow.holds Try.pinned (OpenSpec.upto fnExactRangeHoldsSpec)

/-- 'laws.FnExactRangeSome', WHERE WHAT IT READS IS OF BULK AT MOST 1048576: true; the input reads as it did. -/
def fnExactRangeSomeUptoRow : OpenClaim := { program := "ytdpeffabhkhmbaa", sum := "ec42f3a57166aed79982a7814e564f244579181f1f48e78d4934b2a4e59076a9", func := "loop.example/steerage/laws.FnExactRangeSome", spec := "fnExactRangeSome", apart := false, narrowed := true }
def FnExactRangeSomeUptoSaid : Prop := fnExactRangeSomeUptoRow.holds Try.pinned (OpenSpec.upto fnExactRangeSomeSpec)

/-- 'laws.FnExactRangeDo', WHERE WHAT IT READS IS OF BULK AT MOST 1048576: true; the input reads as it did. -/
def fnExactRangeDoUptoRow : OpenClaim := { program := "ytdpeffabhkhmbaa", sum := "ec42f3a57166aed79982a7814e564f244579181f1f48e78d4934b2a4e59076a9", func := "loop.example/steerage/laws.FnExactRangeDo", spec := "fnExactRangeDo", apart := false, narrowed := true }
def FnExactRangeDoUptoSaid : Prop := fnExactRangeDoUptoRow.holds Try.pinned (OpenSpec.upto fnExactRangeDoSpec)

/-- 'laws.FnExactRangeIn', WHERE WHAT IT READS IS OF BULK AT MOST 1048576: true; the input reads as it did. -/
def fnExactRangeInUptoRow : OpenClaim := { program := "ytdpeffabhkhmbaa", sum := "ec42f3a57166aed79982a7814e564f244579181f1f48e78d4934b2a4e59076a9", func := "loop.example/steerage/laws.FnExactRangeIn", spec := "fnExactRangeIn", apart := false, narrowed := true }
def FnExactRangeInUptoSaid : Prop := fnExactRangeInUptoRow.holds Try.pinned (OpenSpec.upto fnExactRangeInSpec)

/-- 'laws.FnExactRangeLeast', WHERE WHAT IT READS IS OF BULK AT MOST 1048576: true; the input reads as it did. -/
def fnExactRangeLeastUptoRow : OpenClaim := { program := "ytdpeffabhkhmbaa", sum := "ec42f3a57166aed79982a7814e564f244579181f1f48e78d4934b2a4e59076a9", func := "loop.example/steerage/laws.FnExactRangeLeast", spec := "fnExactRangeLeast", apart := false, narrowed := true }
def FnExactRangeLeastUptoSaid : Prop := fnExactRangeLeastUptoRow.holds Try.pinned (OpenSpec.upto fnExactRangeLeastSpec)

/-- 'laws.FnExactRangeTidy', WHERE WHAT IT READS IS OF BULK AT MOST 1048576: true; the input reads as it did. -/
def fnExactRangeTidyUptoRow : OpenClaim := { program := "ytdpeffabhkhmbaa", sum := "ec42f3a57166aed79982a7814e564f244579181f1f48e78d4934b2a4e59076a9", func := "loop.example/steerage/laws.FnExactRangeTidy", spec := "fnExactRangeTidy", apart := false, narrowed := true }
def FnExactRangeTidyUptoSaid : Prop := fnExactRangeTidyUptoRow.holds Try.pinned (OpenSpec.upto fnExactRangeTidySpec)

/-- 'laws.FnExactRangeJoin', WHERE WHAT IT READS IS OF BULK AT MOST 1048576: true; the input reads as it did. -/
def fnExactRangeJoinUptoRow : OpenClaim := { program := "ytdpeffabhkhmbaa", sum := "ec42f3a57166aed79982a7814e564f244579181f1f48e78d4934b2a4e59076a9", func := "loop.example/steerage/laws.FnExactRangeJoin", spec := "fnExactRangeJoin", apart := false, narrowed := true }
def FnExactRangeJoinUptoSaid : Prop := fnExactRangeJoinUptoRow.holds Try.pinned (OpenSpec.upto fnExactRangeJoinSpec)

/-- 'laws.FnExactRangeMeet', WHERE WHAT IT READS IS OF BULK AT MOST 1048576: true; the input reads as it did. -/
def fnExactRangeMeetUptoRow : OpenClaim := { program := "ytdpeffabhkhmbaa", sum := "ec42f3a57166aed79982a7814e564f244579181f1f48e78d4934b2a4e59076a9", func := "loop.example/steerage/laws.FnExactRangeMeet", spec := "fnExactRangeMeet", apart := false, narrowed := true }
def FnExactRangeMeetUptoSaid : Prop := fnExactRangeMeetUptoRow.holds Try.pinned (OpenSpec.upto fnExactRangeMeetSpec)

/-- 'laws.FnExactRangeBranch', WHERE WHAT IT READS IS OF BULK AT MOST 1048576: true; the input reads as it did. -/
def fnExactRangeBranchUptoRow : OpenClaim := { program := "ytdpeffabhkhmbaa", sum := "ec42f3a57166aed79982a7814e564f244579181f1f48e78d4934b2a4e59076a9", func := "loop.example/steerage/laws.FnExactRangeBranch", spec := "fnExactRangeBranch", apart := false, narrowed := true }
def FnExactRangeBranchUptoSaid : Prop := fnExactRangeBranchUptoRow.holds Try.pinned (OpenSpec.upto fnExactRangeBranchSpec)

end Rows
end Go.Proofs.Ytdpeffabhkhmbaa
