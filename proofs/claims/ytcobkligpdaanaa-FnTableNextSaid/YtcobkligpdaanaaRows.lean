/-
  No cell of these rows narrows 'for every input' (looked for: loops, veiled, ifaces, maps, wideKeys, modest, calm, conditions, laid).
  DERIVED. THE GIVEN ROWS OF THIS SEAT. 10 by the template 'for every input the law returns true; each argument reads behind the call as it read before'; 0 by the template 'total and deterministic' (their statements: YtcobkligpdaanaaTotals.lean).
  GIVEN WITH THE SEED: the statements are not yours to turn. If you find one false, say at which input.
  Laid BY PROGRAM, IN A SANDBOX (cutbox-rows.mjs): the forced cells as the released guide's own fill.sh prints them over the translation f5fafc200f83dfcb… (all of the seat's roots in one cut). By AI agents, Wed Nov 11 2026. No macro, syntax, notation, axiom, sorry.
-/
import Derived.Test.YtcobkligpdaanaaChecked
import GoSem.Claim
import GoSem.ClaimJoined
import GoSem.ClaimMapViews
import Derived.JoinedTies
import Derived.KernelRfl
namespace Go.Proofs.Ytcobkligpdaanaa
/- THE CELL 'sum', in the pinned program and in every row, IS THE sha256 OF THE DUMP (.gsa) THAT YtcobkligpdaanaaProg.lean LOADS. Nothing in Lean hashes anything: it is a label: what it is worth is what the hold of that sum in a sandbox is worth. -/
noncomputable def Try.pinned : Pinned := { name := "ytcobkligpdaanaa", sum := "f5fafc200f83dfcb910d9e9f75ab498c5eb80a47130ef1b070d7a47893301287", checked := Try.checked }
namespace Rows
def none {H : Type} : Left H := { results := [], args := [] }

/-- 'laws.FnMeetIn': WHATEVER THE INPUT: true; the input reads as it did. -/
def fnMeetInSpec : ChangeSpec := { name := "fnMeetIn", fn := fun _ => fun
  | [d] => { results := [.lit (.bool true)], args := [d] }
  | _ => none }
def fnMeetInRow : OpenClaim := { program := "ytcobkligpdaanaa", sum := "f5fafc200f83dfcb910d9e9f75ab498c5eb80a47130ef1b070d7a47893301287", func := "loop.example/steerage/laws.FnMeetIn", spec := "fnMeetIn", apart := false }
def FnMeetInSaid : Prop := fnMeetInRow.holds Try.pinned (OpenSpec.ofChange fnMeetInSpec)

/-- ITS FALSE NEIGHBOUR: 'it returns false'. Refute it at one input. -/
def fnMeetInWrong : ChangeSpec := { name := "fnMeetIn", fn := fun _ => fun
  | [d] => { results := [.lit (.bool false)], args := [d] }
  | _ => none }
def FnMeetInWrongFalsely : Prop := fnMeetInRow.holds Try.pinned (OpenSpec.ofChange fnMeetInWrong)

/-- 'laws.FnMeet': WHATEVER THE INPUT: true; the input reads as it did. -/
def fnMeetSpec : ChangeSpec := { name := "fnMeet", fn := fun _ => fun
  | [d1, d2] => { results := [.lit (.bool true)], args := [d1, d2] }
  | _ => none }
def fnMeetRow : OpenClaim := { program := "ytcobkligpdaanaa", sum := "f5fafc200f83dfcb910d9e9f75ab498c5eb80a47130ef1b070d7a47893301287", func := "loop.example/steerage/laws.FnMeet", spec := "fnMeet", apart := false }
def FnMeetSaid : Prop := fnMeetRow.holds Try.pinned (OpenSpec.ofChange fnMeetSpec)

/-- ITS FALSE NEIGHBOUR: 'it returns false'. Refute it at one input. -/
def fnMeetWrong : ChangeSpec := { name := "fnMeet", fn := fun _ => fun
  | [d1, d2] => { results := [.lit (.bool false)], args := [d1, d2] }
  | _ => none }
def FnMeetWrongFalsely : Prop := fnMeetRow.holds Try.pinned (OpenSpec.ofChange fnMeetWrong)

/-- 'laws.FnOfOne': WHATEVER THE INPUT: true; the input reads as it did. -/
def fnOfOneSpec : ChangeSpec := { name := "fnOfOne", fn := fun _ => fun
  | [d] => { results := [.lit (.bool true)], args := [d] }
  | _ => none }
def fnOfOneRow : OpenClaim := { program := "ytcobkligpdaanaa", sum := "f5fafc200f83dfcb910d9e9f75ab498c5eb80a47130ef1b070d7a47893301287", func := "loop.example/steerage/laws.FnOfOne", spec := "fnOfOne", apart := false }
def FnOfOneSaid : Prop := fnOfOneRow.holds Try.pinned (OpenSpec.ofChange fnOfOneSpec)

/-- ITS FALSE NEIGHBOUR: 'it returns false'. Refute it at one input. -/
def fnOfOneWrong : ChangeSpec := { name := "fnOfOne", fn := fun _ => fun
  | [d] => { results := [.lit (.bool false)], args := [d] }
  | _ => none }
def FnOfOneWrongFalsely : Prop := fnOfOneRow.holds Try.pinned (OpenSpec.ofChange fnOfOneWrong)

/-- 'laws.FnInsPut': WHATEVER THE INPUT: true; the input reads as it did. -/
def fnInsPutSpec : ChangeSpec := { name := "fnInsPut", fn := fun _ => fun
  | [d] => { results := [.lit (.bool true)], args := [d] }
  | _ => none }
def fnInsPutRow : OpenClaim := { program := "ytcobkligpdaanaa", sum := "f5fafc200f83dfcb910d9e9f75ab498c5eb80a47130ef1b070d7a47893301287", func := "loop.example/steerage/laws.FnInsPut", spec := "fnInsPut", recurses := true, apart := false }
def FnInsPutSaid : Prop := fnInsPutRow.holds Try.pinned (OpenSpec.ofChange fnInsPutSpec)

/-- ITS FALSE NEIGHBOUR: 'it returns false'. Refute it at one input. -/
def fnInsPutWrong : ChangeSpec := { name := "fnInsPut", fn := fun _ => fun
  | [d] => { results := [.lit (.bool false)], args := [d] }
  | _ => none }
def FnInsPutWrongFalsely : Prop := fnInsPutRow.holds Try.pinned (OpenSpec.ofChange fnInsPutWrong)

/-- 'laws.FnForm': WHATEVER THE INPUT: true; the input reads as it did. -/
def fnFormSpec : ChangeSpec := { name := "fnForm", fn := fun _ => fun
  | [d] => { results := [.lit (.bool true)], args := [d] }
  | _ => none }
def fnFormRow : OpenClaim := { program := "ytcobkligpdaanaa", sum := "f5fafc200f83dfcb910d9e9f75ab498c5eb80a47130ef1b070d7a47893301287", func := "loop.example/steerage/laws.FnForm", spec := "fnForm", recurses := true, apart := false }
def FnFormSaid : Prop := fnFormRow.holds Try.pinned (OpenSpec.ofChange fnFormSpec)

/-- ITS FALSE NEIGHBOUR: 'it returns false'. Refute it at one input. -/
def fnFormWrong : ChangeSpec := { name := "fnForm", fn := fun _ => fun
  | [d] => { results := [.lit (.bool false)], args := [d] }
  | _ => none }
def FnFormWrongFalsely : Prop := fnFormRow.holds Try.pinned (OpenSpec.ofChange fnFormWrong)

/-- 'laws.FnInsGet': WHATEVER THE INPUT: true; the input reads as it did. -/
def fnInsGetSpec : ChangeSpec := { name := "fnInsGet", fn := fun _ => fun
  | [d] => { results := [.lit (.bool true)], args := [d] }
  | _ => none }
def fnInsGetRow : OpenClaim := { program := "ytcobkligpdaanaa", sum := "f5fafc200f83dfcb910d9e9f75ab498c5eb80a47130ef1b070d7a47893301287", func := "loop.example/steerage/laws.FnInsGet", spec := "fnInsGet", recurses := true, apart := false }
def FnInsGetSaid : Prop := fnInsGetRow.holds Try.pinned (OpenSpec.ofChange fnInsGetSpec)

/-- ITS FALSE NEIGHBOUR: 'it returns false'. Refute it at one input. -/
def fnInsGetWrong : ChangeSpec := { name := "fnInsGet", fn := fun _ => fun
  | [d] => { results := [.lit (.bool false)], args := [d] }
  | _ => none }
def FnInsGetWrongFalsely : Prop := fnInsGetRow.holds Try.pinned (OpenSpec.ofChange fnInsGetWrong)

/-- 'laws.FnProgPut': WHATEVER THE INPUT: true; the input reads as it did. -/
def fnProgPutSpec : ChangeSpec := { name := "fnProgPut", fn := fun _ => fun
  | [d] => { results := [.lit (.bool true)], args := [d] }
  | _ => none }
def fnProgPutRow : OpenClaim := { program := "ytcobkligpdaanaa", sum := "f5fafc200f83dfcb910d9e9f75ab498c5eb80a47130ef1b070d7a47893301287", func := "loop.example/steerage/laws.FnProgPut", spec := "fnProgPut", inPlace := ["internal/abi.NoEscape"], recurses := true, apart := false }
def FnProgPutSaid : Prop := fnProgPutRow.holds Try.pinned (OpenSpec.ofChange fnProgPutSpec)

/-- ITS FALSE NEIGHBOUR: 'it returns false'. Refute it at one input. -/
def fnProgPutWrong : ChangeSpec := { name := "fnProgPut", fn := fun _ => fun
  | [d] => { results := [.lit (.bool false)], args := [d] }
  | _ => none }
def FnProgPutWrongFalsely : Prop := fnProgPutRow.holds Try.pinned (OpenSpec.ofChange fnProgPutWrong)

/-- 'laws.FnProgGet': WHATEVER THE INPUT: true; the input reads as it did. -/
def fnProgGetSpec : ChangeSpec := { name := "fnProgGet", fn := fun _ => fun
  | [d] => { results := [.lit (.bool true)], args := [d] }
  | _ => none }
def fnProgGetRow : OpenClaim := { program := "ytcobkligpdaanaa", sum := "f5fafc200f83dfcb910d9e9f75ab498c5eb80a47130ef1b070d7a47893301287", func := "loop.example/steerage/laws.FnProgGet", spec := "fnProgGet", inPlace := ["internal/abi.NoEscape"], recurses := true, apart := false }
def FnProgGetSaid : Prop := fnProgGetRow.holds Try.pinned (OpenSpec.ofChange fnProgGetSpec)

/-- ITS FALSE NEIGHBOUR: 'it returns false'. Refute it at one input. -/
def fnProgGetWrong : ChangeSpec := { name := "fnProgGet", fn := fun _ => fun
  | [d] => { results := [.lit (.bool false)], args := [d] }
  | _ => none }
def FnProgGetWrongFalsely : Prop := fnProgGetRow.holds Try.pinned (OpenSpec.ofChange fnProgGetWrong)

/-- 'laws.FnTableLook': WHATEVER THE INPUT: true; the input reads as it did. -/
def fnTableLookSpec : ChangeSpec := { name := "fnTableLook", fn := fun _ => fun
  | [d] => { results := [.lit (.bool true)], args := [d] }
  | _ => none }
def fnTableLookRow : OpenClaim := { program := "ytcobkligpdaanaa", sum := "f5fafc200f83dfcb910d9e9f75ab498c5eb80a47130ef1b070d7a47893301287", func := "loop.example/steerage/laws.FnTableLook", spec := "fnTableLook", apart := false }
def FnTableLookSaid : Prop := fnTableLookRow.holds Try.pinned (OpenSpec.ofChange fnTableLookSpec)

/-- ITS FALSE NEIGHBOUR: 'it returns false'. Refute it at one input. -/
def fnTableLookWrong : ChangeSpec := { name := "fnTableLook", fn := fun _ => fun
  | [d] => { results := [.lit (.bool false)], args := [d] }
  | _ => none }
def FnTableLookWrongFalsely : Prop := fnTableLookRow.holds Try.pinned (OpenSpec.ofChange fnTableLookWrong)

/-- 'laws.FnTableNext': WHATEVER THE INPUT: true; the input reads as it did. -/
def fnTableNextSpec : ChangeSpec := { name := "fnTableNext", fn := fun _ => fun
  | [d] => { results := [.lit (.bool true)], args := [d] }
  | _ => none }
def fnTableNextRow : OpenClaim := { program := "ytcobkligpdaanaa", sum := "f5fafc200f83dfcb910d9e9f75ab498c5eb80a47130ef1b070d7a47893301287", func := "loop.example/steerage/laws.FnTableNext", spec := "fnTableNext", apart := false }
def FnTableNextSaid : Prop := fnTableNextRow.holds Try.pinned (OpenSpec.ofChange fnTableNextSpec)

/-- ITS FALSE NEIGHBOUR: 'it returns false'. Refute it at one input. -/
def fnTableNextWrong : ChangeSpec := { name := "fnTableNext", fn := fun _ => fun
  | [d] => { results := [.lit (.bool false)], args := [d] }
  | _ => none }
def FnTableNextWrongFalsely : Prop := fnTableNextRow.holds Try.pinned (OpenSpec.ofChange fnTableNextWrong)

/- THE SECOND FORM. 'bulk': how many values and letters a reading holds, each counted each time it is reached (what is shared counts as often as it is met; a slice's spare places count too). A statement '..UptoSaid' is the law's where the arguments, and the package variables that the reading takes, are together of bulk at most 1048576: NARROWER than '..Said'. Prove '..Said' where nothing that the law and all that it calls make is longer than what came in: it says more and counts as full. Else prove '..UptoSaid'. A law counts once. -/
mutual
def uptoBulk {H : Type} : DataW H → Nat
  | .lit (.string bytes) => bytes.length + 1
  | .lit _ => 1
  | .nil => 1
  | .ptr d => uptoBulk d + 1
  | .slice elems spare => uptoBulkAll elems + uptoBulkAll spare + 1
  | .agg parts => uptoBulkAll parts + 1
  | .iface _ d => uptoBulk d + 1
  | .map entries => uptoBulkEntries entries + 1
  | .held _ => 1
def uptoBulkAll {H : Type} : List (DataW H) → Nat
  | [] => 0
  | d :: r => uptoBulk d + uptoBulkAll r
def uptoBulkEntries {H : Type} : List (Lit × DataW H) → Nat
  | [] => 0
  | x :: r => uptoBulkEntry x + uptoBulkEntries r
def uptoBulkEntry {H : Type} : Lit × DataW H → Nat
  | (.string bytes, d) => bytes.length + uptoBulk d + 1
  | (_, d) => uptoBulk d + 1
 end
def uptoSmall : (H : Type) → List (DataW H) → Bool := fun _ ds => decide (uptoBulkAll ds ≤ 1048576)
def OpenSpec.upto (s : _root_.Go.ChangeSpec) : _root_.Go.OpenSpec := { _root_.Go.OpenSpec.ofChange s with cond := some uptoSmall }

/-- 'laws.FnMeetIn', WHERE WHAT IT READS IS OF BULK AT MOST 1048576: true; the input reads as it did. -/
def fnMeetInUptoRow : OpenClaim := { program := "ytcobkligpdaanaa", sum := "f5fafc200f83dfcb910d9e9f75ab498c5eb80a47130ef1b070d7a47893301287", func := "loop.example/steerage/laws.FnMeetIn", spec := "fnMeetIn", apart := false, narrowed := true }
def FnMeetInUptoSaid : Prop := fnMeetInUptoRow.holds Try.pinned (OpenSpec.upto fnMeetInSpec)

/-- 'laws.FnMeet', WHERE WHAT IT READS IS OF BULK AT MOST 1048576: true; the input reads as it did. -/
def fnMeetUptoRow : OpenClaim := { program := "ytcobkligpdaanaa", sum := "f5fafc200f83dfcb910d9e9f75ab498c5eb80a47130ef1b070d7a47893301287", func := "loop.example/steerage/laws.FnMeet", spec := "fnMeet", apart := false, narrowed := true }
def FnMeetUptoSaid : Prop := fnMeetUptoRow.holds Try.pinned (OpenSpec.upto fnMeetSpec)

/-- 'laws.FnOfOne', WHERE WHAT IT READS IS OF BULK AT MOST 1048576: true; the input reads as it did. -/
def fnOfOneUptoRow : OpenClaim := { program := "ytcobkligpdaanaa", sum := "f5fafc200f83dfcb910d9e9f75ab498c5eb80a47130ef1b070d7a47893301287", func := "loop.example/steerage/laws.FnOfOne", spec := "fnOfOne", apart := false, narrowed := true }
def FnOfOneUptoSaid : Prop := fnOfOneUptoRow.holds Try.pinned (OpenSpec.upto fnOfOneSpec)

/-- 'laws.FnInsPut', WHERE WHAT IT READS IS OF BULK AT MOST 1048576: true; the input reads as it did. -/
def fnInsPutUptoRow : OpenClaim := { program := "ytcobkligpdaanaa", sum := "f5fafc200f83dfcb910d9e9f75ab498c5eb80a47130ef1b070d7a47893301287", func := "loop.example/steerage/laws.FnInsPut", spec := "fnInsPut", recurses := true, apart := false, narrowed := true }
def FnInsPutUptoSaid : Prop := fnInsPutUptoRow.holds Try.pinned (OpenSpec.upto fnInsPutSpec)

/-- 'laws.FnForm', WHERE WHAT IT READS IS OF BULK AT MOST 1048576: true; the input reads as it did. -/
def fnFormUptoRow : OpenClaim := { program := "ytcobkligpdaanaa", sum := "f5fafc200f83dfcb910d9e9f75ab498c5eb80a47130ef1b070d7a47893301287", func := "loop.example/steerage/laws.FnForm", spec := "fnForm", recurses := true, apart := false, narrowed := true }
def FnFormUptoSaid : Prop := fnFormUptoRow.holds Try.pinned (OpenSpec.upto fnFormSpec)

/-- 'laws.FnInsGet', WHERE WHAT IT READS IS OF BULK AT MOST 1048576: true; the input reads as it did. -/
def fnInsGetUptoRow : OpenClaim := { program := "ytcobkligpdaanaa", sum := "f5fafc200f83dfcb910d9e9f75ab498c5eb80a47130ef1b070d7a47893301287", func := "loop.example/steerage/laws.FnInsGet", spec := "fnInsGet", recurses := true, apart := false, narrowed := true }
def FnInsGetUptoSaid : Prop := fnInsGetUptoRow.holds Try.pinned (OpenSpec.upto fnInsGetSpec)

/-- 'laws.FnProgPut', WHERE WHAT IT READS IS OF BULK AT MOST 1048576: true; the input reads as it did. -/
def fnProgPutUptoRow : OpenClaim := { program := "ytcobkligpdaanaa", sum := "f5fafc200f83dfcb910d9e9f75ab498c5eb80a47130ef1b070d7a47893301287", func := "loop.example/steerage/laws.FnProgPut", spec := "fnProgPut", inPlace := ["internal/abi.NoEscape"], recurses := true, apart := false, narrowed := true }
def FnProgPutUptoSaid : Prop := fnProgPutUptoRow.holds Try.pinned (OpenSpec.upto fnProgPutSpec)

/-- 'laws.FnProgGet', WHERE WHAT IT READS IS OF BULK AT MOST 1048576: true; the input reads as it did. -/
def fnProgGetUptoRow : OpenClaim := { program := "ytcobkligpdaanaa", sum := "f5fafc200f83dfcb910d9e9f75ab498c5eb80a47130ef1b070d7a47893301287", func := "loop.example/steerage/laws.FnProgGet", spec := "fnProgGet", inPlace := ["internal/abi.NoEscape"], recurses := true, apart := false, narrowed := true }
def FnProgGetUptoSaid : Prop := fnProgGetUptoRow.holds Try.pinned (OpenSpec.upto fnProgGetSpec)

/-- 'laws.FnTableLook', WHERE WHAT IT READS IS OF BULK AT MOST 1048576: true; the input reads as it did. -/
def fnTableLookUptoRow : OpenClaim := { program := "ytcobkligpdaanaa", sum := "f5fafc200f83dfcb910d9e9f75ab498c5eb80a47130ef1b070d7a47893301287", func := "loop.example/steerage/laws.FnTableLook", spec := "fnTableLook", apart := false, narrowed := true }
def FnTableLookUptoSaid : Prop := fnTableLookUptoRow.holds Try.pinned (OpenSpec.upto fnTableLookSpec)

/-- 'laws.FnTableNext', WHERE WHAT IT READS IS OF BULK AT MOST 1048576: true; the input reads as it did. -/
def fnTableNextUptoRow : OpenClaim := { program := "ytcobkligpdaanaa", sum := "f5fafc200f83dfcb910d9e9f75ab498c5eb80a47130ef1b070d7a47893301287", func := "loop.example/steerage/laws.FnTableNext", spec := "fnTableNext", apart := false, narrowed := true }
def FnTableNextUptoSaid : Prop := fnTableNextUptoRow.holds Try.pinned (OpenSpec.upto fnTableNextSpec)

end Rows
end Go.Proofs.Ytcobkligpdaanaa
