/-
  No cell of these rows narrows 'for every input' (looked for: loops, veiled, ifaces, maps, wideKeys, modest, calm, conditions, laid).
  DERIVED. THE GIVEN ROWS OF THIS SEAT. 4 by the template 'for every input the law returns true; each argument reads behind the call as it read before'; 0 by the template 'total and deterministic' (their statements: YtdfgaaeieneaoaaTotals.lean).
  GIVEN WITH THE SEED: the statements are not yours to turn. If you find one false, say at which input.
  Laid BY PROGRAM, IN A SANDBOX (cutbox-rows.mjs): the forced cells as the released guide's own fill.sh prints them over the translation c569e44c5e347835… (all of the seat's roots in one cut). By AI agents, Wed Nov 11 2026. No macro, syntax, notation, axiom, sorry.
-/
import Derived.Test.YtdfgaaeieneaoaaChecked
import GoSem.Claim
import GoSem.ClaimJoined
import GoSem.ClaimMapViews
import Derived.JoinedTies
import Derived.KernelRfl
namespace Go.Proofs.Ytdfgaaeieneaoaa
/- THE CELL 'sum', in the pinned program and in every row, IS THE sha256 OF THE DUMP (.gsa) THAT YtdfgaaeieneaoaaProg.lean LOADS. Nothing in Lean hashes anything: it is a label: what it is worth is what the hold of that sum in a sandbox is worth. -/
noncomputable def Try.pinned : Pinned := { name := "ytdfgaaeieneaoaa", sum := "c569e44c5e34783541c493d7a201bc095189d4a5957813ed4ab651fd0fa6870c", checked := Try.checked }
namespace Rows
def none {H : Type} : Left H := { results := [], args := [] }

/-- 'laws.FnExactProgPut': WHATEVER THE INPUT: true; the input reads as it did. -/
def fnExactProgPutSpec : ChangeSpec := { name := "fnExactProgPut", fn := fun _ => fun
  | [d] => { results := [.lit (.bool true)], args := [d] }
  | _ => none }
def fnExactProgPutRow : OpenClaim := { program := "ytdfgaaeieneaoaa", sum := "c569e44c5e34783541c493d7a201bc095189d4a5957813ed4ab651fd0fa6870c", func := "loop.example/steerage/laws.FnExactProgPut", spec := "fnExactProgPut", inPlace := ["internal/abi.NoEscape"], apart := false }
def FnExactProgPutSaid : Prop := fnExactProgPutRow.holds Try.pinned (OpenSpec.ofChange fnExactProgPutSpec)

/-- ITS FALSE NEIGHBOUR: 'it returns false'. Refute it at one input. -/
def fnExactProgPutWrong : ChangeSpec := { name := "fnExactProgPut", fn := fun _ => fun
  | [d] => { results := [.lit (.bool false)], args := [d] }
  | _ => none }
def FnExactProgPutWrongFalsely : Prop := fnExactProgPutRow.holds Try.pinned (OpenSpec.ofChange fnExactProgPutWrong)

/-- 'laws.FnExactProgGet': WHATEVER THE INPUT: true; the input reads as it did. -/
def fnExactProgGetSpec : ChangeSpec := { name := "fnExactProgGet", fn := fun _ => fun
  | [d] => { results := [.lit (.bool true)], args := [d] }
  | _ => none }
def fnExactProgGetRow : OpenClaim := { program := "ytdfgaaeieneaoaa", sum := "c569e44c5e34783541c493d7a201bc095189d4a5957813ed4ab651fd0fa6870c", func := "loop.example/steerage/laws.FnExactProgGet", spec := "fnExactProgGet", apart := false }
def FnExactProgGetSaid : Prop := fnExactProgGetRow.holds Try.pinned (OpenSpec.ofChange fnExactProgGetSpec)

/-- ITS FALSE NEIGHBOUR: 'it returns false'. Refute it at one input. -/
def fnExactProgGetWrong : ChangeSpec := { name := "fnExactProgGet", fn := fun _ => fun
  | [d] => { results := [.lit (.bool false)], args := [d] }
  | _ => none }
def FnExactProgGetWrongFalsely : Prop := fnExactProgGetRow.holds Try.pinned (OpenSpec.ofChange fnExactProgGetWrong)

/-- 'laws.FnProgPut': WHATEVER THE INPUT: true; the input reads as it did. -/
def fnProgPutSpec : ChangeSpec := { name := "fnProgPut", fn := fun _ => fun
  | [d] => { results := [.lit (.bool true)], args := [d] }
  | _ => none }
def fnProgPutRow : OpenClaim := { program := "ytdfgaaeieneaoaa", sum := "c569e44c5e34783541c493d7a201bc095189d4a5957813ed4ab651fd0fa6870c", func := "loop.example/steerage/laws.FnProgPut", spec := "fnProgPut", inPlace := ["internal/abi.NoEscape"], recurses := true, apart := false }
def FnProgPutSaid : Prop := fnProgPutRow.holds Try.pinned (OpenSpec.ofChange fnProgPutSpec)

/-- ITS FALSE NEIGHBOUR: 'it returns false'. Refute it at one input. -/
def fnProgPutWrong : ChangeSpec := { name := "fnProgPut", fn := fun _ => fun
  | [d] => { results := [.lit (.bool false)], args := [d] }
  | _ => none }
def FnProgPutWrongFalsely : Prop := fnProgPutRow.holds Try.pinned (OpenSpec.ofChange fnProgPutWrong)

/-- 'laws.FnProgGet': WHATEVER THE INPUT: true; the input reads as it did. -/
def fnProgGetSpec : ChangeSpec := { name := "fnProgGet", fn := fun _ => fun
  | [d] => { results := [.lit (.bool true)], args := [d] }
  | _ => none }
def fnProgGetRow : OpenClaim := { program := "ytdfgaaeieneaoaa", sum := "c569e44c5e34783541c493d7a201bc095189d4a5957813ed4ab651fd0fa6870c", func := "loop.example/steerage/laws.FnProgGet", spec := "fnProgGet", inPlace := ["internal/abi.NoEscape"], recurses := true, apart := false }
def FnProgGetSaid : Prop := fnProgGetRow.holds Try.pinned (OpenSpec.ofChange fnProgGetSpec)

/-- ITS FALSE NEIGHBOUR: 'it returns false'. Refute it at one input. -/
def fnProgGetWrong : ChangeSpec := { name := "fnProgGet", fn := fun _ => fun
  | [d] => { results := [.lit (.bool false)], args := [d] }
  | _ => none }
def FnProgGetWrongFalsely : Prop := fnProgGetRow.holds Try.pinned (OpenSpec.ofChange fnProgGetWrong)

/- THE SECOND FORM. 'bulk': how many values and letters a reading holds, each counted each time it is reached (what is shared counts as often as it is met; a slice's spare places count too). A statement '..UptoSaid' is the law's where the arguments, and the package variables that the reading takes, are together of bulk at most 1048576: NARROWER than '..Said'. Prove '..Said' where nothing that the law and all that it calls make is longer than what came in: it says more and counts as full. Else prove '..UptoSaid'. A law counts once. -/
mutual
def uptoBulk {H : Type} : DataW H → Nat
  | .lit (.string bytes) => bytes.length + 1
  | .lit _ => 1
  | .nil => 1
  | .ptr d => uptoBulk d + 1
  | .slice elems spare => uptoBulkAll elems + uptoBulkAll spare + 1
  | .agg parts => uptoBulkAll parts + 1
  | .iface _ d => uptoBulk d + 1
  | .map entries => uptoBulkEntries entries + 1
  | .held _ => 1
def uptoBulkAll {H : Type} : List (DataW H) → Nat
  | [] => 0
  | d :: r => uptoBulk d + uptoBulkAll r
def uptoBulkEntries {H : Type} : List (Lit × DataW H) → Nat
  | [] => 0
  | x :: r => uptoBulkEntry x + uptoBulkEntries r
def uptoBulkEntry {H : Type} : Lit × DataW H → Nat
  | (.string bytes, d) => bytes.length + uptoBulk d + 1
  | (_, d) => uptoBulk d + 1
 end
def uptoSmall : (H : Type) → List (DataW H) → Bool := fun _ ds => decide (uptoBulkAll ds ≤ 1048576)
def OpenSpec.upto (s : _root_.Go.ChangeSpec) : _root_.Go.OpenSpec := { _root_.Go.OpenSpec.ofChange s with cond := some uptoSmall }

/-- 'laws.FnExactProgPut', WHERE WHAT IT READS IS OF BULK AT MOST 1048576: true; the input reads as it did. -/
def fnExactProgPutUptoRow : OpenClaim := { program := "ytdfgaaeieneaoaa", sum := "c569e44c5e34783541c493d7a201bc095189d4a5957813ed4ab651fd0fa6870c", func := "loop.example/steerage/laws.FnExactProgPut", spec := "fnExactProgPut", inPlace := ["internal/abi.NoEscape"], apart := false, narrowed := true }
def FnExactProgPutUptoSaid : Prop := fnExactProgPutUptoRow.holds Try.pinned (OpenSpec.upto fnExactProgPutSpec)

/-- 'laws.FnExactProgGet', WHERE WHAT IT READS IS OF BULK AT MOST 1048576: true; the input reads as it did. -/
def fnExactProgGetUptoRow : OpenClaim := { program := "ytdfgaaeieneaoaa", sum := "c569e44c5e34783541c493d7a201bc095189d4a5957813ed4ab651fd0fa6870c", func := "loop.example/steerage/laws.FnExactProgGet", spec := "fnExactProgGet", apart := false, narrowed := true }
def FnExactProgGetUptoSaid : Prop := fnExactProgGetUptoRow.holds Try.pinned (OpenSpec.upto fnExactProgGetSpec)

/-- 'laws.FnProgPut', WHERE WHAT IT READS IS OF BULK AT MOST 1048576: true; the input reads as it did. -/
def fnProgPutUptoRow : OpenClaim := { program := "ytdfgaaeieneaoaa", sum := "c569e44c5e34783541c493d7a201bc095189d4a5957813ed4ab651fd0fa6870c", func := "loop.example/steerage/laws.FnProgPut", spec := "fnProgPut", inPlace := ["internal/abi.NoEscape"], recurses := true, apart := false, narrowed := true }
def FnProgPutUptoSaid : Prop := fnProgPutUptoRow.holds Try.pinned (OpenSpec.upto fnProgPutSpec)

/-- 'laws.FnProgGet', WHERE WHAT IT READS IS OF BULK AT MOST 1048576: true; the input reads as it did. -/
def fnProgGetUptoRow : OpenClaim := { program := "ytdfgaaeieneaoaa", sum := "c569e44c5e34783541c493d7a201bc095189d4a5957813ed4ab651fd0fa6870c", func := "loop.example/steerage/laws.FnProgGet", spec := "fnProgGet", inPlace := ["internal/abi.NoEscape"], recurses := true, apart := false, narrowed := true }
def FnProgGetUptoSaid : Prop := fnProgGetUptoRow.holds Try.pinned (OpenSpec.upto fnProgGetSpec)

end Rows
end Go.Proofs.Ytdfgaaeieneaoaa
