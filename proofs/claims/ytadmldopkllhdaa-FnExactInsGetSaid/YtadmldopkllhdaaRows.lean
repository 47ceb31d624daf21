/-
  No cell of these rows narrows 'for every input' (looked for: loops, veiled, ifaces, maps, wideKeys, modest, calm, conditions, laid).
  DERIVED. THE GIVEN ROWS OF THIS SEAT. 11 by the template 'for every input the law returns true; each argument reads behind the call as it read before'; 0 by the template 'total and deterministic' (their statements: YtadmldopkllhdaaTotals.lean).
  GIVEN WITH THE SEED: the statements are not yours to turn. If you find one false, say at which input.
  Laid BY PROGRAM, IN A SANDBOX (cutbox-rows.mjs): the forced cells as the released guide's own fill.sh prints them over the translation 8bf3c4fb8b221de5… (all of the seat's roots in one cut). By AI agents, Wed Nov 11 2026. No macro, syntax, notation, axiom, sorry.
-/
import Derived.Test.YtadmldopkllhdaaChecked
import GoSem.Claim
import GoSem.ClaimJoined
import GoSem.ClaimMapViews
import Derived.JoinedTies
import Derived.KernelRfl
namespace Go.Proofs.Ytadmldopkllhdaa
/- THE CELL 'sum', in the pinned program and in every row, IS THE sha256 OF THE DUMP (.gsa) THAT YtadmldopkllhdaaProg.lean LOADS. Nothing in Lean hashes anything: it is a label: what it is worth is what the hold of that sum in a sandbox is worth. -/
noncomputable def Try.pinned : Pinned := { name := "ytadmldopkllhdaa", sum := "8bf3c4fb8b221de5f1ac7e1a6befec99425527c8015da459ef202443c2a4db85", checked := Try.checked }
namespace Rows
def none {H : Type} : Left H := { results := [], args := [] }

/-- 'laws.FnExactConstants': WHATEVER THE INPUT: true; the input reads as it did. -/
def fnExactConstantsSpec : ChangeSpec := { name := "fnExactConstants", fn := fun _ => fun
  | [] => { results := [.lit (.bool true)], args := [] }
  | _ => none }
def fnExactConstantsRow : OpenClaim := { program := "ytadmldopkllhdaa", sum := "8bf3c4fb8b221de5f1ac7e1a6befec99425527c8015da459ef202443c2a4db85", func := "loop.example/steerage/laws.FnExactConstants", spec := "fnExactConstants", apart := false }
def FnExactConstantsSaid : Prop := fnExactConstantsRow.holds Try.pinned (OpenSpec.ofChange fnExactConstantsSpec)

/-- ITS FALSE NEIGHBOUR: 'it returns false'. Refute it at one input. -/
def fnExactConstantsWrong : ChangeSpec := { name := "fnExactConstants", fn := fun _ => fun
  | [] => { results := [.lit (.bool false)], args := [] }
  | _ => none }
def FnExactConstantsWrongFalsely : Prop := fnExactConstantsRow.holds Try.pinned (OpenSpec.ofChange fnExactConstantsWrong)

/-- 'laws.FnExactInsOk': WHATEVER THE INPUT: true; the input reads as it did. -/
def fnExactInsOkSpec : ChangeSpec := { name := "fnExactInsOk", fn := fun _ => fun
  | [d] => { results := [.lit (.bool true)], args := [d] }
  | _ => none }
def fnExactInsOkRow : OpenClaim := { program := "ytadmldopkllhdaa", sum := "8bf3c4fb8b221de5f1ac7e1a6befec99425527c8015da459ef202443c2a4db85", func := "loop.example/steerage/laws.FnExactInsOk", spec := "fnExactInsOk", apart := false }
def FnExactInsOkSaid : Prop := fnExactInsOkRow.holds Try.pinned (OpenSpec.ofChange fnExactInsOkSpec)

/-- ITS FALSE NEIGHBOUR: 'it returns false'. Refute it at one input. -/
def fnExactInsOkWrong : ChangeSpec := { name := "fnExactInsOk", fn := fun _ => fun
  | [d] => { results := [.lit (.bool false)], args := [d] }
  | _ => none }
def FnExactInsOkWrongFalsely : Prop := fnExactInsOkRow.holds Try.pinned (OpenSpec.ofChange fnExactInsOkWrong)

/-- 'laws.FnExactInsPut': WHATEVER THE INPUT: true; the input reads as it did. -/
def fnExactInsPutSpec : ChangeSpec := { name := "fnExactInsPut", fn := fun _ => fun
  | [d] => { results := [.lit (.bool true)], args := [d] }
  | _ => none }
def fnExactInsPutRow : OpenClaim := { program := "ytadmldopkllhdaa", sum := "8bf3c4fb8b221de5f1ac7e1a6befec99425527c8015da459ef202443c2a4db85", func := "loop.example/steerage/laws.FnExactInsPut", spec := "fnExactInsPut", apart := false }
def FnExactInsPutSaid : Prop := fnExactInsPutRow.holds Try.pinned (OpenSpec.ofChange fnExactInsPutSpec)

/-- ITS FALSE NEIGHBOUR: 'it returns false'. Refute it at one input. -/
def fnExactInsPutWrong : ChangeSpec := { name := "fnExactInsPut", fn := fun _ => fun
  | [d] => { results := [.lit (.bool false)], args := [d] }
  | _ => none }
def FnExactInsPutWrongFalsely : Prop := fnExactInsPutRow.holds Try.pinned (OpenSpec.ofChange fnExactInsPutWrong)

/-- 'laws.FnExactInsGet': WHATEVER THE INPUT: true; the input reads as it did. -/
def fnExactInsGetSpec : ChangeSpec := { name := "fnExactInsGet", fn := fun _ => fun
  | [d] => { results := [.lit (.bool true)], args := [d] }
  | _ => none }
def fnExactInsGetRow : OpenClaim := { program := "ytadmldopkllhdaa", sum := "8bf3c4fb8b221de5f1ac7e1a6befec99425527c8015da459ef202443c2a4db85", func := "loop.example/steerage/laws.FnExactInsGet", spec := "fnExactInsGet", apart := false }
def FnExactInsGetSaid : Prop := fnExactInsGetRow.holds Try.pinned (OpenSpec.ofChange fnExactInsGetSpec)

/-- ITS FALSE NEIGHBOUR: 'it returns false'. Refute it at one input. -/
def fnExactInsGetWrong : ChangeSpec := { name := "fnExactInsGet", fn := fun _ => fun
  | [d] => { results := [.lit (.bool false)], args := [d] }
  | _ => none }
def FnExactInsGetWrongFalsely : Prop := fnExactInsGetRow.holds Try.pinned (OpenSpec.ofChange fnExactInsGetWrong)

/-- 'laws.FnExactProgForm': WHATEVER THE INPUT: true; the input reads as it did. -/
def fnExactProgFormSpec : ChangeSpec := { name := "fnExactProgForm", fn := fun _ => fun
  | [d] => { results := [.lit (.bool true)], args := [d] }
  | _ => none }
def fnExactProgFormRow : OpenClaim := { program := "ytadmldopkllhdaa", sum := "8bf3c4fb8b221de5f1ac7e1a6befec99425527c8015da459ef202443c2a4db85", func := "loop.example/steerage/laws.FnExactProgForm", spec := "fnExactProgForm", apart := false }
def FnExactProgFormSaid : Prop := fnExactProgFormRow.holds Try.pinned (OpenSpec.ofChange fnExactProgFormSpec)

/-- ITS FALSE NEIGHBOUR: 'it returns false'. Refute it at one input. -/
def fnExactProgFormWrong : ChangeSpec := { name := "fnExactProgForm", fn := fun _ => fun
  | [d] => { results := [.lit (.bool false)], args := [d] }
  | _ => none }
def FnExactProgFormWrongFalsely : Prop := fnExactProgFormRow.holds Try.pinned (OpenSpec.ofChange fnExactProgFormWrong)

/-- 'laws.FnExactProgPut': WHATEVER THE INPUT: true; the input reads as it did. -/
def fnExactProgPutSpec : ChangeSpec := { name := "fnExactProgPut", fn := fun _ => fun
  | [d] => { results := [.lit (.bool true)], args := [d] }
  | _ => none }
def fnExactProgPutRow : OpenClaim := { program := "ytadmldopkllhdaa", sum := "8bf3c4fb8b221de5f1ac7e1a6befec99425527c8015da459ef202443c2a4db85", func := "loop.example/steerage/laws.FnExactProgPut", spec := "fnExactProgPut", inPlace := ["internal/abi.NoEscape"], apart := false }
def FnExactProgPutSaid : Prop := fnExactProgPutRow.holds Try.pinned (OpenSpec.ofChange fnExactProgPutSpec)

/-- ITS FALSE NEIGHBOUR: 'it returns false'. Refute it at one input. -/
def fnExactProgPutWrong : ChangeSpec := { name := "fnExactProgPut", fn := fun _ => fun
  | [d] => { results := [.lit (.bool false)], args := [d] }
  | _ => none }
def FnExactProgPutWrongFalsely : Prop := fnExactProgPutRow.holds Try.pinned (OpenSpec.ofChange fnExactProgPutWrong)

/-- 'laws.FnExactProgGet': WHATEVER THE INPUT: true; the input reads as it did. -/
def fnExactProgGetSpec : ChangeSpec := { name := "fnExactProgGet", fn := fun _ => fun
  | [d] => { results := [.lit (.bool true)], args := [d] }
  | _ => none }
def fnExactProgGetRow : OpenClaim := { program := "ytadmldopkllhdaa", sum := "8bf3c4fb8b221de5f1ac7e1a6befec99425527c8015da459ef202443c2a4db85", func := "loop.example/steerage/laws.FnExactProgGet", spec := "fnExactProgGet", apart := false }
def FnExactProgGetSaid : Prop := fnExactProgGetRow.holds Try.pinned (OpenSpec.ofChange fnExactProgGetSpec)

/-- ITS FALSE NEIGHBOUR: 'it returns false'. Refute it at one input. -/
def fnExactProgGetWrong : ChangeSpec := { name := "fnExactProgGet", fn := fun _ => fun
  | [d] => { results := [.lit (.bool false)], args := [d] }
  | _ => none }
def FnExactProgGetWrongFalsely : Prop := fnExactProgGetRow.holds Try.pinned (OpenSpec.ofChange fnExactProgGetWrong)

/-- 'laws.FnExactTableOk': WHATEVER THE INPUT: true; the input reads as it did. -/
def fnExactTableOkSpec : ChangeSpec := { name := "fnExactTableOk", fn := fun _ => fun
  | [d] => { results := [.lit (.bool true)], args := [d] }
  | _ => none }
def fnExactTableOkRow : OpenClaim := { program := "ytadmldopkllhdaa", sum := "8bf3c4fb8b221de5f1ac7e1a6befec99425527c8015da459ef202443c2a4db85", func := "loop.example/steerage/laws.FnExactTableOk", spec := "fnExactTableOk", apart := false }
def FnExactTableOkSaid : Prop := fnExactTableOkRow.holds Try.pinned (OpenSpec.ofChange fnExactTableOkSpec)

/-- ITS FALSE NEIGHBOUR: 'it returns false'. Refute it at one input. -/
def fnExactTableOkWrong : ChangeSpec := { name := "fnExactTableOk", fn := fun _ => fun
  | [d] => { results := [.lit (.bool false)], args := [d] }
  | _ => none }
def FnExactTableOkWrongFalsely : Prop := fnExactTableOkRow.holds Try.pinned (OpenSpec.ofChange fnExactTableOkWrong)

/-- 'laws.FnExactTableLook': WHATEVER THE INPUT: true; the input reads as it did. -/
def fnExactTableLookSpec : ChangeSpec := { name := "fnExactTableLook", fn := fun _ => fun
  | [d1, d2] => { results := [.lit (.bool true)], args := [d1, d2] }
  | _ => none }
def fnExactTableLookRow : OpenClaim := { program := "ytadmldopkllhdaa", sum := "8bf3c4fb8b221de5f1ac7e1a6befec99425527c8015da459ef202443c2a4db85", func := "loop.example/steerage/laws.FnExactTableLook", spec := "fnExactTableLook", apart := false }
def FnExactTableLookSaid : Prop := fnExactTableLookRow.holds Try.pinned (OpenSpec.ofChange fnExactTableLookSpec)

/-- ITS FALSE NEIGHBOUR: 'it returns false'. Refute it at one input. -/
def fnExactTableLookWrong : ChangeSpec := { name := "fnExactTableLook", fn := fun _ => fun
  | [d1, d2] => { results := [.lit (.bool false)], args := [d1, d2] }
  | _ => none }
def FnExactTableLookWrongFalsely : Prop := fnExactTableLookRow.holds Try.pinned (OpenSpec.ofChange fnExactTableLookWrong)

/-- 'laws.FnExactTableNext': WHATEVER THE INPUT: true; the input reads as it did. -/
def fnExactTableNextSpec : ChangeSpec := { name := "fnExactTableNext", fn := fun _ => fun
  | [d1, d2] => { results := [.lit (.bool true)], args := [d1, d2] }
  | _ => none }
def fnExactTableNextRow : OpenClaim := { program := "ytadmldopkllhdaa", sum := "8bf3c4fb8b221de5f1ac7e1a6befec99425527c8015da459ef202443c2a4db85", func := "loop.example/steerage/laws.FnExactTableNext", spec := "fnExactTableNext", apart := false }
def FnExactTableNextSaid : Prop := fnExactTableNextRow.holds Try.pinned (OpenSpec.ofChange fnExactTableNextSpec)

/-- ITS FALSE NEIGHBOUR: 'it returns false'. Refute it at one input. -/
def fnExactTableNextWrong : ChangeSpec := { name := "fnExactTableNext", fn := fun _ => fun
  | [d1, d2] => { results := [.lit (.bool false)], args := [d1, d2] }
  | _ => none }
def FnExactTableNextWrongFalsely : Prop := fnExactTableNextRow.holds Try.pinned (OpenSpec.ofChange fnExactTableNextWrong)

/-- 'laws.FnExactStartOk': WHATEVER THE INPUT: true; the input reads as it did. -/
def fnExactStartOkSpec : ChangeSpec := { name := "fnExactStartOk", fn := fun _ => fun
  | [d] => { results := [.lit (.bool true)], args := [d] }
  | _ => none }
def fnExactStartOkRow : OpenClaim := { program := "ytadmldopkllhdaa", sum := "8bf3c4fb8b221de5f1ac7e1a6befec99425527c8015da459ef202443c2a4db85", func := "loop.example/steerage/laws.FnExactStartOk", spec := "fnExactStartOk", unfollowed := true, recurses := true, apart := false }
def FnExactStartOkSaid : Prop := fnExactStartOkRow.holds Try.pinned (OpenSpec.ofChange fnExactStartOkSpec)

/-- ITS FALSE NEIGHBOUR: 'it returns false'. Refute it at one input. -/
def fnExactStartOkWrong : ChangeSpec := { name := "fnExactStartOk", fn := fun _ => fun
  | [d] => { results := [.lit (.bool false)], args := [d] }
  | _ => none }
def FnExactStartOkWrongFalsely : Prop := fnExactStartOkRow.holds Try.pinned (OpenSpec.ofChange fnExactStartOkWrong)

/- THE SECOND FORM. 'bulk': how many values and letters a reading holds, each counted each time it is reached (what is shared counts as often as it is met; a slice's spare places count too). A statement '..UptoSaid' is the law's where the arguments, and the package variables that the reading takes, are together of bulk at most 1048576: NARROWER than '..Said'. Prove '..Said' where nothing that the law and all that it calls make is longer than what came in: it says more and counts as full. Else prove '..UptoSaid'. A law counts once. -/
mutual
def uptoBulk {H : Type} : DataW H → Nat
  | .lit (.string bytes) => bytes.length + 1
  | .lit _ => 1
  | .nil => 1
  | .ptr d => uptoBulk d + 1
  | .slice elems spare => uptoBulkAll elems + uptoBulkAll spare + 1
  | .agg parts => uptoBulkAll parts + 1
  | .iface _ d => uptoBulk d + 1
  | .map entries => uptoBulkEntries entries + 1
  | .held _ => 1
def uptoBulkAll {H : Type} : List (DataW H) → Nat
  | [] => 0
  | d :: r => uptoBulk d + uptoBulkAll r
def uptoBulkEntries {H : Type} : List (Lit × DataW H) → Nat
  | [] => 0
  | x :: r => uptoBulkEntry x + uptoBulkEntries r
def uptoBulkEntry {H : Type} : Lit × DataW H → Nat
  | (.string bytes, d) => bytes.length + uptoBulk d + 1
  | (_, d) => uptoBulk d + 1
 end
def uptoSmall : (H : Type) → List (DataW H) → Bool := fun _ ds => decide (uptoBulkAll ds ≤ 1048576)
def OpenSpec.upto (s : _root_.Go.ChangeSpec) : _root_.Go.OpenSpec := { _root_.Go.OpenSpec.ofChange s with cond := some uptoSmall }

/-- 'laws.FnExactConstants', WHERE WHAT IT READS IS OF BULK AT MOST 1048576: true; the input reads as it did. -/
def fnExactConstantsUptoRow : OpenClaim := { program := "ytadmldopkllhdaa", sum := "8bf3c4fb8b221de5f1ac7e1a6befec99425527c8015da459ef202443c2a4db85", func := "loop.example/steerage/laws.FnExactConstants", spec := "fnExactConstants", apart := false, narrowed := true }
def FnExactConstantsUptoSaid : Prop := fnExactConstantsUptoRow.holds Try.pinned (OpenSpec.upto fnExactConstantsSpec)

/-- 'laws.FnExactInsOk', WHERE WHAT IT READS IS OF BULK AT MOST 1048576: true; the input reads as it did. -/
def fnExactInsOkUptoRow : OpenClaim := { program := "ytadmldopkllhdaa", sum := "8bf3c4fb8b221de5f1ac7e1a6befec99425527c8015da459ef202443c2a4db85", func := "loop.example/steerage/laws.FnExactInsOk", spec := "fnExactInsOk", apart := false, narrowed := true }
def FnExactInsOkUptoSaid : Prop := fnExactInsOkUptoRow.holds Try.pinned (OpenSpec.upto fnExactInsOkSpec)

/-- 'laws.FnExactInsPut', WHERE WHAT IT READS IS OF BULK AT MOST 1048576: true; the input reads as it did. -/
def fnExactInsPutUptoRow : OpenClaim := { program := "ytadmldopkllhdaa", sum := "8bf3c4fb8b221de5f1ac7e1a6befec99425527c8015da459ef202443c2a4db85", func := "loop.example/steerage/laws.FnExactInsPut", spec := "fnExactInsPut", apart := false, narrowed := true }
def FnExactInsPutUptoSaid : Prop := fnExactInsPutUptoRow.holds Try.pinned (OpenSpec.upto fnExactInsPutSpec)

/-- 'laws.FnExactInsGet', WHERE WHAT IT READS IS OF BULK AT MOST 1048576: true; the input reads as it did. -/
def fnExactInsGetUptoRow : OpenClaim := { program := "ytadmldopkllhdaa", sum := "8bf3c4fb8b221de5f1ac7e1a6befec99425527c8015da459ef202443c2a4db85", func := "loop.example/steerage/laws.FnExactInsGet", spec := "fnExactInsGet", apart := false, narrowed := true }
def FnExactInsGetUptoSaid : Prop := fnExactInsGetUptoRow.holds Try.pinned (OpenSpec.upto fnExactInsGetSpec)

/-- 'laws.FnExactProgForm', WHERE WHAT IT READS IS OF BULK AT MOST 1048576: true; the input reads as it did. -/
def fnExactProgFormUptoRow : OpenClaim := { program := "ytadmldopkllhdaa", sum := "8bf3c4fb8b221de5f1ac7e1a6befec99425527c8015da459ef202443c2a4db85", func := "loop.example/steerage/laws.FnExactProgForm", spec := "fnExactProgForm", apart := false, narrowed := true }
def FnExactProgFormUptoSaid : Prop := fnExactProgFormUptoRow.holds Try.pinned (OpenSpec.upto fnExactProgFormSpec)

/-- 'laws.FnExactProgPut', WHERE WHAT IT READS IS OF BULK AT MOST 1048576: true; the input reads as it did. -/
def fnExactProgPutUptoRow : OpenClaim := { program := "ytadmldopkllhdaa", sum := "8bf3c4fb8b221de5f1ac7e1a6befec99425527c8015da459ef202443c2a4db85", func := "loop.example/steerage/laws.FnExactProgPut", spec := "fnExactProgPut", inPlace := ["internal/abi.NoEscape"], apart := false, narrowed := true }
def FnExactProgPutUptoSaid : Prop := fnExactProgPutUptoRow.holds Try.pinned (OpenSpec.upto fnExactProgPutSpec)

/-- 'laws.FnExactProgGet', WHERE WHAT IT READS IS OF BULK AT MOST 1048576: true; the input reads as it did. -/
def fnExactProgGetUptoRow : OpenClaim := { program := "ytadmldopkllhdaa", sum := "8bf3c4fb8b221de5f1ac7e1a6befec99425527c8015da459ef202443c2a4db85", func := "loop.example/steerage/laws.FnExactProgGet", spec := "fnExactProgGet", apart := false, narrowed := true }
def FnExactProgGetUptoSaid : Prop := fnExactProgGetUptoRow.holds Try.pinned (OpenSpec.upto fnExactProgGetSpec)

/-- 'laws.FnExactTableOk', WHERE WHAT IT READS IS OF BULK AT MOST 1048576: true; the input reads as it did. -/
def fnExactTableOkUptoRow : OpenClaim := { program := "ytadmldopkllhdaa", sum := "8bf3c4fb8b221de5f1ac7e1a6befec99425527c8015da459ef202443c2a4db85", func := "loop.example/steerage/laws.FnExactTableOk", spec := "fnExactTableOk", apart := false, narrowed := true }
def FnExactTableOkUptoSaid : Prop := fnExactTableOkUptoRow.holds Try.pinned (OpenSpec.upto fnExactTableOkSpec)

/-- 'laws.FnExactTableLook', WHERE WHAT IT READS IS OF BULK AT MOST 1048576: true; the input reads as it did. -/
def fnExactTableLookUptoRow : OpenClaim := { program := "ytadmldopkllhdaa", sum := "8bf3c4fb8b221de5f1ac7e1a6befec99425527c8015da459ef202443c2a4db85", func := "loop.example/steerage/laws.FnExactTableLook", spec := "fnExactTableLook", apart := false, narrowed := true }
def FnExactTableLookUptoSaid : Prop := fnExactTableLookUptoRow.holds Try.pinned (OpenSpec.upto fnExactTableLookSpec)

/-- 'laws.FnExactTableNext', WHERE WHAT IT READS IS OF BULK AT MOST 1048576: true; the input reads as it did. -/
def fnExactTableNextUptoRow : OpenClaim := { program := "ytadmldopkllhdaa", sum := "8bf3c4fb8b221de5f1ac7e1a6befec99425527c8015da459ef202443c2a4db85", func := "loop.example/steerage/laws.FnExactTableNext", spec := "fnExactTableNext", apart := false, narrowed := true }
def FnExactTableNextUptoSaid : Prop := fnExactTableNextUptoRow.holds Try.pinned (OpenSpec.upto fnExactTableNextSpec)

/-- 'laws.FnExactStartOk', WHERE WHAT IT READS IS OF BULK AT MOST 1048576: true; the input reads as it did. -/
def fnExactStartOkUptoRow : OpenClaim := { program := "ytadmldopkllhdaa", sum := "8bf3c4fb8b221de5f1ac7e1a6befec99425527c8015da459ef202443c2a4db85", func := "loop.example/steerage/laws.FnExactStartOk", spec := "fnExactStartOk", unfollowed := true, recurses := true, apart := false, narrowed := true }
def FnExactStartOkUptoSaid : Prop := fnExactStartOkUptoRow.holds Try.pinned (OpenSpec.upto fnExactStartOkSpec)

end Rows
end Go.Proofs.Ytadmldopkllhdaa
