/-
  DERIVED. GIVEN WITH THE SEED: THE CARDS: each row of YtllmbooicobmkaaDoorRows.lean that lists a variable, with what it lists TIED to the program's text (the seventh form; the later family's looks); each row that meets fmt, with fmt's text TOLD by the authors' own Lean function (tested against real Go, not proved from fmt's source: count such statements apart). THE CARD IS WHAT COUNTS. Prove the row's statement (the work); the ties are given (YtllmbooicobmkaaDoorTie.lean); close each card by the builder's one call (the guide's Derived/Test/ToyasCard.lean, 'card_holds'). Laid BY PROGRAM, IN A SANDBOX (cutbox-door.mjs). By AI agents, Wed Nov 11 2026. No macro, syntax, notation, axiom, sorry.
-/
import Derived.Test.YtllmbooicobmkaaDoorRows
import GoSem.ClaimSeven
namespace Go.Proofs.YtllmbooicobmkaaDoor
namespace Rows

/-- THE TIED CARD OF 'laws.FnExactLineGet'. -/
def fnExactLineGetCard : Claim7 := { stood := { row := fnExactLineGetRow, standIns := [], harness := (true, "93820f7d58ae43cb7c1d5530e3c327469433f97d23f6b5e4e98c30891b9e45d4"), looks := true }, kinds := [], alts := [], laidByText := true, laidKinds := [.data, .data, .data, .data, .sentinel, .sentinel, .pinned], laidTests := true, laidLooks := .later }
def FnExactLineGetCardSaid : Prop := Claim7.holds Tryd.pinned (.plain (OpenSpec.ofChange fnExactLineGetSpec)) fnExactLineGetCard

/-- THE TIED CARD OF 'laws.FnExactLinePut'. -/
def fnExactLinePutCard : Claim7 := { stood := { row := fnExactLinePutRow, standIns := [], harness := (true, "93820f7d58ae43cb7c1d5530e3c327469433f97d23f6b5e4e98c30891b9e45d4"), looks := true }, kinds := [], alts := [], laidByText := true, laidKinds := [.data, .data, .data], laidTests := true, laidLooks := .later }
def FnExactLinePutCardSaid : Prop := Claim7.holds Tryd.pinned (.plain (OpenSpec.ofChange fnExactLinePutSpec)) fnExactLinePutCard

/-- THE SECOND FORM's CARD OF 'laws.FnExactLineGet'. -/
def fnExactLineGetUptoCard : Claim7 := { stood := { row := fnExactLineGetUptoRow, standIns := [], harness := (true, "93820f7d58ae43cb7c1d5530e3c327469433f97d23f6b5e4e98c30891b9e45d4"), looks := true }, kinds := [], alts := [], laidByText := true, laidKinds := [.data, .data, .data, .data, .sentinel, .sentinel, .pinned], laidTests := true, laidLooks := .later }
def FnExactLineGetUptoCardSaid : Prop := Claim7.holds Tryd.pinned (.plain (OpenSpec.upto fnExactLineGetSpec)) fnExactLineGetUptoCard

/-- THE SECOND FORM's CARD OF 'laws.FnExactLinePut'. -/
def fnExactLinePutUptoCard : Claim7 := { stood := { row := fnExactLinePutUptoRow, standIns := [], harness := (true, "93820f7d58ae43cb7c1d5530e3c327469433f97d23f6b5e4e98c30891b9e45d4"), looks := true }, kinds := [], alts := [], laidByText := true, laidKinds := [.data, .data, .data], laidTests := true, laidLooks := .later }
def FnExactLinePutUptoCardSaid : Prop := Claim7.holds Tryd.pinned (.plain (OpenSpec.upto fnExactLinePutSpec)) fnExactLinePutUptoCard
end Rows
end Go.Proofs.YtllmbooicobmkaaDoor
