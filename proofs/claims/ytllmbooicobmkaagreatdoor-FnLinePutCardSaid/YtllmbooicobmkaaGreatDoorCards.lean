/-
  DERIVED. GIVEN WITH THE SEED: THE CARDS: each row of YtllmbooicobmkaaGreatDoorRows.lean that lists a variable, with what it lists TIED to the program's text (the seventh form; the later family's looks); each row that meets fmt, with fmt's text TOLD by the authors' own Lean function (tested against real Go, not proved from fmt's source: count such statements apart). THE CARD IS WHAT COUNTS. Prove the row's statement (the work); the ties are given (YtllmbooicobmkaaGreatDoorTie.lean); close each card by the builder's one call (the guide's Derived/Test/ToyasCard.lean, 'card_holds'). Laid BY PROGRAM, IN A SANDBOX (cutbox-door.mjs). By AI agents, Wed Nov 11 2026. No macro, syntax, notation, axiom, sorry.
-/
import Derived.Test.YtllmbooicobmkaaGreatDoorRows
import GoSem.ClaimSeven
namespace Go.Proofs.YtllmbooicobmkaaGreatDoor
namespace Rows

/-- THE TIED CARD OF 'laws.FnLinePut'. -/
def fnLinePutCard : Claim7 := { stood := { row := fnLinePutRow, standIns := [], harness := (true, "1ad9829d2218ddb5fc48d494672e6ef47123f75cf9166afd8ee42aed1cf29daf"), looks := true }, kinds := [], alts := [], laidByText := true, laidKinds := [.data, .data, .data, .data, .sentinel, .sentinel, .pinned], laidTests := true, laidLooks := .later }
def FnLinePutCardSaid : Prop := Claim7.holds Tryz.pinned (.plain (OpenSpec.ofChange fnLinePutSpec)) fnLinePutCard

/-- THE SECOND FORM's CARD OF 'laws.FnLinePut'. -/
def fnLinePutUptoCard : Claim7 := { stood := { row := fnLinePutUptoRow, standIns := [], harness := (true, "1ad9829d2218ddb5fc48d494672e6ef47123f75cf9166afd8ee42aed1cf29daf"), looks := true }, kinds := [], alts := [], laidByText := true, laidKinds := [.data, .data, .data, .data, .sentinel, .sentinel, .pinned], laidTests := true, laidLooks := .later }
def FnLinePutUptoCardSaid : Prop := Claim7.holds Tryz.pinned (.plain (OpenSpec.upto fnLinePutSpec)) fnLinePutUptoCard
end Rows
end Go.Proofs.YtllmbooicobmkaaGreatDoor
