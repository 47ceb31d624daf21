/- How the complement of an int reads in a walk, and that a store makes no cell come or go. No condition. -/
import Derived.Laws.Entries
import Derived.RowKit
namespace Go.Proofs.YtllmbooicobmkaaGreatDoorN
open Go
theorem not_i64 : (if Go.IntKind.i64.signed = true then (-1 : Int) else 9223372036854775807) = -1 := rfl
/-- A store makes no cell come or go (so that a cell that was stored to twice is read in one step). -/
theorem isSome_setCell (w : World) (p q : Addr) (x : Value) : ((w.setCell p x).cell? q).isSome = (w.cell? q).isSome := by
  by_cases e : p = q
  · subst e
    cases h : w.cell? p with
    | some v => rw [World.cell?_setCell_same w p x h]; rfl
    | none =>
      have : (w.setCell p x).cell? p = none := by
        simp only [World.setCell, World.cell?, Array.getElem?_modify, if_true] at h ⊢
        cases hh : w.heap[p.block]? with
        | none => simp
        | some o =>
          rw [hh] at h
          cases o <;> simp at h ⊢
          all_goals (first | (split <;> simp_all) | simp_all)
      rw [this]
  · rw [World.cell?_setCell_other w p q x e]
/-- A byte as an int. -/
theorem u8_i64 (x : Int) : Go.RowKit.wrap64 (IntKind.u8.wrap x) = x % 256 := by
  have e : IntKind.u8.wrap x = x % 256 := rfl
  rw [e]; unfold Go.RowKit.wrap64; omega
end Go.Proofs.YtllmbooicobmkaaGreatDoorN
