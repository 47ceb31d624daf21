/- The machine's side of this seat's laws: Go functions as Lean functions, and their contracts. By a program of this work over the kit's print. -/
import Derived.Test.YtllmbooicobmkaaGreatDoorQ0
import Derived.Test.YtllmbooicobmkaaGreatDoorQ13
import Derived.Test.YtllmbooicobmkaaGreatDoorQ14
import Derived.Test.YtllmbooicobmkaaGreatDoorQ15
import Derived.Test.YtllmbooicobmkaaGreatDoorQ17
import Derived.Test.YtllmbooicobmkaaGreatDoorQ18A
import Derived.Test.YtllmbooicobmkaaGreatDoorQ18B
namespace Go.Proofs.YtllmbooicobmkaaGreatDoor.Q
open Go.RowKit Go.Proofs.YtllmbooicobmkaaGreatDoorW.PrintWords Go.Proofs.YtllmbooicobmkaaGreatDoorW.PrintLast Go.Proofs.YtllmbooicobmkaaGreatDoorW.PrintMore
attribute [local go_sem] max2_int min2_int max_two min_two max_three min_three max_four min_four Go.Proofs.YtllmbooicobmkaaGreatDoorN.not_i64 Go.Proofs.YtllmbooicobmkaaGreatDoorN.isSome_setCell
set_option linter.unusedVariables false
set_option linter.unusedSimpArgs false
/-- What x hands back, one of the parts hands back. -/
def impl_readIns.Or {α : Type} (x : Option α) (ys : List (Option α)) : Prop := ∀ r, x = some r → some r ∈ ys
theorem impl_readIns.orN {α : Type} (ys : List (Option α)) : impl_readIns.Or none ys := by
 intro r hr; simp at hr
theorem impl_readIns.orM {α : Type} {x : Option α} {ys : List (Option α)} (h : x ∈ ys) : impl_readIns.Or x ys := by
 intro r hr; rw [← hr]; exact h
theorem impl_readIns.orI1 {α : Type} {c : Prop} [Decidable c] {x y : Option α} {a0 b0 : Option α} (h1 : c → impl_readIns.Or x [a0]) (h2 : ¬ c → impl_readIns.Or y [b0]) :
  impl_readIns.Or (if c then x else y) [if c then a0 else b0] := by
 by_cases hc : c
 · simp only [if_pos hc]; exact h1 hc
 · simp only [if_neg hc]; exact h2 hc
theorem impl_readIns.orB1 {α β : Type} {x : Option β} {y : β → Option α} {f0 : β → Option α} (h : ∀ t, impl_readIns.Or (y t) [f0 t]) :
  impl_readIns.Or (x.bind y) [x.bind f0] := by
 cases x with
 | none => intro r hr; simp at hr
 | some t => exact h t
theorem impl_readIns.orI2 {α : Type} {c : Prop} [Decidable c] {x y : Option α} {a0 b0 a1 b1 : Option α} (h1 : c → impl_readIns.Or x [a0, a1]) (h2 : ¬ c → impl_readIns.Or y [b0, b1]) :
  impl_readIns.Or (if c then x else y) [if c then a0 else b0, if c then a1 else b1] := by
 by_cases hc : c
 · simp only [if_pos hc]; exact h1 hc
 · simp only [if_neg hc]; exact h2 hc
theorem impl_readIns.orB2 {α β : Type} {x : Option β} {y : β → Option α} {f0 f1 : β → Option α} (h : ∀ t, impl_readIns.Or (y t) [f0 t, f1 t]) :
  impl_readIns.Or (x.bind y) [x.bind f0, x.bind f1] := by
 cases x with
 | none => intro r hr; simp at hr
 | some t => exact h t
theorem impl_readIns.orD0 {α : Type} {x : Option α} { ys} (h : impl_readIns.Or x (ys)) : impl_readIns.Or x (none :: ys) := by
 intro r hr; have := h r hr; simp only [List.mem_cons] at this ⊢; exact Or.inr this
theorem impl_readIns.orD1 {α : Type} {x : Option α} {y0 ys} (h : impl_readIns.Or x (y0 :: ys)) : impl_readIns.Or x (y0 :: none :: ys) := by
 intro r hr; have := h r hr; simp only [List.mem_cons] at this ⊢; exact Or.imp id (Or.inr) this
theorem impl_readIns.or5 (k : Nat) (v0 : List ByteArray) (v1 v2 : Int) (v3 : Bool) (v4 v5 : Int) (v6 v7 : Int) (v8 v9 : Int) : impl_readIns.Or (impl_readIns.j5 k v0 v1 v2 v3 v4 v5 v6 v7 v8 v9) [impl_readInsA.j5 k v0 v1 v2 v3 v4 v5 v6 v7 v8 v9, impl_readInsB.j5 k v0 v1 v2 v3 v4 v5 v6 v7 v8 v9] := by
 cases k with
 | zero => simp only [impl_readIns.j5, impl_readInsA.j5, impl_readInsB.j5]; exact impl_readIns.orN _
 | succ k =>
  simp only [impl_readIns.j5, impl_readInsA.j5, impl_readInsB.j5]
  repeat first | exact impl_readIns.orN _ | (focus (refine impl_readIns.orM ?_; simp only [List.mem_cons, true_or, or_true]; done)) | refine impl_readIns.orI1 (fun _ => ?_) (fun _ => ?_) | refine impl_readIns.orB1 (fun _ => ?_) | refine impl_readIns.orI2 (fun _ => ?_) (fun _ => ?_) | refine impl_readIns.orB2 (fun _ => ?_) | refine impl_readIns.orD0 ?_ | refine impl_readIns.orD1 ?_
theorem impl_readIns.or4 (k : Nat) (v0 : List ByteArray) (v1 v2 : Int) (v3 : Bool) (v4 v5 : Int) (v6 v7 : Int) (v8 v9 : Int) : impl_readIns.Or (impl_readIns.j4 k v0 v1 v2 v3 v4 v5 v6 v7 v8 v9) [impl_readInsA.j4 k v0 v1 v2 v3 v4 v5 v6 v7 v8 v9, impl_readInsB.j4 k v0 v1 v2 v3 v4 v5 v6 v7 v8 v9] := by
 cases k with
 | zero => simp only [impl_readIns.j4, impl_readInsA.j4, impl_readInsB.j4]; exact impl_readIns.orN _
 | succ k =>
  simp only [impl_readIns.j4, impl_readInsA.j4, impl_readInsB.j4]
  repeat first | exact impl_readIns.orN _ | (focus (refine impl_readIns.orM ?_; simp only [List.mem_cons, true_or, or_true]; done)) | exact impl_readIns.or5 _ _ _ _ _ _ _ _ _ _ _ | refine impl_readIns.orI1 (fun _ => ?_) (fun _ => ?_) | refine impl_readIns.orB1 (fun _ => ?_) | refine impl_readIns.orI2 (fun _ => ?_) (fun _ => ?_) | refine impl_readIns.orB2 (fun _ => ?_) | refine impl_readIns.orD0 ?_ | refine impl_readIns.orD1 ?_
theorem impl_readIns.or3 (k : Nat) (v0 : List ByteArray) (v1 v2 v3 : Int) (v4 : Bool) (v5 v6 : Int) (v7 v8 : Int) (v9 v10 : Int) : impl_readIns.Or (impl_readIns.j3 k v0 v1 v2 v3 v4 v5 v6 v7 v8 v9 v10) [impl_readInsA.j3 k v0 v1 v2 v3 v4 v5 v6 v7 v8 v9 v10, impl_readInsB.j3 k v0 v1 v2 v3 v4 v5 v6 v7 v8 v9 v10] := by
 cases k with
 | zero => simp only [impl_readIns.j3, impl_readInsA.j3, impl_readInsB.j3]; exact impl_readIns.orN _
 | succ k =>
  simp only [impl_readIns.j3, impl_readInsA.j3, impl_readInsB.j3]
  repeat first | exact impl_readIns.orN _ | (focus (refine impl_readIns.orM ?_; simp only [List.mem_cons, true_or, or_true]; done)) | exact impl_readIns.or4 _ _ _ _ _ _ _ _ _ _ _ | exact impl_readIns.or5 _ _ _ _ _ _ _ _ _ _ _ | refine impl_readIns.orI1 (fun _ => ?_) (fun _ => ?_) | refine impl_readIns.orB1 (fun _ => ?_) | refine impl_readIns.orI2 (fun _ => ?_) (fun _ => ?_) | refine impl_readIns.orB2 (fun _ => ?_) | refine impl_readIns.orD0 ?_ | refine impl_readIns.orD1 ?_
theorem impl_readIns.or2 (k : Nat) (v0 : List ByteArray) (v1 v2 v3 : Int) (v4 : Bool) (v5 v6 : Int) (v7 v8 : Int) (v9 v10 : Int) : impl_readIns.Or (impl_readIns.j2 k v0 v1 v2 v3 v4 v5 v6 v7 v8 v9 v10) [impl_readInsA.j2 k v0 v1 v2 v3 v4 v5 v6 v7 v8 v9 v10, impl_readInsB.j2 k v0 v1 v2 v3 v4 v5 v6 v7 v8 v9 v10] := by
 cases k with
 | zero => simp only [impl_readIns.j2, impl_readInsA.j2, impl_readInsB.j2]; exact impl_readIns.orN _
 | succ k =>
  simp only [impl_readIns.j2, impl_readInsA.j2, impl_readInsB.j2]
  repeat first | exact impl_readIns.orN _ | (focus (refine impl_readIns.orM ?_; simp only [List.mem_cons, true_or, or_true]; done)) | exact impl_readIns.or3 _ _ _ _ _ _ _ _ _ _ _ _ | exact impl_readIns.or4 _ _ _ _ _ _ _ _ _ _ _ | exact impl_readIns.or5 _ _ _ _ _ _ _ _ _ _ _ | refine impl_readIns.orI1 (fun _ => ?_) (fun _ => ?_) | refine impl_readIns.orB1 (fun _ => ?_) | refine impl_readIns.orI2 (fun _ => ?_) (fun _ => ?_) | refine impl_readIns.orB2 (fun _ => ?_) | refine impl_readIns.orD0 ?_ | refine impl_readIns.orD1 ?_
theorem impl_readIns.or1 (k : Nat) (v0 : List ByteArray) (v1 : ByteArray) (v2 : Int) : impl_readIns.Or (impl_readIns.j1 k v0 v1 v2) [impl_readInsA.j1 k v0 v1 v2, impl_readInsB.j1 k v0 v1 v2] := by
 cases k with
 | zero => simp only [impl_readIns.j1, impl_readInsA.j1, impl_readInsB.j1]; exact impl_readIns.orN _
 | succ k =>
  simp only [impl_readIns.j1, impl_readInsA.j1, impl_readInsB.j1]
  repeat first | exact impl_readIns.orN _ | (focus (refine impl_readIns.orM ?_; simp only [List.mem_cons, true_or, or_true]; done)) | exact impl_readIns.or2 _ _ _ _ _ _ _ _ _ _ _ _ | exact impl_readIns.or3 _ _ _ _ _ _ _ _ _ _ _ _ | exact impl_readIns.or4 _ _ _ _ _ _ _ _ _ _ _ | exact impl_readIns.or5 _ _ _ _ _ _ _ _ _ _ _ | refine impl_readIns.orI1 (fun _ => ?_) (fun _ => ?_) | refine impl_readIns.orB1 (fun _ => ?_) | refine impl_readIns.orI2 (fun _ => ?_) (fun _ => ?_) | refine impl_readIns.orB2 (fun _ => ?_) | refine impl_readIns.orD0 ?_ | refine impl_readIns.orD1 ?_
theorem impl_readIns.or0 (k : Nat) (v0 : List ByteArray) (v1 : ByteArray) (v2 v3 : Int) (v4 : Bool) : impl_readIns.Or (impl_readIns.j0 k v0 v1 v2 v3 v4) [impl_readInsA.j0 k v0 v1 v2 v3 v4, impl_readInsB.j0 k v0 v1 v2 v3 v4] := by
 cases k with
 | zero => simp only [impl_readIns.j0, impl_readInsA.j0, impl_readInsB.j0]; exact impl_readIns.orN _
 | succ k =>
  simp only [impl_readIns.j0, impl_readInsA.j0, impl_readInsB.j0]
  repeat first | exact impl_readIns.orN _ | (focus (refine impl_readIns.orM ?_; simp only [List.mem_cons, true_or, or_true]; done)) | exact impl_readIns.or1 _ _ _ _ | exact impl_readIns.or2 _ _ _ _ _ _ _ _ _ _ _ _ | exact impl_readIns.or3 _ _ _ _ _ _ _ _ _ _ _ _ | exact impl_readIns.or4 _ _ _ _ _ _ _ _ _ _ _ | exact impl_readIns.or5 _ _ _ _ _ _ _ _ _ _ _ | refine impl_readIns.orI1 (fun _ => ?_) (fun _ => ?_) | refine impl_readIns.orB1 (fun _ => ?_) | refine impl_readIns.orI2 (fun _ => ?_) (fun _ => ?_) | refine impl_readIns.orB2 (fun _ => ?_) | refine impl_readIns.orD0 ?_ | refine impl_readIns.orD1 ?_
theorem impl_readIns.orF (k : Nat) (l0 : List ByteArray) : impl_readIns.Or (impl_readIns.f k l0) [impl_readInsA.f k l0, impl_readInsB.f k l0] := by
 unfold impl_readIns.f impl_readInsA.f impl_readInsB.f
 repeat first | exact impl_readIns.orN _ | exact impl_readIns.or0 _ _ _ _ _ _ | refine impl_readIns.orI1 (fun _ => ?_) (fun _ => ?_) | refine impl_readIns.orB1 (fun _ => ?_) | refine impl_readIns.orI2 (fun _ => ?_) (fun _ => ?_) | refine impl_readIns.orB2 (fun _ => ?_) | refine impl_readIns.orD0 ?_ | refine impl_readIns.orD1 ?_
theorem impl_readIns.calls (k : Nat) (A0 : Option Addr) (c0 : Nat) (l0 : List ByteArray) (r1 r2 : Int) (r3 r4 : Int) (r5 r6 : Int) (r7 : Bool) (w : World) (hr0 : Kd.C Kd.string w A0 l0.length l0) (hc0 : l0.length ≤ c0) (h : impl_readIns.f k l0 = some (r1, r2, r3, r4, r5, r6, r7)) (zHT : Tryz.Te w := by first | exact zHT | exact Tryz.te_below zHT zB) :
  Calls Tryz.prog 15 #[.slice A0 l0.length c0] w fun e w' => e = .returned (.tuple #[.agg #[.int .i64 r1, .int .i64 r2, .int .i64 r3, .int .i64 r4, .int .i64 r5, .int .i64 r6], .bool r7]) ∧ Below w.heap.size w w' := by
 have hh := impl_readIns.orF k l0 _ h
 simp only [List.mem_cons, List.not_mem_nil, or_false] at hh
 rcases hh with h | h
 · exact impl_readInsA.calls k A0 c0 l0 r1 r2 r3 r4 r5 r6 r7 w hr0 hc0 h.symm zHT
 · exact impl_readInsB.calls k A0 c0 l0 r1 r2 r3 r4 r5 r6 r7 w hr0 hc0 h.symm zHT
end Go.Proofs.YtllmbooicobmkaaGreatDoor.Q
