/- The machine's side of this seat's laws: Go functions as Lean functions, and their contracts. By a program of this work over the kit's print. -/
import Derived.Test.YtllmbooicobmkaaGreatDoorQ0
namespace Go.Proofs.YtllmbooicobmkaaGreatDoor.Q
open Go.RowKit Go.Proofs.YtllmbooicobmkaaGreatDoorW.PrintWords Go.Proofs.YtllmbooicobmkaaGreatDoorW.PrintLast Go.Proofs.YtllmbooicobmkaaGreatDoorW.PrintMore
attribute [local go_sem] max2_int min2_int max_two min_two max_three min_three max_four min_four Go.Proofs.YtllmbooicobmkaaGreatDoorN.not_i64 Go.Proofs.YtllmbooicobmkaaGreatDoorN.isSome_setCell
set_option linter.unusedVariables false
set_option linter.unusedSimpArgs false
def impl_callWords.L : List ByteArray := [⟨#[]⟩, ⟨#[108, 111, 111, 107]⟩, ⟨#[112, 117, 116]⟩, ⟨#[102, 105, 110, 100]⟩, ⟨#[100, 114, 111, 112]⟩, ⟨#[114, 97, 110, 100]⟩, ⟨#[115, 101, 110, 100]⟩]
def impl_callWords.f : Option (List ByteArray) := some impl_callWords.L
set_option maxRecDepth 100000 in
theorem impl_callWords.idx (j : Int) (p : 0 ≤ j) (q : j < 7) (w : World) : (Instr.index 51 (awV impl_callWords.L) (.int .i64 j)).run Tryz.prog w = .ok (.string (rdOf ByteArray.empty impl_callWords.L j)) w := by
 have hc : j = 0 ∨ j = 1 ∨ j = 2 ∨ j = 3 ∨ j = 4 ∨ j = 5 ∨ j = 6 := by omega
 rcases hc with e|e|e|e|e|e|e <;> (rw [e]; rfl)
theorem impl_callWords.V : awV impl_callWords.L = .agg #[.string ⟨#[]⟩, .string ⟨#[108, 111, 111, 107]⟩, .string ⟨#[112, 117, 116]⟩, .string ⟨#[102, 105, 110, 100]⟩, .string ⟨#[100, 114, 111, 112]⟩, .string ⟨#[114, 97, 110, 100]⟩, .string ⟨#[115, 101, 110, 100]⟩] := rfl
theorem impl_callWords.reps {w : World} {base : Nat} {ok : Nat → Prop} : ∀ l : List ByteArray, Reps (Kd.string.M w base ok) Kd.string.sz l (l.map Value.string)
 | [] => Reps.none _ _
 | x :: l => Reps.one (show Kd.M Kd.string _ _ _ x [.string x] from rfl) (impl_callWords.reps l)
set_option maxRecDepth 100000 in
/-- The words in a variable of their own. -/
theorem impl_callWords.var {ops : Array Oper} {rest : List Oper} {o o2 : Oper} {a : Act} {Q : Exit → Act → World → Prop} {W w0 : World} (base : Nat) {N M : Tmp} (hgd : o.guard = none) (hd : o.dst = some N) (ho : o.op = .alloc 51)
  (hgd2 : o2.guard = none) (hd2 : o2.dst = none) (ho2 : o2.op = .store 51 (.tmp N) (.tmp M)) (hx : ∀ v, (a.put (some N) v).eval (.tmp N) = v) (hM : ∀ v, (a.put (some N) v).eval (.tmp M) = awV impl_callWords.L) (HB : Below base w0 W) (hbase : base ≤ W.heap.size)
  (h : ∀ g v1 w1, (∀ w : World, (Instr.sliceAt 51 (.pointer (some ⟨g, 0, none⟩)) none none none).run Tryz.prog w = .ok v1 w) → Kd.string.R 51 w1 base (fun _ => True) v1 impl_callWords.L → Below base w0 w1 → W.grownBy w1 none → (∃ b, v1.ownBlock = some b ∧ W.heap.size ≤ b) → wpList Tryz.prog ops Q rest (a.put (some N) (.pointer (some ⟨g, 0, none⟩))) w1) :
  wpList Tryz.prog ops Q (o :: o2 :: rest) a W := by
 refine Kd.event_run hgd (v := .pointer (some ⟨W.heap.size, 0, none⟩)) (w1 := W.alloc (.cells (List.replicate 7 (.string ⟨#[]⟩)).toArray 51)) (by unfold execOp; rw [ho]; go_simp) ?_
 rw [hd]
 refine wpList_store_row hgd2 51 (.tmp N) (.tmp M) ho2 W.heap.size (impl_callWords.L.map Value.string).toArray (hx _) (hM _) 51 _ (heap_alloc_last _ _) (by kernel_rfl) rfl (by kernel_rfl) ?_
 rw [World.setRow_alloc_new, hd2]
 refine h W.heap.size (.slice (some ⟨W.heap.size, 0, none⟩) 7 7) _ (fun w => by go_simp) ⟨fun _ _ => trivial, impl_callWords.L.map Value.string, ?_, impl_callWords.reps _⟩ (HB.alloc hbase _) (World.grownBy_alloc W _ none) ⟨W.heap.size, by simp [Value.ownBlock], Nat.le_refl _⟩
 have h2 := World.ownsRow_lit (base := base) (e := 51) (size := 1) W (impl_callWords.L.map Value.string).toArray 7 hbase (by simp [maxLen]) (by rfl)
 exact h2
set_option maxRecDepth 100000 in
theorem impl_callWords.calls (r : List ByteArray) (w : World) (h : impl_callWords.f = some r) :
  Calls Tryz.prog 28 #[] w fun e w' => e = .returned (awV r) ∧ Below w.heap.size w w' := by
 obtain rfl := Option.some.inj h
 rw [impl_callWords.V]
 have HB := Aside0.mk (Below.refl w.heap.size w)
 go_enter Tryz.func28, Tryz.ntmps28
 go_upto_region 1 with (fail)
 rename_i hK
 apply wp_region_lit
 refine wpList_buildTo rfl 51 _ rfl (some 1) rfl #[.string ⟨#[]⟩, .string ⟨#[108, 111, 111, 107]⟩, .string ⟨#[112, 117, 116]⟩, .string ⟨#[102, 105, 110, 100]⟩, .string ⟨#[100, 114, 111, 112]⟩, .string ⟨#[114, 97, 110, 100]⟩, .string ⟨#[115, 101, 110, 100]⟩] (by kernel_rfl) ?_
 refine wpList_store_row rfl 51 _ _ rfl w.heap.size #[.string ⟨#[]⟩, .string ⟨#[108, 111, 111, 107]⟩, .string ⟨#[112, 117, 116]⟩, .string ⟨#[102, 105, 110, 100]⟩, .string ⟨#[100, 114, 111, 112]⟩, .string ⟨#[114, 97, 110, 100]⟩, .string ⟨#[115, 101, 110, 100]⟩] rfl rfl 51 _ (heap_alloc_last _ _) (by kernel_rfl) rfl (by kernel_rfl) ?_
 rw [World.setRow_alloc_new]
 apply wpList_nil
 refine hK _ _ ?_
 go_wp2
 refine bodyPost_ret (results_cell_row rfl _ _ w.heap.size 51 _ (0, 0) _ rfl (heap_alloc_new _ _) Tryz.underlying51 rfl (by kernel_rfl)) rfl ?_
 exact ⟨rfl, zB⟩
end Go.Proofs.YtllmbooicobmkaaGreatDoor.Q
