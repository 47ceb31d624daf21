/- The machine's side of this seat's laws: Go functions as Lean functions, and their contracts. By a program of this work over the kit's print. -/
import Derived.Test.YtdfgaaeieneaoaaQ0
import Derived.Test.YtdfgaaeieneaoaaQ4
import Derived.Test.YtdfgaaeieneaoaaQ7
namespace Go.Proofs.Ytdfgaaeieneaoaa.Q
open Go.RowKit Go.Proofs.YtdfgaaeieneaoaaW.PrintWords Go.Proofs.YtdfgaaeieneaoaaW.PrintLast Go.Proofs.YtdfgaaeieneaoaaW.PrintMore
attribute [local go_sem] max2_int min2_int max_two min_two max_three min_three max_four min_four Go.Proofs.YtdfgaaeieneaoaaN.not_i64 Go.Proofs.YtdfgaaeieneaoaaN.isSome_setCell   -- for this text's walks alone
set_option linter.unusedVariables false
set_option linter.unusedSimpArgs false

/-! ### spec_ProgPut: function 8 -/
def spec_ProgPut.l0 : Nat → List (S38) → ByteArray → Int → Option (ByteArray)
 | 0, _, _, _ => none
 | k + 1, x0, x3, x4 => if x4 < (x0.length : Int) then (if 0 ≤ x4 then ((spec_l1Put.f ((rd_T38 x0 x4).f0) ((rd_T38 x0 x4).f1) ((rd_T38 x0 x4).f2) ((rd_T38 x0 x4).f3) ((rd_T38 x0 x4).f4) ((rd_T38 x0 x4).f5)).bind fun t132 => (if x3.size + t132.size ≤ 9223372036854775807 then (spec_ProgPut.l0 k x0 (x3 ++ t132) (wrap64 (x4 + 1))) else (none))) else (none)) else (some x3)
def spec_ProgPut.f (k : Nat) (l0 : List (S38)) : Option (ByteArray) := (spec_l1Form.f k l0).bind fun t130 => (if t130 = 0 then (spec_ProgPut.l0 k l0 (⟨#[]⟩ : ByteArray) 0) else (some (⟨#[]⟩ : ByteArray)))


set_option maxHeartbeats 8000000 in
set_option maxRecDepth 100000 in
theorem spec_ProgPut.calls (k : Nat) (A0 : Option Addr) (c0 : Nat) (l0 : List (S38)) (r : ByteArray) (w : World) (hr0 : Kd.C k38 w A0 l0.length l0) (hc0 : l0.length ≤ c0) (h : spec_ProgPut.f k l0 = some r) :
  Calls Try.prog 8 #[.slice A0 l0.length c0] w fun e w' => e = .returned (.string r) ∧ Below w.heap.size w w' := by
 have hu38 := Try.underlying38
 have HR0 := Aside0.mk hr0
 have HC0 := Aside0.mk hc0
 clear hr0 hc0
 have HB := Aside0.mk (Below.refl w.heap.size w)
 have H : ((spec_l1Form.f k l0).bind fun t130 => (if t130 = 0 then (spec_ProgPut.l0 k l0 (⟨#[]⟩ : ByteArray) 0) else (some (⟨#[]⟩ : ByteArray)))) = some r := h
 clear h
 replace H := Option.bind_eq_some_iff.mp H
 obtain ⟨t130, A20, H⟩ := H
 try dsimp only at H
 have A2 := Aside0.mk A20
 clear A20
 by_cases c3 : t130 = 0
 ·rw [if_pos c3] at H
  have c3b0 : (t130 == 0) = true := beq_iff_eq.mpr c3
  have c3b1 : (t130 != 0) = false := bne_eq_false_iff_eq.mpr c3
  clear c3
  have H' := Aside0.mk H
  clear H
  go_enter Try.func8, Try.ntmps8
  go_wp2_with (first | ((with_reducible refine gate_callee (f := 21) rfl ?_); refine gl 6 Try.func21 #[.slice A0 l0.length c0] ?_; (with_reducible refine (spec_l1Form.calls k _ _ l0 t130 _ ?side1 ?side2 A2.out).mono ?_); (case side1 => repeat (first | exact HR0.out | (with_reducible refine Kd.C_alloc ?_ _) | (with_reducible refine Kd.C_drewN ?_ _) | (with_reducible refine Kd.C_drew ?_))); (case side2 => exact HC0.out); rintro e w4 ⟨rfl, hb⟩; refine ⟨_, rfl, ?_⟩; replace HB := zS hb; try clear hb))
  go_loopg [3, 4] k (fun kq v3 v4 w' => ∃ (x3_1 : ByteArray) (x4_1 : Int), v3 = .string x3_1 ∧ v4 = .int .i64 x4_1 ∧ Aside0 (spec_ProgPut.l0 kq l0 x3_1 x4_1 = some r) ∧ Aside0 (kq ≤ k) ∧ Aside0 (Below w.heap.size w w'))
  case atStart => exact ⟨((⟨#[]⟩ : ByteArray)), (0), (by first | rfl | (simp; done) | (simp [*]; done)), (by first | rfl | (simp; done) | (simp [*]; done)), H', ⟨Nat.le_refl _⟩, ⟨zB⟩⟩
  case round =>
   clear H'
   try clear c2
   try clear p2
   try clear c3
   try clear c3b0
   try clear c3b1
   obtain ⟨x3_1, x4_1, rfl, rfl, HA, HK1, HB⟩ := hrel
   cases gk with
   | zero => exact absurd HA.out (by simp [spec_ProgPut.l0])
   | succ k1 =>
    have H := HA.out
    clear HA
    simp only [spec_ProgPut.l0] at H
    by_cases c5 : x4_1 < (l0.length : Int)
    ·rw [if_pos c5] at H
     have c5b0 : decide (x4_1 < (l0.length : Int)) = true := decide_eq_true c5
     clear c5
     by_cases c6 : 0 ≤ x4_1
     ·rw [if_pos c6] at H
      have c6b0 : decide (0 ≤ x4_1) = true := decide_eq_true c6
      clear c6
      replace H := Option.bind_eq_some_iff.mp H
      obtain ⟨t132, A70, H⟩ := H
      try dsimp only at H
      have A7 := Aside0.mk A70
      clear A70
      by_cases c8 : x3_1.size + t132.size ≤ 9223372036854775807
      ·rw [if_pos c8] at H
       have c8b0 := eq_true c8
       have c8b1 : decide (x3_1.size + t132.size ≤ 9223372036854775807) = true := decide_eq_true c8
       try have c8b2 : (9223372036854775807 < x3_1.size + t132.size) = False := eq_false (Nat.not_lt.2 c8)
       have H' := Aside0.mk H
       clear H
       have p131 : 0 ≤ (x4_1 : Int) := of_decide_eq_true (by first | (with_reducible assumption) | assumption)
       have q131 : x4_1 < (l0.length : Int) := of_decide_eq_true (by first | (with_reducible assumption) | assumption)
       obtain ⟨ad131, e131, hx131_0, hx131_1, hx131_2, hx131_3, hx131_4, hx131_5⟩ := at_T38 HR0.out x4_1 p131 q131
       cases e131
       replace hx131_0 := (HB.out.cell (World.block_lt_of_cell? w _ hx131_0)).trans hx131_0
       replace hx131_1 := (HB.out.cell (World.block_lt_of_cell? w _ hx131_1)).trans hx131_1
       replace hx131_2 := (HB.out.cell (World.block_lt_of_cell? w _ hx131_2)).trans hx131_2
       replace hx131_3 := (HB.out.cell (World.block_lt_of_cell? w _ hx131_3)).trans hx131_3
       replace hx131_4 := (HB.out.cell (World.block_lt_of_cell? w _ hx131_4)).trans hx131_4
       replace hx131_5 := (HB.out.cell (World.block_lt_of_cell? w _ hx131_5)).trans hx131_5
       replace p131 := eq_true p131
       replace q131 := eq_true q131
       go_wp2_with (first | ((with_reducible refine gate_callee (f := 22) rfl ?_); refine gl 20 Try.func22 #[.agg #[.int .i64 ((rd_T38 l0 x4_1).f0), .int .i64 ((rd_T38 l0 x4_1).f1), .int .i64 ((rd_T38 l0 x4_1).f2), .int .i64 ((rd_T38 l0 x4_1).f3), .int .i64 ((rd_T38 l0 x4_1).f4), .int .i64 ((rd_T38 l0 x4_1).f5)]] ?_; (with_reducible refine (spec_l1Put.calls ((rd_T38 l0 x4_1).f0) ((rd_T38 l0 x4_1).f1) ((rd_T38 l0 x4_1).f2) ((rd_T38 l0 x4_1).f3) ((rd_T38 l0 x4_1).f4) ((rd_T38 l0 x4_1).f5) t132 _ A7.out).mono ?_); rintro e w9 ⟨rfl, hb⟩; refine ⟨_, rfl, ?_⟩; replace HB := zS hb; try clear hb))
       go_roundg k1
       case measure => have := HK1.out; omega
       case rel => exact ⟨(x3_1 ++ t132), (wrap64 (x4_1 + 1)), (by first | rfl | (simp; done) | (simp [*]; done)), (by first | rfl | (simp; done) | (simp [*]; done)), H', ⟨by have := HK1.out; omega⟩, ⟨zB⟩⟩
      ·rw [if_neg c8] at H
       exact absurd H (by simp)
     ·rw [if_neg c6] at H
      exact absurd H (by simp)
    ·rw [if_neg c5] at H
     have c5b0 : decide (x4_1 < (l0.length : Int)) = false := decide_eq_false c5
     clear c5
     obtain rfl := Option.some.inj H
     go_wp2
     go_ret
     exact ⟨zR, zB⟩
 ·rw [if_neg c3] at H
  have c3b0 : (t130 == 0) = false := beq_eq_false_iff_ne.mpr c3
  have c3b1 : (t130 != 0) = true := bne_iff_ne.mpr c3
  obtain rfl := Option.some.inj H
  go_enter Try.func8, Try.ntmps8
  go_wp2_with (first | ((with_reducible refine gate_callee (f := 21) rfl ?_); refine gl 6 Try.func21 #[.slice A0 l0.length c0] ?_; (with_reducible refine (spec_l1Form.calls k _ _ l0 t130 _ ?side1 ?side2 A2.out).mono ?_); (case side1 => repeat (first | exact HR0.out | (with_reducible refine Kd.C_alloc ?_ _) | (with_reducible refine Kd.C_drewN ?_ _) | (with_reducible refine Kd.C_drew ?_))); (case side2 => exact HC0.out); rintro e w10 ⟨rfl, hb⟩; refine ⟨_, rfl, ?_⟩; replace HB := zS hb; try clear hb))
  go_ret
  exact ⟨zR, zB⟩

/-! ### impl_ProgPut: function 10 -/
def impl_ProgPut.l0 : Nat → List (S38) → Int → List UInt8 → Option ByteArray
 | 0, _, _, _ => none
 | k + 1, x0, i, acc => if i < (x0.length : Int) then (if 0 ≤ i then ((impl_InsPut.f k ((rd_T38 x0 i).f0) ((rd_T38 x0 i).f1) ((rd_T38 x0 i).f2) ((rd_T38 x0 i).f3) ((rd_T38 x0 i).f4) ((rd_T38 x0 i).f5)).bind fun t => (if acc.length + t.size ≤ 140737488355328 then impl_ProgPut.l0 k x0 (wrap64 (i + 1)) (acc ++ t.data.toList) else none)) else none) else some ⟨acc.toArray⟩
def impl_ProgPut.f (k : Nat) (l0 : List (S38)) : Option ByteArray := (impl_ProgForm.f k l0).bind fun t => if t = 0 then impl_ProgPut.l0 k l0 0 [] else some (⟨#[]⟩ : ByteArray)
theorem bld_move {T e : TypeId} {B b : Nat} {bs : List Value} {w w1 : World} (h : Lib.IsBuilderF T e B b bs w) (hb : Below w.heap.size w w1) : Lib.IsBuilderF T e B b bs w1 := by
  have key : ∀ p, Lib.BuilderAtF T e B b p bs w → Lib.BuilderAtF T e B b p bs w1 := by
    rintro p ⟨hB, v, hbk, ⟨hl, hown⟩, hne⟩
    have blk : ∀ g o, w.heap[g]? = some o → w1.heap[g]? = some o := fun g o hg => (hb.block g (Array.getElem?_eq_some_iff.1 hg).1).trans hg
    refine ⟨hB, v, blk _ _ hbk, ⟨hl, ?_⟩, hne⟩
    rcases hown with hn | ⟨g, cap, cur, fz, hv, hg1, hg2, hr⟩
    ·exact Or.inl hn
    ·exact Or.inr ⟨g, cap, cur, fz, hv, hg1, blk _ _ hg2, hr⟩
  exact h.elim (fun x => Or.inl (key _ x)) (fun x => Or.inr (key _ x))
theorem bld_cells (l : List UInt8) (t : ByteArray) : Lib.byteCells l ++ Lib.strCells t = Lib.byteCells (l ++ t.data.toList) := by
  rw [Lib.strCells_eq]
  simp [Lib.byteCells]
set_option maxHeartbeats 8000000 in
set_option maxRecDepth 100000 in
theorem impl_ProgPut.calls (k : Nat) (A0 : Option Addr) (c0 : Nat) (l0 : List (S38)) (r : ByteArray) (w : World) (hr0 : Kd.C k38 w A0 l0.length l0) (hc0 : l0.length ≤ c0) (h : impl_ProgPut.f k l0 = some r) :
  Calls Try.prog 10 #[.slice A0 l0.length c0] w fun e w' => e = .returned (.string r) ∧ Below w.heap.size w w' := by
 have hu38 := Try.underlying38
 have hu45 := Try.underlying45
 have hu43 := Try.underlying43
 have hu33 := Try.underlying33
 have HR0 := Aside0.mk hr0
 have HC0 := Aside0.mk hc0
 clear hr0 hc0
 have HB := Aside0.mk (Below.refl w.heap.size w)
 have H : ((impl_ProgForm.f k l0).bind fun t => if t = 0 then impl_ProgPut.l0 k l0 0 [] else some (⟨#[]⟩ : ByteArray)) = some r := h
 clear h
 replace H := Option.bind_eq_some_iff.mp H
 obtain ⟨t130, A20, H⟩ := H
 try dsimp only at H
 have A2 := Aside0.mk A20
 clear A20
 by_cases c3 : t130 = 0
 ·rw [if_pos c3] at H
  have c3b0 : (t130 == 0) = true := beq_iff_eq.mpr c3
  have c3b1 : (t130 != 0) = false := bne_eq_false_iff_eq.mpr c3
  clear c3
  have H' := Aside0.mk H
  clear H
  go_enter Try.func10, Try.ntmps10
  go_wp2_with (first | ((with_reducible refine gate_callee (f := 17) rfl ?_); refine gl 7 Try.func17 #[.slice A0 l0.length c0] ?_; (with_reducible refine (impl_ProgForm.calls k _ _ l0 t130 _ ?side1 ?side2 A2.out).mono ?_); (case side1 => repeat (first | exact HR0.out | (with_reducible refine Kd.C_alloc ?_ _) | (with_reducible refine Kd.C_drewN ?_ _) | (with_reducible refine Kd.C_drew ?_))); (case side2 => exact HC0.out); rintro e w4 ⟨rfl, hb⟩; refine ⟨_, rfl, ?_⟩; replace HB := zS hb; try clear hb) | ((with_reducible refine gate_dst (N := 3) rfl ?_); refine be 3 #[.pointer none, .slice none 0 0] 45 ?_; intro gb hg w5 hbox hb; have GW := zW hg; replace HB := zS hb; have HBL := Aside0.mk (show Lib.IsBuilderF 45 5 w.heap.size gb (Lib.byteCells []) w5 from Or.inl ⟨GW.out, .slice none 0 0, hbox, ⟨rfl, Or.inl ⟨rfl, rfl⟩⟩, by simp [Value.ownBlock]⟩); clear hb hbox hg))
  go_loopg [11] k (fun kq v11 w' => ∃ (i : Int) (acc : List UInt8), v11 = .int .i64 i ∧ Aside0 (impl_ProgPut.l0 kq l0 i acc = some r) ∧ Aside0 (kq ≤ k) ∧ Aside0 (Lib.IsBuilderF 45 5 w.heap.size gb (Lib.byteCells acc) w') ∧ Aside0 (Below w.heap.size w w'))
  case atStart => exact ⟨0, [], (by first | rfl | (simp; done) | (simp [*]; done)), H', ⟨Nat.le_refl _⟩, ⟨by first | exact HBL.out | exact bld_move HBL.out (by repeat first | exact Below.refl _ _ | apply vA | apply vN | apply vD)⟩, ⟨zB⟩⟩
  case round =>
   clear H' HBL
   try clear c3b0
   try clear c3b1
   obtain ⟨i, acc, rfl, HA, HK1, HBL, HB⟩ := hrel
   cases gk with
   | zero => exact absurd HA.out (by simp [impl_ProgPut.l0])
   | succ k1 =>
    have H := HA.out
    clear HA
    simp only [impl_ProgPut.l0] at H
    by_cases c5 : i < (l0.length : Int)
    ·rw [if_pos c5] at H
     have c5b0 : decide (i < (l0.length : Int)) = true := decide_eq_true c5
     clear c5
     by_cases c6 : 0 ≤ i
     ·rw [if_pos c6] at H
      have c6b0 : decide (0 ≤ i) = true := decide_eq_true c6
      clear c6
      replace H := Option.bind_eq_some_iff.mp H
      obtain ⟨t132, A70, H⟩ := H
      try dsimp only at H
      have A7 := Aside0.mk A70
      clear A70
      by_cases c8 : acc.length + t132.size ≤ 140737488355328
      ·rw [if_pos c8] at H
       have C8 := Aside0.mk c8
       clear c8
       have H' := Aside0.mk H
       clear H
       have p131 : 0 ≤ (i : Int) := of_decide_eq_true (by first | (with_reducible assumption) | assumption)
       have q131 : i < (l0.length : Int) := of_decide_eq_true (by first | (with_reducible assumption) | assumption)
       obtain ⟨ad131, e131, hx131_0, hx131_1, hx131_2, hx131_3, hx131_4, hx131_5⟩ := at_T38 HR0.out i p131 q131
       cases e131
       replace hx131_0 := (HB.out.cell (World.block_lt_of_cell? w _ hx131_0)).trans hx131_0
       replace hx131_1 := (HB.out.cell (World.block_lt_of_cell? w _ hx131_1)).trans hx131_1
       replace hx131_2 := (HB.out.cell (World.block_lt_of_cell? w _ hx131_2)).trans hx131_2
       replace hx131_3 := (HB.out.cell (World.block_lt_of_cell? w _ hx131_3)).trans hx131_3
       replace hx131_4 := (HB.out.cell (World.block_lt_of_cell? w _ hx131_4)).trans hx131_4
       replace hx131_5 := (HB.out.cell (World.block_lt_of_cell? w _ hx131_5)).trans hx131_5
       replace p131 := eq_true p131
       replace q131 := eq_true q131
       have HBr := Aside0.mk (Below.refl wr.heap.size wr)
       go_wp2_with (first | ((with_reducible refine gate_dst (N := 5) rfl ?_); (try (refine gate_guard (by rfl) ?_; dsimp only)); refine be 5 #[.int .i64 0, .int .i64 0, .int .i64 0, .int .i64 0, .int .i64 0, .int .i64 0] 38 ?_; intro gx hg w12 hbox hb; have BK173 := Aside0.mk hbox; have GW173 := zW hg; have GXR := Aside0.mk ((by rw [hg]; exact Below.size (show Below wr.heap.size wr _ by repeat first | (with_reducible first | exact HBr.out | apply vA | apply vN | apply vD) | exact HBr.out)) : wr.heap.size ≤ gx); replace HB := zS hb; replace HBr := Aside0.mk (below_step (by repeat first | (with_reducible first | exact HBr.out | apply vA | apply vN | apply vD) | exact HBr.out) hb); have GE173 := GW173; clear hb hbox hg; obtain ⟨hcz13_0, hcz13_1, hcz13_2, hcz13_3, hcz13_4, hcz13_5, hfz13_0, hfz13_1, hfz13_2, hfz13_3, hfz13_4, hfz13_5⟩ := zc6 BK173) | ((with_reducible refine gate_callee (f := 18) rfl ?_); refine gl 16 Try.func18 #[.agg #[.int .i64 ((rd_T38 l0 i).f0), .int .i64 ((rd_T38 l0 i).f1), .int .i64 ((rd_T38 l0 i).f2), .int .i64 ((rd_T38 l0 i).f3), .int .i64 ((rd_T38 l0 i).f4), .int .i64 ((rd_T38 l0 i).f5)]] ?_; (with_reducible refine (impl_InsPut.calls k1 ((rd_T38 l0 i).f0) ((rd_T38 l0 i).f1) ((rd_T38 l0 i).f2) ((rd_T38 l0 i).f3) ((rd_T38 l0 i).f4) ((rd_T38 l0 i).f5) t132 _ A7.out).mono ?_); rintro e w9 ⟨rfl, hb⟩; refine ⟨_, rfl, ?_⟩; replace HB := zS hb; replace HBr := Aside0.mk (below_step (by repeat first | (with_reducible first | exact HBr.out | apply vA | apply vN | apply vD | refine vS ?_ GXR.out) | exact HBr.out) hb); try clear hb) | ((with_reducible refine gate_callee (f := 24) rfl ?_); refine gl 17 Try.func24 #[.pointer (some ⟨gb, 0, none⟩), .string t132] ?_; (with_reducible refine (Try.bPut w.heap.size gb (Lib.byteCells acc) t132 _ ?side1 ?side2 ?side3).mono ?_); (case side1 => exact bld_move HBL.out (by repeat first | (with_reducible first | exact HBr.out | apply vA | apply vN | apply vD | refine vS ?_ GXR.out) | exact HBr.out)); (case side2 => rw [Lib.byteCells_length]; exact C8.out); (case side3 => exact Below.size zB); rintro e w10 ⟨rfl, hbl, hb⟩; refine ⟨_, rfl, ?_⟩; replace HB := Aside0.mk (Below.trans zB hb); rw [bld_cells] at hbl; have HBN := Aside0.mk hbl; clear hbl hb))
       go_roundg k1
       case measure => have := HK1.out; omega
       case rel => exact ⟨(wrap64 (i + 1)), (acc ++ t132.data.toList), (by first | rfl | (simp; done) | (simp [*]; done)), H', ⟨by have := HK1.out; omega⟩, ⟨by first | exact HBN.out | exact bld_move HBN.out (by repeat first | exact Below.refl _ _ | apply vA | apply vN | apply vD)⟩, ⟨zB⟩⟩
      ·rw [if_neg c8] at H
       exact absurd H (by simp)
     ·rw [if_neg c6] at H
      exact absurd H (by simp)
    ·rw [if_neg c5] at H
     have c5b0 : decide (i < (l0.length : Int)) = false := decide_eq_false c5
     clear c5
     obtain rfl := Option.some.inj H
     go_wp2_with (first | ((with_reducible refine gate_callee (f := 25) rfl ?_); refine gl 19 Try.func25 #[.pointer (some ⟨gb, 0, none⟩)] ?_; (with_reducible refine (Try.bText w.heap.size gb acc _ ?side1 ?side2).mono ?_); (case side1 => first | exact HBL.out | exact bld_move HBL.out (by repeat first | exact Below.refl _ _ | apply vA | apply vN | apply vD)); (case side2 => exact Below.size zB); rintro e w11 ⟨rfl, hb⟩; refine ⟨_, rfl, ?_⟩; replace HB := Aside0.mk (Below.trans zB hb); clear hb))
     go_ret
     exact ⟨zR, zB⟩
 ·rw [if_neg c3] at H
  have c3b0 : (t130 == 0) = false := beq_eq_false_iff_ne.mpr c3
  have c3b1 : (t130 != 0) = true := bne_iff_ne.mpr c3
  clear c3
  obtain rfl := Option.some.inj H
  go_enter Try.func10, Try.ntmps10
  go_wp2_with (first | ((with_reducible refine gate_callee (f := 17) rfl ?_); refine gl 7 Try.func17 #[.slice A0 l0.length c0] ?_; (with_reducible refine (impl_ProgForm.calls k _ _ l0 t130 _ ?side1 ?side2 A2.out).mono ?_); (case side1 => repeat (first | exact HR0.out | (with_reducible refine Kd.C_alloc ?_ _) | (with_reducible refine Kd.C_drewN ?_ _) | (with_reducible refine Kd.C_drew ?_))); (case side2 => exact HC0.out); rintro e w4 ⟨rfl, hb⟩; refine ⟨_, rfl, ?_⟩; replace HB := zS hb; try clear hb))
  go_ret
  exact ⟨zR, zB⟩


end Go.Proofs.Ytdfgaaeieneaoaa.Q
