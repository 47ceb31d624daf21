/- The machine's side of this seat's laws: Go functions as Lean functions, and their contracts. By a program of this work over the kit's print. -/
import Derived.Test.YtllmbooicobmkaaGreatDoorQ0
import Derived.Test.YtllmbooicobmkaaGreatDoorQ13
import Derived.Test.YtllmbooicobmkaaGreatDoorQ14
import Derived.Test.YtllmbooicobmkaaGreatDoorQ15
import Derived.Test.YtllmbooicobmkaaGreatDoorQ17
import Derived.Test.YtllmbooicobmkaaGreatDoorQ18D
namespace Go.Proofs.YtllmbooicobmkaaGreatDoor.Q
open Go.RowKit Go.Proofs.YtllmbooicobmkaaGreatDoorW.PrintWords Go.Proofs.YtllmbooicobmkaaGreatDoorW.PrintLast Go.Proofs.YtllmbooicobmkaaGreatDoorW.PrintMore
attribute [local go_sem] max2_int min2_int max_two min_two max_three min_three max_four min_four Go.Proofs.YtllmbooicobmkaaGreatDoorN.not_i64 Go.Proofs.YtllmbooicobmkaaGreatDoorN.isSome_setCell
set_option linter.unusedVariables false
set_option linter.unusedSimpArgs false
mutual
def impl_readInsA.j0 : Nat → List ByteArray → ByteArray → Int → Int → Bool → Option (Int × Int × Int × Int × Int × Int × Bool)
 | 0, _, _, _, _, _ => none
 | k + 1, x0, x4, x5, x6, x33 => if x33 = true then (if 0 ≤ (wrap64 (x6 - 1)) then (if (wrap64 (x6 - 1)) < (x4.size : Int) then (if (wrap64 (x6 - 1)) ≤ (x4.size : Int) then (impl_readInsA.j1 k x0 (x4.extract 0 ((wrap64 (x6 - 1)) : Int).toNat) (((bt x4 (wrap64 (x6 - 1))) - 48) % 256)) else (none)) else (none)) else (none)) else (impl_readInsA.j1 k x0 x4 x5)
def impl_readInsA.j1 : Nat → List ByteArray → ByteArray → Int → Option (Int × Int × Int × Int × Int × Int × Bool)
 | 0, _, _, _ => none
 | k + 1, x0, x4, x5 => (slices_Index_string_string.f k (impl_opWords.L) x4).bind fun t563 => ((impl_kind_reckons.f (mx t563 0)).bind fun t565 => (if t565 = true then (impl_readInsA.j2 k x0 (mx t563 0) (mx t563 0) (x0.length : Int) ((x0.length : Int) == 3) (mx t563 0) 0 (-1) 0 0 x5) else (impl_readInsA.j2 k x0 (mx t563 0) (mx t563 0) (x0.length : Int) false (mx t563 0) 0 (-1) 0 0 x5)))
def impl_readInsA.j2 : Nat → List ByteArray → Int → Int → Int → Bool → Int → Int → Int → Int → Int → Int → Option (Int × Int × Int × Int × Int × Int × Bool)
 | 0, _, _, _, _, _, _, _, _, _, _, _ => none
 | k + 1, x0, x8, x10, x11, x55, x565000, x565001, x565002, x565003, x565004, x565005 => if x55 = true then (impl_readInsA.j3 k x0 x8 x10 x11 x55 x565000 x565001 x565002 x565003 x565004 x565005) else ((impl_kind_asks.f x10).bind fun t566 => (if t566 = true then (impl_readInsA.j3 k x0 x8 x10 x11 (x11 == 4) x565000 x565001 x565002 x565003 x565004 x565005) else (impl_readInsA.j3 k x0 x8 x10 x11 false x565000 x565001 x565002 x565003 x565004 x565005)))
def impl_readInsA.j3 : Nat → List ByteArray → Int → Int → Int → Bool → Int → Int → Int → Int → Int → Int → Option (Int × Int × Int × Int × Int × Int × Bool)
 | 0, _, _, _, _, _, _, _, _, _, _, _ => none
 | k + 1, x0, x8, x10, x11, x55, x565000, x565001, x565002, x565003, x565004, x565005 => if x55 = true then (if 1 < (x0.length : Int) then ((impl_readReg.f (rdOf ByteArray.empty x0 1)).bind fun t568 => (if 2 < (x0.length : Int) then ((impl_Ins_setValue.f x565000 t568 x565002 x565003 x565004 x565005 (rdOf ByteArray.empty x0 2)).bind fun bt570 => ((impl_kind_asks.f x10).bind fun t576 => (if t576 = true then (if 3 < (x0.length : Int) then ((impl_number.f (rdOf ByteArray.empty x0 3)).bind fun t578 => (some (bt570.1, bt570.2.1, bt570.2.2.1, t578, bt570.2.2.2.2.1, bt570.2.2.2.2.2, true))) else (none)) else (some (bt570.1, bt570.2.1, bt570.2.2.1, bt570.2.2.2.1, bt570.2.2.2.2.1, bt570.2.2.2.2.2, true))))) else (none))) else (none)) else (if x8 = 16 then (impl_readInsA.j4 k x0 x8 x11 (x11 == 2) x565000 x565001 x565002 x565003 x565004 x565005) else (impl_readInsA.j4 k x0 x8 x11 false x565000 x565001 x565002 x565003 x565004 x565005))
def impl_readInsA.j4 : Nat → List ByteArray → Int → Int → Bool → Int → Int → Int → Int → Int → Int → Option (Int × Int × Int × Int × Int × Int × Bool)
 | 0, _, _, _, _, _, _, _, _, _, _ => none
 | k + 1, x0, x8, x11, x84, x565000, x565001, x565002, x565003, x565004, x565005 => if x84 = true then (if 1 < (x0.length : Int) then ((impl_number.f (rdOf ByteArray.empty x0 1)).bind fun t580 => (some (x565000, x565001, x565002, t580, x565004, x565005, true))) else (none)) else (if x8 = 17 then (impl_readInsA.j5 k x0 x8 x11 (x11 == 4) x565000 x565001 x565002 x565003 x565004 x565005) else (impl_readInsA.j5 k x0 x8 x11 false x565000 x565001 x565002 x565003 x565004 x565005))
def impl_readInsA.j5 : Nat → List ByteArray → Int → Int → Bool → Int → Int → Int → Int → Int → Int → Option (Int × Int × Int × Int × Int × Int × Bool)
 | 0, _, _, _, _, _, _, _, _, _, _ => none
 | k + 1, x0, x8, x11, x96, x565000, x565001, x565002, x565003, x565004, x565005 => if x96 = true then (if 1 < (x0.length : Int) then ((impl_readReg.f (rdOf ByteArray.empty x0 1)).bind fun t582 => (if 2 < (x0.length : Int) then ((impl_readReg.f (rdOf ByteArray.empty x0 2)).bind fun t584 => (if 3 < (x0.length : Int) then ((impl_number.f (rdOf ByteArray.empty x0 3)).bind fun t586 => (some (x565000, t582, t584, t586, x565004, x565005, true))) else (none))) else (none))) else (none)) else (none)
end
def impl_readInsA.f (k : Nat) (l0 : List ByteArray) : Option (Int × Int × Int × Int × Int × Int × Bool) := if 0 < (l0.length : Int) then (if ((rdOf ByteArray.empty l0 0).size : Int) > 1 then (if 0 ≤ (wrap64 (((rdOf ByteArray.empty l0 0).size : Int) - 1)) then (if (wrap64 (((rdOf ByteArray.empty l0 0).size : Int) - 1)) < ((rdOf ByteArray.empty l0 0).size : Int) then (if (bt (rdOf ByteArray.empty l0 0) (wrap64 (((rdOf ByteArray.empty l0 0).size : Int) - 1))) ≥ 48 then (impl_readInsA.j0 k l0 (rdOf ByteArray.empty l0 0) 0 ((rdOf ByteArray.empty l0 0).size : Int) (decide ((bt (rdOf ByteArray.empty l0 0) (wrap64 (((rdOf ByteArray.empty l0 0).size : Int) - 1))) ≤ 57))) else (impl_readInsA.j0 k l0 (rdOf ByteArray.empty l0 0) 0 ((rdOf ByteArray.empty l0 0).size : Int) false)) else (none)) else (none)) else (impl_readInsA.j0 k l0 (rdOf ByteArray.empty l0 0) 0 ((rdOf ByteArray.empty l0 0).size : Int) false)) else (none)
set_option maxHeartbeats 8000000 in
set_option maxRecDepth 100000 in
theorem impl_readInsA.calls (k : Nat) (A0 : Option Addr) (c0 : Nat) (l0 : List ByteArray) (r1 r2 : Int) (r3 r4 : Int) (r5 r6 : Int) (r7 : Bool) (w : World) (hr0 : Kd.C Kd.string w A0 l0.length l0) (hc0 : l0.length ≤ c0) (h : impl_readInsA.f k l0 = some (r1, r2, r3, r4, r5, r6, r7)) (zHT : Tryz.Te w := by first | exact zHT | exact Tryz.te_below zHT zB) :
  Calls Tryz.prog 15 #[.slice A0 l0.length c0] w fun e w' => e = .returned (.tuple #[.agg #[.int .i64 r1, .int .i64 r2, .int .i64 r3, .int .i64 r4, .int .i64 r5, .int .i64 r6], .bool r7]) ∧ Below w.heap.size w w' := by
 have hu24 := Tryz.underlying24
 have HR0 := Aside0.mk hr0
 have HC0 := Aside0.mk hc0
 clear hr0 hc0
 have HB := Aside0.mk (Below.refl w.heap.size w)
 have H := h
 clear h
 unfold impl_readInsA.f at H
 by_cases c2 : 0 < (l0.length : Int)
 ·rw [if_pos c2] at H
  have c2b0 : decide (0 < (l0.length : Int)) = true := decide_eq_true c2
  have c2b1 : decide (0 < l0.length) = true := decide_eq_true (by omega)
  clear c2
  have HC3 := Aside0.mk H
  clear H
  go_enter Tryz.func15, Tryz.ntmps15
  go_upto_region 4 with (first | ((with_reducible refine gate_dst (N := 2) rfl ?_); refine be 2 #[.int .i64 0, .int .i64 0, .int .i64 0, .int .i64 0, .int .i64 0, .int .i64 0] 24 ?_; intro gb558 hg w4 hbox hb; have BK558 := Aside0.mk hbox; have GW558 := zW hg; replace HB := zS hb; have GE558 := GW558; clear hb hbox hg; have p559 : 0 ≤ (0 : Int) := (by omega); have q559 : 0 < (l0.length : Int) := of_decide_eq_true (by first | (with_reducible assumption) | assumption); obtain ⟨ad559, e559, hx559_0⟩ := Kd.at_string HR0.out 0 p559 q559; cases e559; have qi559 : (0 < l0.length) = True := eq_true (by omega); (try rw [show ((0 : Int)).toNat = 0 from rfl] at hx559_0); (try rw [Addr.add_zero'] at hx559_0); replace hx559_0 := (HB.out.cell (World.block_lt_of_cell? w _ hx559_0)).trans hx559_0; replace p559 := eq_true p559; replace q559 := eq_true q559))
  (try simp only [Act.put, List.setIfInBounds_toArray, List.set_cons_zero, List.set_cons_succ])
  go_cut [33] (fun v33 wc => ∃ (kq : Nat) (x33_2 : Bool), v33 = .bool x33_2 ∧ Aside0 (impl_readInsA.j0 kq l0 (rdOf ByteArray.empty l0 0) 0 ((rdOf ByteArray.empty l0 0).size : Int) x33_2 = some (r1, r2, r3, r4, r5, r6, r7)) ∧ Aside0 (kq ≤ k) ∧ Aside0 (wc.heap[gb558]? = some (.cells #[.int .i64 0, .int .i64 0, .int .i64 0, .int .i64 0, .int .i64 0, .int .i64 0] 24 (0, 0))) ∧ Aside0 (Below w.heap.size w wc))
  case first =>
   have H := HC3.out
   clear HC3
   by_cases c5 : ((rdOf ByteArray.empty l0 0).size : Int) > 1
   ·rw [if_pos c5] at H
    have c5b0 : decide (1 < ((rdOf ByteArray.empty l0 0).size : Int)) = true := decide_eq_true c5
    have c5b1 : decide (1 < (rdOf ByteArray.empty l0 0).size) = true := decide_eq_true (by omega)
    clear c5
    (first | rw [c5b0] | (simp only [i64_w, i32_w]; rw [c5b0]) | skip)
    obtain ⟨ji6, hji6⟩ : ∃ j_ : Int, (wrap64 (((rdOf ByteArray.empty l0 0).size : Int) - 1)) = j_ := ⟨_, rfl⟩
    replace H : (if 0 ≤ (ji6) then (if (ji6) < ((rdOf ByteArray.empty l0 0).size : Int) then (if (bt (rdOf ByteArray.empty l0 0) (ji6)) ≥ 48 then (impl_readInsA.j0 k l0 (rdOf ByteArray.empty l0 0) 0 ((rdOf ByteArray.empty l0 0).size : Int) (decide ((bt (rdOf ByteArray.empty l0 0) (ji6)) ≤ 57))) else (impl_readInsA.j0 k l0 (rdOf ByteArray.empty l0 0) 0 ((rdOf ByteArray.empty l0 0).size : Int) false)) else (none)) else (none)) = some (r1, r2, r3, r4, r5, r6, r7) := by first | (rw [hji6] at H; exact H) | (simp only [hji6] at H ⊢; exact H)
    have hji6w : (IntKind.i64.wrap (((rdOf ByteArray.empty l0 0).size : Int) - 1)) = ji6 := (i64_w _).trans hji6
    by_cases c7 : 0 ≤ (ji6)
    ·rw [if_pos c7] at H
     have c7b0 : decide (0 ≤ (ji6)) = true := decide_eq_true c7
     clear c7
     by_cases c8 : (ji6) < ((rdOf ByteArray.empty l0 0).size : Int)
     ·rw [if_pos c8] at H
      have c8b0 : decide ((ji6) < ((rdOf ByteArray.empty l0 0).size : Int)) = true := decide_eq_true c8
      clear c8
      by_cases c10 : (bt (rdOf ByteArray.empty l0 0) (ji6)) ≥ 48
      ·rw [if_pos c10] at H
       have c10b0 : decide (48 ≤ (bt (rdOf ByteArray.empty l0 0) (ji6))) = true := decide_eq_true c10
       clear c10
       have H' := Aside0.mk H
       clear H
       have p9 : 0 ≤ ((ji6) : Int) := of_decide_eq_true (by first | (with_reducible assumption) | assumption)
       have q9 : (ji6) < ((rdOf ByteArray.empty l0 0).size : Int) := of_decide_eq_true (by first | (with_reducible assumption) | assumption)
       have hx9 := bt_at (rdOf ByteArray.empty l0 0) (ji6)
       replace p9 := eq_true p9
       replace q9 := eq_true q9
       have p11 : 0 ≤ ((ji6) : Int) := of_decide_eq_true (by first | (with_reducible assumption) | assumption)
       have q11 : (ji6) < ((rdOf ByteArray.empty l0 0).size : Int) := of_decide_eq_true (by first | (with_reducible assumption) | assumption)
       have hx11 := bt_at (rdOf ByteArray.empty l0 0) (ji6)
       replace p11 := eq_true p11
       replace q11 := eq_true q11
       go_wp2
       go_meet
       case rel => exact ⟨_, (decide ((bt (rdOf ByteArray.empty l0 0) (ji6)) ≤ 57)), (by first | rfl | (simp; done) | (simp only [← hji6] <;> (first | rfl | simp)) | (simp [*]; done)), H', ⟨by first | omega | exact Nat.le_refl _⟩, ⟨by exact bq BK558.out⟩, ⟨zB⟩⟩
      ·rw [if_neg c10] at H
       have c10b0 : decide (48 ≤ (bt (rdOf ByteArray.empty l0 0) (ji6))) = false := decide_eq_false c10
       clear c10
       have H' := Aside0.mk H
       clear H
       have p9 : 0 ≤ ((ji6) : Int) := of_decide_eq_true (by first | (with_reducible assumption) | assumption)
       have q9 : (ji6) < ((rdOf ByteArray.empty l0 0).size : Int) := of_decide_eq_true (by first | (with_reducible assumption) | assumption)
       have hx9 := bt_at (rdOf ByteArray.empty l0 0) (ji6)
       replace p9 := eq_true p9
       replace q9 := eq_true q9
       go_wp2
       go_meet
       case rel => exact ⟨_, (false), zQ, H', ⟨by first | omega | exact Nat.le_refl _⟩, ⟨by exact bq BK558.out⟩, ⟨zB⟩⟩
     ·exact absurd H (nN c8)
    ·exact absurd H (nN c7)
   ·rw [if_neg c5] at H
    have c5b0 : decide (1 < ((rdOf ByteArray.empty l0 0).size : Int)) = false := decide_eq_false c5
    have c5b1 : decide (1 < (rdOf ByteArray.empty l0 0).size) = false := decide_eq_false (by omega)
    clear c5
    (first | rw [c5b0] | (simp only [i64_w, i32_w]; rw [c5b0]) | skip)
    have H' := Aside0.mk H
    clear H
    go_wp2
    go_meet
    case rel => exact ⟨_, (false), zQ, H', ⟨by first | omega | exact Nat.le_refl _⟩, ⟨by exact bq BK558.out⟩, ⟨zB⟩⟩
  case rest =>
   clear HC3
   try clear c1
   try clear p1
   try clear q1
   try clear hx1
   try clear c2
   try clear c2b0
   try clear c2b1
   try clear p2
   try clear c5
   try clear c5b0
   try clear c5b1
   try clear p5
   try clear q5
   try clear hx5
   try clear qi5
   try clear p6
   try clear c7
   try clear c7b0
   try clear c8
   try clear c8b0
   try clear p9 p9
   try clear q9 q9
   try clear hx9
   try clear c10
   try clear c10b0
   try clear p11 p11
   try clear q11 q11
   try clear hx11
   try clear hx559_0
   try clear p559
   try clear q559
   obtain ⟨kq, x33_2, rfl, HA, HJ2, BK558, HB⟩ := hcut
   cases kq with
   | zero => exact absurd HA.out (by simp [impl_readInsA.j0])
   | succ kj2 =>
    have H := HA.out
    clear HA
    simp only [impl_readInsA.j0] at H
    have HC12 := Aside0.mk H
    clear H
    go_upto_if 33 with (fail)
    go_cut [4, 5] (fun v4 v5 wc => ∃ (kq : Nat) (x4_11 : ByteArray) (x5_11 : Int), v4 = .string x4_11 ∧ v5 = .int .i64 x5_11 ∧ Aside0 (impl_readInsA.j1 kq l0 x4_11 x5_11 = some (r1, r2, r3, r4, r5, r6, r7)) ∧ Aside0 (kq ≤ kj2) ∧ Aside0 (wc.heap[gb558]? = some (.cells #[.int .i64 0, .int .i64 0, .int .i64 0, .int .i64 0, .int .i64 0, .int .i64 0] 24 (0, 0))) ∧ Aside0 (Below w.heap.size w wc))
    case first =>
     have H := HC12.out
     clear HC12
     by_cases c13 : x33_2 = true
     ·subst c13
      rw [if_pos rfl] at H
      obtain ⟨ji14, hji14⟩ : ∃ j_ : Int, (wrap64 (((rdOf ByteArray.empty l0 0).size : Int) - 1)) = j_ := ⟨_, rfl⟩
      replace H : (if 0 ≤ (ji14) then (if (ji14) < ((rdOf ByteArray.empty l0 0).size : Int) then (if (ji14) ≤ ((rdOf ByteArray.empty l0 0).size : Int) then (impl_readInsA.j1 kj2 l0 ((rdOf ByteArray.empty l0 0).extract 0 ((ji14) : Int).toNat) (((bt (rdOf ByteArray.empty l0 0) (ji14)) - 48) % 256)) else (none)) else (none)) else (none)) = some (r1, r2, r3, r4, r5, r6, r7) := by first | (rw [hji14] at H; exact H) | (simp only [hji14] at H ⊢; exact H)
      have hji14w : (IntKind.i64.wrap (((rdOf ByteArray.empty l0 0).size : Int) - 1)) = ji14 := (i64_w _).trans hji14
      by_cases c15 : 0 ≤ (ji14)
      ·rw [if_pos c15] at H
       have c15b0 : decide (0 ≤ (ji14)) = true := decide_eq_true c15
       clear c15
       (first | rw [c15b0] | (simp only [i64_w, i32_w]; rw [c15b0]) | skip)
       by_cases c16 : (ji14) < ((rdOf ByteArray.empty l0 0).size : Int)
       ·rw [if_pos c16] at H
        have c16b0 : decide ((ji14) < ((rdOf ByteArray.empty l0 0).size : Int)) = true := decide_eq_true c16
        clear c16
        have c18b0 := eq_true (of_decide_eq_true (by first | (with_reducible assumption) | assumption) : 0 ≤ (ji14))
        by_cases c19 : (ji14) ≤ ((rdOf ByteArray.empty l0 0).size : Int)
        ·rw [if_pos c19] at H
         have c19b0 := eq_true c19
         have c19b1 : decide ((ji14) ≤ ((rdOf ByteArray.empty l0 0).size : Int)) = true := decide_eq_true c19
         clear c19
         have H' := Aside0.mk H
         clear H
         have p17 : 0 ≤ ((ji14) : Int) := of_decide_eq_true (by first | (with_reducible assumption) | assumption)
         have q17 : (ji14) < ((rdOf ByteArray.empty l0 0).size : Int) := of_decide_eq_true (by first | (with_reducible assumption) | assumption)
         have hx17 := bt_at (rdOf ByteArray.empty l0 0) (ji14)
         replace p17 := eq_true p17
         replace q17 := eq_true q17
         go_wp2
         go_meet
         case rel => exact ⟨_, ((rdOf ByteArray.empty l0 0).extract 0 ((ji14) : Int).toNat), (((bt (rdOf ByteArray.empty l0 0) (ji14)) - 48) % 256), (by first | rfl | (simp; done) | (simp only [← hji14] <;> (first | rfl | simp)) | (simp [*]; done)), (by first | rfl | (simp; done) | (simp only [← hji14] <;> (first | rfl | simp)) | (simp [*]; done)), H', ⟨by have := HJ2.out; first | omega | exact Nat.le_refl _⟩, ⟨by exact bq BK558.out⟩, ⟨zB⟩⟩
        ·exact absurd H (nN c19)
       ·exact absurd H (nN c16)
      ·exact absurd H (nN c15)
     ·replace c13 := Bool.eq_false_iff.mpr c13
      subst c13
      rw [if_neg (show ¬ (false = true) by decide)] at H
      have H' := Aside0.mk H
      clear H
      go_wp2
      go_meet
      case rel => exact ⟨_, ((rdOf ByteArray.empty l0 0)), (0), zQ, zQ, H', ⟨by have := HJ2.out; first | omega | exact Nat.le_refl _⟩, ⟨by exact bq BK558.out⟩, ⟨zB⟩⟩
    case rest =>
     clear HC12
     try clear c1
     try clear p1 p1
     try clear q1 q1
     try clear hx1
     try clear c2
     try clear c2b0
     try clear c2b1
     try clear p2 p2
     try clear c5
     try clear c5b0
     try clear c5b1
     try clear p5 p5
     try clear q5 q5
     try clear hx5
     try clear qi5
     try clear p6 p6
     try clear c7
     try clear c7b0
     try clear c8
     try clear c8b0
     try clear p9 p9
     try clear q9 q9
     try clear hx9
     try clear c10
     try clear c10b0
     try clear p11 p11
     try clear q11 q11
     try clear hx11
     try clear c13
     try clear c15
     try clear c15b0
     try clear c16
     try clear c16b0
     try clear p17 p17
     try clear q17 q17
     try clear hx17
     try clear c18
     try clear c18b0
     try clear c19
     try clear c19b0
     try clear c19b1
     try clear hx559_0
     try clear p559
     try clear q559
     obtain ⟨kq, x4_11, x5_11, rfl, rfl, HA, HJ11, BK558, HB⟩ := hcut
     cases kq with
     | zero => exact absurd HA.out (by simp [impl_readInsA.j1])
     | succ kj11 =>
      have H := HA.out
      clear HA
      simp only [impl_readInsA.j1] at H
      have AC_impl_opWords := Aside0.mk (show impl_opWords.f = some impl_opWords.L from rfl)
      obtain ⟨y560, hy560⟩ : ∃ y_ : List ByteArray, y_ = (impl_opWords.L) := ⟨_, rfl⟩
      replace H : ((slices_Index_string_string.f kj11 y560 x4_11).bind fun t563 => ((impl_kind_reckons.f (mx t563 0)).bind fun t565 => (if t565 = true then (impl_readInsA.j2 kj11 l0 (mx t563 0) (mx t563 0) (l0.length : Int) ((l0.length : Int) == 3) (mx t563 0) 0 (-1) 0 0 x5_11) else (impl_readInsA.j2 kj11 l0 (mx t563 0) (mx t563 0) (l0.length : Int) false (mx t563 0) 0 (-1) 0 0 x5_11)))) = some (r1, r2, r3, r4, r5, r6, r7) := by first | (rw [hy560]; with_reducible exact H) | (have H2_ := (Option.bind_some _ _).symm.trans H; rw [hy560]; with_reducible exact H2_) | (have H2_ := (Option.bind_some _ _).symm.trans H; with_reducible exact H2_) | with_reducible exact H | (rw [hy560]; exact H) | exact H
      have Ny560 := Aside0.mk hy560
      clear hy560
      replace H := oA H
      obtain ⟨t563, A20, H⟩ := H
      try dsimp only at H
      obtain ⟨ji21, hji21⟩ : ∃ j_ : Int, (mx t563 0) = j_ := ⟨_, rfl⟩
      replace H : ((impl_kind_reckons.f (ji21)).bind fun t565 => (if t565 = true then (impl_readInsA.j2 kj11 l0 ji21 ji21 (l0.length : Int) ((l0.length : Int) == 3) ji21 0 (-1) 0 0 x5_11) else (impl_readInsA.j2 kj11 l0 ji21 ji21 (l0.length : Int) false ji21 0 (-1) 0 0 x5_11))) = some (r1, r2, r3, r4, r5, r6, r7) := by first | (rw [hji21] at H; exact H) | (simp only [hji21] at H ⊢; exact H)
      (try rw [hji21] at AC_impl_opWords)
      (try rw [hji21] at A20)
      (try (have hji21l : 0 ≤ ji21 := by (rw [← hji21]; unfold mx; (repeat' split) <;> omega)))
      (try (have hji21m : 0 ≤ ji21 := by omega))
      have hji21_ : (if t563 < 0 then 0 else t563) = ji21 := hji21
      have HC22 := Aside0.mk H
      clear H
      go_upto_region 12 with (first | ((with_reducible refine gate_callee (f := 25) rfl ?_); refine gl 44 Tryz.func25 #[] ?_; (with_reducible refine (impl_opWords.calls  impl_opWords.L _ AC_impl_opWords.out).mono ?_); rintro e w23 ⟨rfl, hb⟩; refine ⟨_, rfl, ?_⟩; replace BK558 := zb BK558 hb rfl; replace HB := zS hb; try clear hb) | ((with_reducible refine gate_dst (N := 7) rfl ?_); refine impl_opWords.var _ rfl rfl rfl rfl rfl rfl (fun _ => rfl) (fun _ => rfl) (Below.refl _ _) (Nat.le_refl _) ?_; intro ga_v561; intro v561 w24 hsl_v561 ho25 hb hg_ hnew_; clear hg_ hnew_; (first | rw [← Ny560.out] at ho25 | (simp only [Int.reduceToNat] at ho25; rw [← Ny560.out] at ho25)); have HO562 := Aside0.mk (Kd.R_lower ho25 (below_size zB)); replace BK558 := zb BK558 hb rfl; replace HB := zS hb; clear hb ho25; obtain ⟨Ao26, co26, eo26⟩ := Kd.R_slice HO562.out; subst eo26) | ((with_reducible refine gate_callee (f := 38) rfl ?_); refine gl 47 Tryz.func38 #[.slice Ao26 y560.length co26, .string x4_11] ?_; (with_reducible refine (slices_Index_string_string.calls kj11 _ _ y560 x4_11 t563 _ ?side1 ?side2 A20.out).mono ?_); (case side1 => exact zC HO562); (case side2 => exact (Kd.R_reads' HO562.out).2.1); rintro e w' ⟨rfl, ⟨nd, rfl⟩⟩; refine ⟨_, rfl, ?_⟩; (try (rw [drewN_self w24]; generalize hq_ : World.drewN w24 _ = w24; have n0_ : Aside0 (Kd.R Kd.string 48 w24 w.heap.size (fun _ => True) (.slice Ao26 y560.length co26) y560) := ⟨by rw [← hq_]; exact (zU HO562)⟩; have n1_ : Aside0 (w24.heap[gb558]? = some (.cells #[.int .i64 0, .int .i64 0, .int .i64 0, .int .i64 0, .int .i64 0, .int .i64 0] 24 (0, 0))) := ⟨by rw [← hq_]; exact (by exact bq BK558.out)⟩; have n2_ : Aside0 (Below w.heap.size w w24) := ⟨by rw [← hq_]; exact zB⟩; clear HO562 BK558 HB hq_; have HO562 := n0_; have BK558 := n1_; have HB := n2_; clear n0_ n1_ n2_))) | ((with_reducible refine gate_dst (N := 9) rfl ?_); refine be 9 #[.int .i64 0, .int .i64 0, .int .i64 0, .int .i64 0, .int .i64 0, .int .i64 0] 24 ?_; intro gb564 hg w27 hbox hb; replace HO562 := Aside0.mk (Kd.R_below (zU HO562) hb); have BK564 := Aside0.mk hbox; have GW564 := zW hg; replace HB := zS hb; have GE564 := GW564; have NB558_564 := zl BK558 hg rfl; have NB564_558 := zg BK558 hg rfl; replace BK558 := zb BK558 hb rfl; clear hb hbox hg; have hnb28 := NB564_558.out; have hnc28 := NB558_564.out; obtain ⟨u29_0, u29_1, u29_2, u29_3, u29_4, u29_5, v29_0, v29_1, v29_2, v29_3, v29_4, v29_5⟩ := zc6 BK564))
      (try simp only [Act.put, List.setIfInBounds_toArray, List.set_cons_zero, List.set_cons_succ])
      go_cut [55] (fun v55 wc => ∃ (kq : Nat) (x55_21 : Bool), v55 = .bool x55_21 ∧ Aside0 (impl_readInsA.j2 kq l0 ji21 ji21 (l0.length : Int) x55_21 ji21 0 (-1) 0 0 x5_11 = some (r1, r2, r3, r4, r5, r6, r7)) ∧ Aside0 (kq ≤ kj11) ∧ Aside0 (wc.heap[gb558]? = some (.cells #[.int .i64 0, .int .i64 0, .int .i64 0, .int .i64 0, .int .i64 0, .int .i64 0] 24 (0, 0))) ∧ Aside0 (wc.heap[gb564]? = some (.cells #[.int .i64 ji21, .int .i64 0, .int .i64 (-1), .int .i64 0, .int .i64 0, .int .i64 x5_11] 24 (0, 0))) ∧ Aside0 (Below w.heap.size w wc))
      case first =>
       have H := HC22.out
       clear HC22
       replace H := oA H
       obtain ⟨t565, A30, H⟩ := H
       try dsimp only at H
       by_cases c31 : t565 = true
       ·subst c31
        rw [if_pos rfl] at H
        have H' := Aside0.mk H
        clear H
        go_wp2_with (first | ((with_reducible refine gate_callee (f := 20) rfl ?_); refine goesL_ (some 57) rfl rfl Tryz.func20 (by kernel_rfl) rfl #[.int .i64 ji21] rfl (by (try simp only [List.map_toArray, List.map_cons, List.map_nil]); first | done | (simp only [hji21]; rfl) | rfl | (simp only [List.length_drop, List.length_take]; rfl)) ?_; (with_reducible refine (impl_kind_reckons.calls ji21 true _ A30.out).mono ?_); rintro e w' ⟨rfl, ⟨nd, rfl⟩⟩; refine ⟨_, rfl, ?_⟩))
        go_meet
        case rel => exact ⟨_, (((l0.length : Int) == 3)), zQ, H', ⟨by have := HJ2.out; have := HJ11.out; first | omega | exact Nat.le_refl _⟩, ⟨by refine fq ?_ NB558_564.out; refine fq ?_ NB558_564.out; refine fq ?_ NB558_564.out; refine fq ?_ NB558_564.out; refine fq ?_ NB558_564.out; refine fq ?_ NB558_564.out; exact bq BK558.out⟩, ⟨by refine bq ?_; refine blk_put (cs := #[.int .i64 ji21, .int .i64 0, .int .i64 (-1), .int .i64 0, .int .i64 0, .int .i64 0]) ?_ 5 _ rfl; refine bq ?_; refine blk_put (cs := #[.int .i64 ji21, .int .i64 0, .int .i64 (-1), .int .i64 0, .int .i64 0, .int .i64 0]) ?_ 4 _ rfl; refine bq ?_; refine blk_put (cs := #[.int .i64 ji21, .int .i64 0, .int .i64 (-1), .int .i64 0, .int .i64 0, .int .i64 0]) ?_ 3 _ rfl; refine bq ?_; refine blk_put (cs := #[.int .i64 ji21, .int .i64 0, .int .i64 0, .int .i64 0, .int .i64 0, .int .i64 0]) ?_ 2 _ rfl; refine bq ?_; refine blk_put (cs := #[.int .i64 ji21, .int .i64 0, .int .i64 0, .int .i64 0, .int .i64 0, .int .i64 0]) ?_ 1 _ rfl; refine bq ?_; refine blk_put (cs := #[.int .i64 0, .int .i64 0, .int .i64 0, .int .i64 0, .int .i64 0, .int .i64 0]) ?_ 0 _ rfl; exact bq BK564.out⟩, ⟨zB⟩⟩
       ·replace c31 := Bool.eq_false_iff.mpr c31
        subst c31
        rw [if_neg (show ¬ (false = true) by decide)] at H
        have H' := Aside0.mk H
        clear H
        go_wp2_with (first | ((with_reducible refine gate_callee (f := 20) rfl ?_); refine goesL_ (some 57) rfl rfl Tryz.func20 (by kernel_rfl) rfl #[.int .i64 ji21] rfl (by (try simp only [List.map_toArray, List.map_cons, List.map_nil]); first | done | (simp only [hji21]; rfl) | rfl | (simp only [List.length_drop, List.length_take]; rfl)) ?_; (with_reducible refine (impl_kind_reckons.calls ji21 false _ A30.out).mono ?_); rintro e w' ⟨rfl, ⟨nd, rfl⟩⟩; refine ⟨_, rfl, ?_⟩))
        go_meet
        case rel => exact ⟨_, (false), zQ, H', ⟨by have := HJ2.out; have := HJ11.out; first | omega | exact Nat.le_refl _⟩, ⟨by refine fq ?_ NB558_564.out; refine fq ?_ NB558_564.out; refine fq ?_ NB558_564.out; refine fq ?_ NB558_564.out; refine fq ?_ NB558_564.out; refine fq ?_ NB558_564.out; exact bq BK558.out⟩, ⟨by refine bq ?_; refine blk_put (cs := #[.int .i64 ji21, .int .i64 0, .int .i64 (-1), .int .i64 0, .int .i64 0, .int .i64 0]) ?_ 5 _ rfl; refine bq ?_; refine blk_put (cs := #[.int .i64 ji21, .int .i64 0, .int .i64 (-1), .int .i64 0, .int .i64 0, .int .i64 0]) ?_ 4 _ rfl; refine bq ?_; refine blk_put (cs := #[.int .i64 ji21, .int .i64 0, .int .i64 (-1), .int .i64 0, .int .i64 0, .int .i64 0]) ?_ 3 _ rfl; refine bq ?_; refine blk_put (cs := #[.int .i64 ji21, .int .i64 0, .int .i64 0, .int .i64 0, .int .i64 0, .int .i64 0]) ?_ 2 _ rfl; refine bq ?_; refine blk_put (cs := #[.int .i64 ji21, .int .i64 0, .int .i64 0, .int .i64 0, .int .i64 0, .int .i64 0]) ?_ 1 _ rfl; refine bq ?_; refine blk_put (cs := #[.int .i64 0, .int .i64 0, .int .i64 0, .int .i64 0, .int .i64 0, .int .i64 0]) ?_ 0 _ rfl; exact bq BK564.out⟩, ⟨zB⟩⟩
      case rest =>
       clear HC22
       try clear c1
       try clear p1 p1
       try clear q1 q1
       try clear hx1
       try clear c2
       try clear c2b0
       try clear c2b1
       try clear p2 p2
       try clear c3
       try clear c5
       try clear c5b0
       try clear c5b1
       try clear p5 p5
       try clear q5 q5
       try clear hx5
       try clear qi5
       try clear p6 p6
       try clear c7
       try clear c7b0
       try clear c8
       try clear c8b0
       try clear p9 p9
       try clear q9 q9
       try clear hx9
       try clear c10
       try clear c10b0
       try clear p11 p11
       try clear q11 q11
       try clear hx11
       try clear c13
       try clear c15
       try clear c15b0
       try clear c16
       try clear c16b0
       try clear p17 p17
       try clear q17 q17
       try clear hx17
       try clear c18
       try clear c18b0
       try clear c19
       try clear c19b0
       try clear c19b1
       try clear c20
       try clear c25
       try clear c28
       try clear c31
       try clear u29_0 u29_1 u29_2 u29_3 u29_4 u29_5 v29_0 v29_1 v29_2 v29_3 v29_4 v29_5
       try clear hx559_0
       try clear p559
       try clear q559
       obtain ⟨kq, x55_21, rfl, HA, HJ21, BK558, BK564, HB⟩ := hcut
       cases kq with
       | zero => exact absurd HA.out (by simp [impl_readInsA.j2])
       | succ kj21 =>
        have H := HA.out
        clear HA
        simp only [impl_readInsA.j2] at H
        have HC32 := Aside0.mk H
        clear H
        go_upto_if 55 with (fail)
        go_cut [55] (fun v55 wc => ∃ (kq : Nat) (x55_31 : Bool), v55 = .bool x55_31 ∧ Aside0 (impl_readInsA.j3 kq l0 ji21 ji21 (l0.length : Int) x55_31 ji21 0 (-1) 0 0 x5_11 = some (r1, r2, r3, r4, r5, r6, r7)) ∧ Aside0 (kq ≤ kj21) ∧ Aside0 (wc.heap[gb558]? = some (.cells #[.int .i64 0, .int .i64 0, .int .i64 0, .int .i64 0, .int .i64 0, .int .i64 0] 24 (0, 0))) ∧ Aside0 (wc.heap[gb564]? = some (.cells #[.int .i64 ji21, .int .i64 0, .int .i64 (-1), .int .i64 0, .int .i64 0, .int .i64 x5_11] 24 (0, 0))) ∧ Aside0 (Below w.heap.size w wc))
        case first =>
         have H := HC32.out
         clear HC32
         by_cases c33 : x55_21 = true
         ·subst c33
          rw [if_pos rfl] at H
          have H' := Aside0.mk H
          clear H
          go_wp2
          go_meet
          case rel => exact ⟨_, (true), zQ, H', ⟨by have := HJ2.out; have := HJ11.out; have := HJ21.out; first | omega | exact Nat.le_refl _⟩, ⟨by exact bq BK558.out⟩, ⟨by exact bq BK564.out⟩, ⟨zB⟩⟩
         ·replace c33 := Bool.eq_false_iff.mpr c33
          subst c33
          rw [if_neg (show ¬ (false = true) by decide)] at H
          replace H := oA H
          obtain ⟨t566, A34, H⟩ := H
          try dsimp only at H
          by_cases c35 : t566 = true
          ·subst c35
           rw [if_pos rfl] at H
           have H' := Aside0.mk H
           clear H
           go_wp2_with (first | ((with_reducible refine gate_callee (f := 23) rfl ?_); refine goesL_ (some 63) rfl rfl Tryz.func23 (by kernel_rfl) rfl #[.int .i64 ji21] rfl (by (try simp only [List.map_toArray, List.map_cons, List.map_nil]); first | done | (simp only [hji21]; rfl) | rfl | (simp only [List.length_drop, List.length_take]; rfl)) ?_; (with_reducible refine (impl_kind_asks.calls ji21 true _ A34.out).mono ?_); rintro e w' ⟨rfl, ⟨nd, rfl⟩⟩; refine ⟨_, rfl, ?_⟩))
           go_meet
           case rel => exact ⟨_, (((l0.length : Int) == 4)), zQ, H', ⟨by have := HJ2.out; have := HJ11.out; have := HJ21.out; first | omega | exact Nat.le_refl _⟩, ⟨by exact bq BK558.out⟩, ⟨by exact bq BK564.out⟩, ⟨zB⟩⟩
          ·replace c35 := Bool.eq_false_iff.mpr c35
           subst c35
           rw [if_neg (show ¬ (false = true) by decide)] at H
           have H' := Aside0.mk H
           clear H
           go_wp2_with (first | ((with_reducible refine gate_callee (f := 23) rfl ?_); refine goesL_ (some 63) rfl rfl Tryz.func23 (by kernel_rfl) rfl #[.int .i64 ji21] rfl (by (try simp only [List.map_toArray, List.map_cons, List.map_nil]); first | done | (simp only [hji21]; rfl) | rfl | (simp only [List.length_drop, List.length_take]; rfl)) ?_; (with_reducible refine (impl_kind_asks.calls ji21 false _ A34.out).mono ?_); rintro e w' ⟨rfl, ⟨nd, rfl⟩⟩; refine ⟨_, rfl, ?_⟩))
           go_meet
           case rel => exact ⟨_, (false), zQ, H', ⟨by have := HJ2.out; have := HJ11.out; have := HJ21.out; first | omega | exact Nat.le_refl _⟩, ⟨by exact bq BK558.out⟩, ⟨by exact bq BK564.out⟩, ⟨zB⟩⟩
        case rest =>
         clear HC32
         try clear c1
         try clear p1 p1
         try clear q1 q1
         try clear hx1
         try clear c2
         try clear c2b0
         try clear c2b1
         try clear p2 p2
         try clear c3
         try clear c5
         try clear c5b0
         try clear c5b1
         try clear p5 p5
         try clear q5 q5
         try clear hx5
         try clear qi5
         try clear p6 p6
         try clear c7
         try clear c7b0
         try clear c8
         try clear c8b0
         try clear p9 p9
         try clear q9 q9
         try clear hx9
         try clear c10
         try clear c10b0
         try clear p11 p11
         try clear q11 q11
         try clear hx11
         try clear c13
         try clear c15
         try clear c15b0
         try clear c16
         try clear c16b0
         try clear p17 p17
         try clear q17 q17
         try clear hx17
         try clear c18
         try clear c18b0
         try clear c19
         try clear c19b0
         try clear c19b1
         try clear c20
         try clear c23
         try clear c25
         try clear c28
         try clear c31
         try clear c33
         try clear c35
         try clear u29_0 u29_1 u29_2 u29_3 u29_4 u29_5 v29_0 v29_1 v29_2 v29_3 v29_4 v29_5
         try clear hx559_0
         try clear p559
         try clear q559
         obtain ⟨kq, x55_31, rfl, HA, HJ31, BK558, BK564, HB⟩ := hcut
         cases kq with
         | zero => exact absurd HA.out (by simp [impl_readInsA.j3])
         | succ kj31 =>
          have H := HA.out
          clear HA
          simp only [impl_readInsA.j3] at H
          by_cases c36 : x55_31 = true
          ·subst c36
           rw [if_pos rfl] at H
           by_cases c37 : 1 < (l0.length : Int)
           ·rw [if_pos c37] at H
            have c37b0 : decide (1 < (l0.length : Int)) = true := decide_eq_true c37
            have c37b1 : decide (1 < l0.length) = true := decide_eq_true (by omega)
            clear c37
            replace H := oA H
            obtain ⟨t568, A38, H⟩ := H
            try dsimp only at H
            by_cases c39 : 2 < (l0.length : Int)
            ·rw [if_pos c39] at H
             have c39b0 : decide (2 < (l0.length : Int)) = true := decide_eq_true c39
             have c39b1 : decide (2 < l0.length) = true := decide_eq_true (by omega)
             clear c39
             replace H := oA H
             obtain ⟨⟨t570, t571, t572, t573, t574, t575⟩, A40, H⟩ := H
             try dsimp only at H
             replace H := oA H
             obtain ⟨t576, A41, H⟩ := H
             try dsimp only at H
             by_cases c42 : t576 = true
             ·subst c42
              rw [if_pos rfl] at H
              by_cases c43 : 3 < (l0.length : Int)
              ·rw [if_pos c43] at H
               have c43b0 : decide (3 < (l0.length : Int)) = true := decide_eq_true c43
               have c43b1 : decide (3 < l0.length) = true := decide_eq_true (by omega)
               clear c43
               replace H := oA H
               obtain ⟨t578, A44, H⟩ := H
               try dsimp only at H
               simp only [Option.some.injEq, Prod.mk.injEq] at H
               obtain ⟨rfl, rfl, rfl, rfl, rfl, rfl, rfl⟩ := H
               have p567 : 0 ≤ (1 : Int) := (by omega)
               have q567 : 1 < (l0.length : Int) := of_decide_eq_true (by first | (with_reducible assumption) | assumption)
               obtain ⟨ad567, e567, hx567_0⟩ := Kd.at_string HR0.out 1 p567 q567
               obtain rfl : ad559 = ad567 := (by injection e567)
               (try simp only [show (1 : Int).toNat = 1 from rfl, Nat.reduceMul, Nat.reduceEqDiff, Go.Addr.add, ↓reduceIte] at hx567_0)
               have qi567 : (1 < l0.length) = True := eq_true (by omega)
               (try rw [show ((1 : Int)).toNat = 1 from rfl] at hx567_0)
               replace hx567_0 := (HB.out.cell (World.block_lt_of_cell? w _ hx567_0)).trans hx567_0
               replace p567 := eq_true p567
               replace q567 := eq_true q567
               go_wp2_with (first | ((with_reducible refine gate_callee (f := 39) rfl ?_); refine gl 71 Tryz.func39 #[.string (rdOf ByteArray.empty l0 1)] ?_; (with_reducible refine (impl_readReg.calls (rdOf ByteArray.empty l0 1) t568 _ A38.out).mono ?_); rintro e w45 ⟨rfl, hb⟩; refine ⟨_, rfl, ?_⟩; replace BK558 := zb BK558 hb rfl; replace BK564 := zb BK564 hb rfl; replace HB := zS hb; try clear hb; have hnb46 := NB564_558.out; have hnc46 := NB558_564.out; obtain ⟨u47_0, u47_1, u47_2, u47_3, u47_4, u47_5, v47_0, v47_1, v47_2, v47_3, v47_4, v47_5⟩ := zc6 BK564; have p569 : 0 ≤ (2 : Int) := (by omega); have q569 : 2 < (l0.length : Int) := of_decide_eq_true (by first | (with_reducible assumption) | assumption); obtain ⟨ad569, e569, hx569_0⟩ := Kd.at_string HR0.out 2 p569 q569; obtain rfl : ad559 = ad569 := (by injection e569); (try simp only [show (2 : Int).toNat = 2 from rfl, Nat.reduceMul, Nat.reduceEqDiff, Go.Addr.add, ↓reduceIte] at hx569_0); have qi569 : (2 < l0.length) = True := eq_true (by omega); (try rw [show ((2 : Int)).toNat = 2 from rfl] at hx569_0); have hn569_0 : ad559.block ≠ gb564 := Nat.ne_of_lt (Nat.lt_of_lt_of_le (by have := World.block_lt_of_cell? _ _ hx569_0; first | rwa [add_block] at this | exact this) GW564.out); replace hx569_0 := (HB.out.cell (World.block_lt_of_cell? w _ hx569_0)).trans hx569_0; replace hx569_0 := (cell_far (p := ⟨gb564, 1, none⟩) (by first | (rw [add_block]; exact hn569_0) | (show (Addr.add _ _).block ≠ _; rw [add_block]; exact hn569_0) | exact hn569_0) (.int .i64 t568)).trans hx569_0; clear hn569_0; replace p569 := eq_true p569; replace q569 := eq_true q569) | ((with_reducible refine gate_callee (f := 40) rfl ?_); refine gl 76 Tryz.func40 #[.pointer (some ⟨gb564, 0, none⟩), .string (rdOf ByteArray.empty l0 2)] ?_; (with_reducible refine (impl_Ins_setValue.calls gb564 ji21 t568 (-1) 0 0 x5_11 (rdOf ByteArray.empty l0 2) t570 t571 t572 t573 t574 t575 w _ ?side1 ?side2 A40.out).mono ?_); (case side1 => exact ⟨(by refine bq ?_; refine blk_put (cs := #[.int .i64 ji21, .int .i64 0, .int .i64 (-1), .int .i64 0, .int .i64 0, .int .i64 x5_11]) ?_ 1 _ rfl; exact bq BK564.out), GE564.out⟩); (case side2 => repeat (first | (with_reducible first | exact HB.out | apply below_alloc | apply pw_below_drewN | apply below_drew1 | refine below_set ?_ GE564.out | refine below_set ?_ GE558.out) | exact HB.out)); rintro e w48 ⟨rfl, hi, hb, hk⟩; refine ⟨_, rfl, ?_⟩; replace BK558 := Aside0.mk (KeepBut.blk hk (g' := gb558) (o := .cells #[.int .i64 0, .int .i64 0, .int .i64 0, .int .i64 0, .int .i64 0, .int .i64 0] 24 (0, 0)) (by refine fq ?_ NB558_564.out; exact bq BK558.out) NB558_564.out (by simp)); replace HB := Aside0.mk hb; replace BK564 := Aside0.mk (hi.1); (try clear hb); (try clear hb2); (try clear hk); (try clear hi)) | ((with_reducible refine gate_callee (f := 23) rfl ?_); refine goesL_ (some 78) rfl rfl Tryz.func23 (by kernel_rfl) rfl #[.int .i64 ji21] rfl (by (try simp only [List.map_toArray, List.map_cons, List.map_nil]); first | done | (simp only [hji21]; rfl) | rfl | (simp only [List.length_drop, List.length_take]; rfl)) ?_; (with_reducible refine (impl_kind_asks.calls ji21 true _ A41.out).mono ?_); rintro e w' ⟨rfl, ⟨nd, rfl⟩⟩; refine ⟨_, rfl, ?_⟩; (try (rw [drewN_self w48]; generalize hq_ : World.drewN w48 _ = w48; have n0_ : Aside0 (w48.heap[gb558]? = some (.cells #[.int .i64 0, .int .i64 0, .int .i64 0, .int .i64 0, .int .i64 0, .int .i64 0] 24 (0, 0))) := ⟨by rw [← hq_]; exact (by exact bq BK558.out)⟩; have n1_ : Aside0 (w48.heap[gb564]? = some (.cells #[.int .i64 t570, .int .i64 t571, .int .i64 t572, .int .i64 t573, .int .i64 t574, .int .i64 t575] 24 (0, 0))) := ⟨by rw [← hq_]; exact (by exact bq BK564.out)⟩; have n2_ : Aside0 (Below w.heap.size w w48) := ⟨by rw [← hq_]; exact zB⟩; clear BK558 BK564 HB hq_; have BK558 := n0_; have BK564 := n1_; have HB := n2_; clear n0_ n1_ n2_)); have p577 : 0 ≤ (3 : Int) := (by omega); have q577 : 3 < (l0.length : Int) := of_decide_eq_true (by first | (with_reducible assumption) | assumption); obtain ⟨ad577, e577, hx577_0⟩ := Kd.at_string HR0.out 3 p577 q577; obtain rfl : ad559 = ad577 := (by injection e577); (try simp only [show (3 : Int).toNat = 3 from rfl, Nat.reduceMul, Nat.reduceEqDiff, Go.Addr.add, ↓reduceIte] at hx577_0); have qi577 : (3 < l0.length) = True := eq_true (by omega); (try rw [show ((3 : Int)).toNat = 3 from rfl] at hx577_0); replace hx577_0 := (HB.out.cell (World.block_lt_of_cell? w _ hx577_0)).trans hx577_0; replace p577 := eq_true p577; replace q577 := eq_true q577) | ((with_reducible refine gate_callee (f := 41) rfl ?_); refine gl 82 Tryz.func41 #[.string (rdOf ByteArray.empty l0 3)] ?_; (with_reducible refine (impl_number.calls (rdOf ByteArray.empty l0 3) t578 _ A44.out).mono ?_); rintro e w49 ⟨rfl, hb⟩; refine ⟨_, rfl, ?_⟩; replace BK558 := zb BK558 hb rfl; replace BK564 := zb BK564 hb rfl; replace HB := zS hb; try clear hb; obtain ⟨u50_0, u50_1, u50_2, u50_3, u50_4, u50_5, v50_0, v50_1, v50_2, v50_3, v50_4, v50_5⟩ := zc6 BK564; obtain ⟨u51_0, u51_1, u51_2, u51_3, u51_4, u51_5, v51_0, v51_1, v51_2, v51_3, v51_4, v51_5⟩ := zc6 BK558))
               refine bodyPost_ret (results_ct rfl _ _ gb558 24 #[.int .i64 t570, .int .i64 t571, .int .i64 t572, .int .i64 t578, .int .i64 t574, .int .i64 t575] (0, 0) _ rfl (by refine bq ?_; refine blk_put (cs := #[.int .i64 t570, .int .i64 t571, .int .i64 t572, .int .i64 t578, .int .i64 t574, .int .i64 0]) ?_ 5 _ rfl; refine bq ?_; refine blk_put (cs := #[.int .i64 t570, .int .i64 t571, .int .i64 t572, .int .i64 t578, .int .i64 0, .int .i64 0]) ?_ 4 _ rfl; refine bq ?_; refine blk_put (cs := #[.int .i64 t570, .int .i64 t571, .int .i64 t572, .int .i64 0, .int .i64 0, .int .i64 0]) ?_ 3 _ rfl; refine bq ?_; refine blk_put (cs := #[.int .i64 t570, .int .i64 t571, .int .i64 0, .int .i64 0, .int .i64 0, .int .i64 0]) ?_ 2 _ rfl; refine bq ?_; refine blk_put (cs := #[.int .i64 t570, .int .i64 0, .int .i64 0, .int .i64 0, .int .i64 0, .int .i64 0]) ?_ 1 _ rfl; refine bq ?_; refine blk_put (cs := #[.int .i64 0, .int .i64 0, .int .i64 0, .int .i64 0, .int .i64 0, .int .i64 0]) ?_ 0 _ rfl; refine fq ?_ NB558_564.out; exact bq BK558.out) Tryz.underlying24 rfl (by kernel_rfl)) rfl ?_
               exact ⟨by first | rfl | (simp [errW_none, errW_some] <;> rfl) | (simp only [← hji21]; first | rfl | (simp [errW_none, errW_some] <;> rfl)) | (simp [*, errW_none, errW_some] <;> rfl), zB⟩
              ·exact absurd H (nN c43)
             ·replace c42 := Bool.eq_false_iff.mpr c42
              subst c42
              rw [if_neg (show ¬ (false = true) by decide)] at H
              simp only [Option.some.injEq, Prod.mk.injEq] at H
              obtain ⟨rfl, rfl, rfl, rfl, rfl, rfl, rfl⟩ := H
              have p567 : 0 ≤ (1 : Int) := (by omega)
              have q567 : 1 < (l0.length : Int) := of_decide_eq_true (by first | (with_reducible assumption) | assumption)
              obtain ⟨ad567, e567, hx567_0⟩ := Kd.at_string HR0.out 1 p567 q567
              obtain rfl : ad559 = ad567 := (by injection e567)
              (try simp only [show (1 : Int).toNat = 1 from rfl, Nat.reduceMul, Nat.reduceEqDiff, Go.Addr.add, ↓reduceIte] at hx567_0)
              have qi567 : (1 < l0.length) = True := eq_true (by omega)
              (try rw [show ((1 : Int)).toNat = 1 from rfl] at hx567_0)
              replace hx567_0 := (HB.out.cell (World.block_lt_of_cell? w _ hx567_0)).trans hx567_0
              replace p567 := eq_true p567
              replace q567 := eq_true q567
              go_wp2_with (first | ((with_reducible refine gate_callee (f := 39) rfl ?_); refine gl 71 Tryz.func39 #[.string (rdOf ByteArray.empty l0 1)] ?_; (with_reducible refine (impl_readReg.calls (rdOf ByteArray.empty l0 1) t568 _ A38.out).mono ?_); rintro e w52 ⟨rfl, hb⟩; refine ⟨_, rfl, ?_⟩; replace BK558 := zb BK558 hb rfl; replace BK564 := zb BK564 hb rfl; replace HB := zS hb; try clear hb; have hnb53 := NB564_558.out; have hnc53 := NB558_564.out; obtain ⟨u54_0, u54_1, u54_2, u54_3, u54_4, u54_5, v54_0, v54_1, v54_2, v54_3, v54_4, v54_5⟩ := zc6 BK564; have p569 : 0 ≤ (2 : Int) := (by omega); have q569 : 2 < (l0.length : Int) := of_decide_eq_true (by first | (with_reducible assumption) | assumption); obtain ⟨ad569, e569, hx569_0⟩ := Kd.at_string HR0.out 2 p569 q569; obtain rfl : ad559 = ad569 := (by injection e569); (try simp only [show (2 : Int).toNat = 2 from rfl, Nat.reduceMul, Nat.reduceEqDiff, Go.Addr.add, ↓reduceIte] at hx569_0); have qi569 : (2 < l0.length) = True := eq_true (by omega); (try rw [show ((2 : Int)).toNat = 2 from rfl] at hx569_0); have hn569_0 : ad559.block ≠ gb564 := Nat.ne_of_lt (Nat.lt_of_lt_of_le (by have := World.block_lt_of_cell? _ _ hx569_0; first | rwa [add_block] at this | exact this) GW564.out); replace hx569_0 := (HB.out.cell (World.block_lt_of_cell? w _ hx569_0)).trans hx569_0; replace hx569_0 := (cell_far (p := ⟨gb564, 1, none⟩) (by first | (rw [add_block]; exact hn569_0) | (show (Addr.add _ _).block ≠ _; rw [add_block]; exact hn569_0) | exact hn569_0) (.int .i64 t568)).trans hx569_0; clear hn569_0; replace p569 := eq_true p569; replace q569 := eq_true q569) | ((with_reducible refine gate_callee (f := 40) rfl ?_); refine gl 76 Tryz.func40 #[.pointer (some ⟨gb564, 0, none⟩), .string (rdOf ByteArray.empty l0 2)] ?_; (with_reducible refine (impl_Ins_setValue.calls gb564 ji21 t568 (-1) 0 0 x5_11 (rdOf ByteArray.empty l0 2) t570 t571 t572 t573 t574 t575 w _ ?side1 ?side2 A40.out).mono ?_); (case side1 => exact ⟨(by refine bq ?_; refine blk_put (cs := #[.int .i64 ji21, .int .i64 0, .int .i64 (-1), .int .i64 0, .int .i64 0, .int .i64 x5_11]) ?_ 1 _ rfl; exact bq BK564.out), GE564.out⟩); (case side2 => repeat (first | (with_reducible first | exact HB.out | apply below_alloc | apply pw_below_drewN | apply below_drew1 | refine below_set ?_ GE564.out | refine below_set ?_ GE558.out) | exact HB.out)); rintro e w55 ⟨rfl, hi, hb, hk⟩; refine ⟨_, rfl, ?_⟩; replace BK558 := Aside0.mk (KeepBut.blk hk (g' := gb558) (o := .cells #[.int .i64 0, .int .i64 0, .int .i64 0, .int .i64 0, .int .i64 0, .int .i64 0] 24 (0, 0)) (by refine fq ?_ NB558_564.out; exact bq BK558.out) NB558_564.out (by simp)); replace HB := Aside0.mk hb; replace BK564 := Aside0.mk (hi.1); (try clear hb); (try clear hb2); (try clear hk); (try clear hi)) | ((with_reducible refine gate_callee (f := 23) rfl ?_); refine goesL_ (some 78) rfl rfl Tryz.func23 (by kernel_rfl) rfl #[.int .i64 ji21] rfl (by (try simp only [List.map_toArray, List.map_cons, List.map_nil]); first | done | (simp only [hji21]; rfl) | rfl | (simp only [List.length_drop, List.length_take]; rfl)) ?_; (with_reducible refine (impl_kind_asks.calls ji21 false _ A41.out).mono ?_); rintro e w' ⟨rfl, ⟨nd, rfl⟩⟩; refine ⟨_, rfl, ?_⟩; (try (rw [drewN_self w55]; generalize hq_ : World.drewN w55 _ = w55; have n0_ : Aside0 (w55.heap[gb558]? = some (.cells #[.int .i64 0, .int .i64 0, .int .i64 0, .int .i64 0, .int .i64 0, .int .i64 0] 24 (0, 0))) := ⟨by rw [← hq_]; exact (by exact bq BK558.out)⟩; have n1_ : Aside0 (w55.heap[gb564]? = some (.cells #[.int .i64 t570, .int .i64 t571, .int .i64 t572, .int .i64 t573, .int .i64 t574, .int .i64 t575] 24 (0, 0))) := ⟨by rw [← hq_]; exact (by exact bq BK564.out)⟩; have n2_ : Aside0 (Below w.heap.size w w55) := ⟨by rw [← hq_]; exact zB⟩; clear BK558 BK564 HB hq_; have BK558 := n0_; have BK564 := n1_; have HB := n2_; clear n0_ n1_ n2_)); obtain ⟨u56_0, u56_1, u56_2, u56_3, u56_4, u56_5, v56_0, v56_1, v56_2, v56_3, v56_4, v56_5⟩ := zc6 BK564; obtain ⟨u57_0, u57_1, u57_2, u57_3, u57_4, u57_5, v57_0, v57_1, v57_2, v57_3, v57_4, v57_5⟩ := zc6 BK558))
              refine bodyPost_ret (results_ct rfl _ _ gb558 24 #[.int .i64 t570, .int .i64 t571, .int .i64 t572, .int .i64 t573, .int .i64 t574, .int .i64 t575] (0, 0) _ rfl (by refine bq ?_; refine blk_put (cs := #[.int .i64 t570, .int .i64 t571, .int .i64 t572, .int .i64 t573, .int .i64 t574, .int .i64 0]) ?_ 5 _ rfl; refine bq ?_; refine blk_put (cs := #[.int .i64 t570, .int .i64 t571, .int .i64 t572, .int .i64 t573, .int .i64 0, .int .i64 0]) ?_ 4 _ rfl; refine bq ?_; refine blk_put (cs := #[.int .i64 t570, .int .i64 t571, .int .i64 t572, .int .i64 0, .int .i64 0, .int .i64 0]) ?_ 3 _ rfl; refine bq ?_; refine blk_put (cs := #[.int .i64 t570, .int .i64 t571, .int .i64 0, .int .i64 0, .int .i64 0, .int .i64 0]) ?_ 2 _ rfl; refine bq ?_; refine blk_put (cs := #[.int .i64 t570, .int .i64 0, .int .i64 0, .int .i64 0, .int .i64 0, .int .i64 0]) ?_ 1 _ rfl; refine bq ?_; refine blk_put (cs := #[.int .i64 0, .int .i64 0, .int .i64 0, .int .i64 0, .int .i64 0, .int .i64 0]) ?_ 0 _ rfl; exact bq BK558.out) Tryz.underlying24 rfl (by kernel_rfl)) rfl ?_
              exact ⟨by first | rfl | (simp [errW_none, errW_some] <;> rfl) | (simp only [← hji21]; first | rfl | (simp [errW_none, errW_some] <;> rfl)) | (simp [*, errW_none, errW_some] <;> rfl), zB⟩
            ·exact absurd H (nN c39)
           ·exact absurd H (nN c37)
          ·replace c36 := Bool.eq_false_iff.mpr c36
           subst c36
           rw [if_neg (show ¬ (false = true) by decide)] at H
           have HC58 := Aside0.mk H
           clear H
           go_upto_region 18 with (fail)
           go_cut [84] (fun v84 wc => ∃ (kq : Nat) (x84_57 : Bool), v84 = .bool x84_57 ∧ Aside0 (impl_readInsA.j4 kq l0 ji21 (l0.length : Int) x84_57 ji21 0 (-1) 0 0 x5_11 = some (r1, r2, r3, r4, r5, r6, r7)) ∧ Aside0 (kq ≤ kj31) ∧ Aside0 (wc.heap[gb558]? = some (.cells #[.int .i64 0, .int .i64 0, .int .i64 0, .int .i64 0, .int .i64 0, .int .i64 0] 24 (0, 0))) ∧ Aside0 (wc.heap[gb564]? = some (.cells #[.int .i64 ji21, .int .i64 0, .int .i64 (-1), .int .i64 0, .int .i64 0, .int .i64 x5_11] 24 (0, 0))) ∧ Aside0 (Below w.heap.size w wc))
           case first =>
            have H := HC58.out
            clear HC58
            by_cases c59 : ji21 = 16
            ·rw [if_pos c59] at H
             have c59b0 : (ji21 == 16) = true := beq_iff_eq.mpr c59
             have c59b1 : (ji21 != 16) = false := bne_eq_false_iff_eq.mpr c59
             clear c59
             (first | rw [c59b0] | (simp only [i64_w, i32_w]; rw [c59b0]) | skip)
             have H' := Aside0.mk H
             clear H
             go_wp2
             go_meet
             case rel => exact ⟨_, (((l0.length : Int) == 2)), zQ, H', ⟨by have := HJ2.out; have := HJ11.out; have := HJ21.out; have := HJ31.out; first | omega | exact Nat.le_refl _⟩, ⟨by exact bq BK558.out⟩, ⟨by exact bq BK564.out⟩, ⟨zB⟩⟩
            ·rw [if_neg c59] at H
             have c59b0 : (ji21 == 16) = false := beq_eq_false_iff_ne.mpr c59
             have c59b1 : (ji21 != 16) = true := bne_iff_ne.mpr c59
             (first | rw [c59b0] | (simp only [i64_w, i32_w]; rw [c59b0]) | skip)
             have H' := Aside0.mk H
             clear H
             go_wp2
             go_meet
             case rel => exact ⟨_, (false), zQ, H', ⟨by have := HJ2.out; have := HJ11.out; have := HJ21.out; have := HJ31.out; first | omega | exact Nat.le_refl _⟩, ⟨by exact bq BK558.out⟩, ⟨by exact bq BK564.out⟩, ⟨zB⟩⟩
           case rest =>
            clear HC58
            try clear c1
            try clear p1 p1
            try clear q1 q1
            try clear hx1
            try clear c2
            try clear c2b0
            try clear c2b1
            try clear p2 p2
            try clear c3
            try clear c4
            try clear c5
            try clear c5b0
            try clear c5b1
            try clear p5 p5
            try clear q5 q5
            try clear hx5
            try clear qi5
            try clear p6 p6
            try clear c7
            try clear c7b0
            try clear c8
            try clear c8b0
            try clear p9 p9
            try clear q9 q9
            try clear hx9
            try clear c10
            try clear c10b0
            try clear p11 p11
            try clear q11 q11
            try clear hx11
            try clear c13
            try clear c15
            try clear c15b0
            try clear c16
            try clear c16b0
            try clear p17 p17
            try clear q17 q17
            try clear hx17
            try clear c18
            try clear c18b0
            try clear c19
            try clear c19b0
            try clear c19b1
            try clear c20
            try clear c23
            try clear c25
            try clear c28
            try clear c31
            try clear c33
            try clear c35
            try clear c36
            try clear c37
            try clear c37b0
            try clear c37b1
            try clear c38
            try clear c39
            try clear c39b0
            try clear c39b1
            try clear c40
            try clear c41
            try clear c42
            try clear c43
            try clear c43b0
            try clear c43b1
            try clear c46
            try clear c53
            try clear p55
            try clear q55
            try clear hx55
            try clear p56
            try clear q56
            try clear hx56
            try clear qi56
            try clear p57
            try clear q57
            try clear hx57
            try clear qi57
            try clear c59
            try clear c59b0
            try clear c59b1
            try clear u29_0 u29_1 u29_2 u29_3 u29_4 u29_5 v29_0 v29_1 v29_2 v29_3 v29_4 v29_5
            try clear u47_0 u47_1 u47_2 u47_3 u47_4 u47_5 v47_0 v47_1 v47_2 v47_3 v47_4 v47_5
            try clear u50_0 u50_1 u50_2 u50_3 u50_4 u50_5 v50_0 v50_1 v50_2 v50_3 v50_4 v50_5
            try clear u51_0 u51_1 u51_2 u51_3 u51_4 u51_5 v51_0 v51_1 v51_2 v51_3 v51_4 v51_5
            try clear u54_0 u54_1 u54_2 u54_3 u54_4 u54_5 v54_0 v54_1 v54_2 v54_3 v54_4 v54_5
            try clear u56_0 u56_1 u56_2 u56_3 u56_4 u56_5 v56_0 v56_1 v56_2 v56_3 v56_4 v56_5
            try clear u57_0 u57_1 u57_2 u57_3 u57_4 u57_5 v57_0 v57_1 v57_2 v57_3 v57_4 v57_5
            try clear hx559_0
            try clear hx567_0
            try clear hx569_0
            try clear hx577_0
            try clear p559
            try clear p567
            try clear p569
            try clear p577
            try clear q559
            try clear q567
            try clear q569
            try clear q577
            obtain ⟨kq, x84_57, rfl, HA, HJ57, BK558, BK564, HB⟩ := hcut
            cases kq with
            | zero => exact absurd HA.out (by simp [impl_readInsA.j4])
            | succ kj57 =>
             have H := HA.out
             clear HA
             simp only [impl_readInsA.j4] at H
             by_cases c60 : x84_57 = true
             ·subst c60
              rw [if_pos rfl] at H
              by_cases c61 : 1 < (l0.length : Int)
              ·rw [if_pos c61] at H
               have c61b0 : decide (1 < (l0.length : Int)) = true := decide_eq_true c61
               have c61b1 : decide (1 < l0.length) = true := decide_eq_true (by omega)
               clear c61
               replace H := oA H
               obtain ⟨t580, A62, H⟩ := H
               try dsimp only at H
               simp only [Option.some.injEq, Prod.mk.injEq] at H
               obtain ⟨rfl, rfl, rfl, rfl, rfl, rfl, rfl⟩ := H
               have p579 : 0 ≤ (1 : Int) := (by omega)
               have q579 : 1 < (l0.length : Int) := of_decide_eq_true (by first | (with_reducible assumption) | assumption)
               obtain ⟨ad579, e579, hx579_0⟩ := Kd.at_string HR0.out 1 p579 q579
               obtain rfl : ad559 = ad579 := (by injection e579)
               (try simp only [show (1 : Int).toNat = 1 from rfl, Nat.reduceMul, Nat.reduceEqDiff, Go.Addr.add, ↓reduceIte] at hx579_0)
               have qi579 : (1 < l0.length) = True := eq_true (by omega)
               (try rw [show ((1 : Int)).toNat = 1 from rfl] at hx579_0)
               replace hx579_0 := (HB.out.cell (World.block_lt_of_cell? w _ hx579_0)).trans hx579_0
               replace p579 := eq_true p579
               replace q579 := eq_true q579
               go_wp2_with (first | ((with_reducible refine gate_callee (f := 41) rfl ?_); refine gl 94 Tryz.func41 #[.string (rdOf ByteArray.empty l0 1)] ?_; (with_reducible refine (impl_number.calls (rdOf ByteArray.empty l0 1) t580 _ A62.out).mono ?_); rintro e w63 ⟨rfl, hb⟩; refine ⟨_, rfl, ?_⟩; replace BK558 := zb BK558 hb rfl; replace BK564 := zb BK564 hb rfl; replace HB := zS hb; try clear hb; have hnb64 := NB564_558.out; have hnc64 := NB558_564.out; obtain ⟨u65_0, u65_1, u65_2, u65_3, u65_4, u65_5, v65_0, v65_1, v65_2, v65_3, v65_4, v65_5⟩ := zc6 BK564; obtain ⟨u66_0, u66_1, u66_2, u66_3, u66_4, u66_5, v66_0, v66_1, v66_2, v66_3, v66_4, v66_5⟩ := zc6 BK558))
               refine bodyPost_ret (results_ct rfl _ _ gb558 24 #[.int .i64 ji21, .int .i64 0, .int .i64 (-1), .int .i64 t580, .int .i64 0, .int .i64 x5_11] (0, 0) _ rfl (by refine bq ?_; refine blk_put (cs := #[.int .i64 ji21, .int .i64 0, .int .i64 (-1), .int .i64 t580, .int .i64 0, .int .i64 0]) ?_ 5 _ rfl; refine bq ?_; refine blk_put (cs := #[.int .i64 ji21, .int .i64 0, .int .i64 (-1), .int .i64 t580, .int .i64 0, .int .i64 0]) ?_ 4 _ rfl; refine bq ?_; refine blk_put (cs := #[.int .i64 ji21, .int .i64 0, .int .i64 (-1), .int .i64 0, .int .i64 0, .int .i64 0]) ?_ 3 _ rfl; refine bq ?_; refine blk_put (cs := #[.int .i64 ji21, .int .i64 0, .int .i64 0, .int .i64 0, .int .i64 0, .int .i64 0]) ?_ 2 _ rfl; refine bq ?_; refine blk_put (cs := #[.int .i64 ji21, .int .i64 0, .int .i64 0, .int .i64 0, .int .i64 0, .int .i64 0]) ?_ 1 _ rfl; refine bq ?_; refine blk_put (cs := #[.int .i64 0, .int .i64 0, .int .i64 0, .int .i64 0, .int .i64 0, .int .i64 0]) ?_ 0 _ rfl; refine fq ?_ NB558_564.out; exact bq BK558.out) Tryz.underlying24 rfl (by kernel_rfl)) rfl ?_
               exact ⟨by first | rfl | (simp [errW_none, errW_some] <;> rfl) | (simp only [← hji21]; first | rfl | (simp [errW_none, errW_some] <;> rfl)) | (simp [*, errW_none, errW_some] <;> rfl), zB⟩
              ·exact absurd H (nN c61)
             ·replace c60 := Bool.eq_false_iff.mpr c60
              subst c60
              rw [if_neg (show ¬ (false = true) by decide)] at H
              have HC67 := Aside0.mk H
              clear H
              go_upto_region 20 with (fail)
              go_cut [96] (fun v96 wc => ∃ (kq : Nat) (x96_66 : Bool), v96 = .bool x96_66 ∧ Aside0 (impl_readInsA.j5 kq l0 ji21 (l0.length : Int) x96_66 ji21 0 (-1) 0 0 x5_11 = some (r1, r2, r3, r4, r5, r6, r7)) ∧ Aside0 (kq ≤ kj57) ∧ Aside0 (wc.heap[gb558]? = some (.cells #[.int .i64 0, .int .i64 0, .int .i64 0, .int .i64 0, .int .i64 0, .int .i64 0] 24 (0, 0))) ∧ Aside0 (wc.heap[gb564]? = some (.cells #[.int .i64 ji21, .int .i64 0, .int .i64 (-1), .int .i64 0, .int .i64 0, .int .i64 x5_11] 24 (0, 0))) ∧ Aside0 (Below w.heap.size w wc))
              case first =>
               have H := HC67.out
               clear HC67
               by_cases c68 : ji21 = 17
               ·rw [if_pos c68] at H
                have c68b0 : (ji21 == 17) = true := beq_iff_eq.mpr c68
                have c68b1 : (ji21 != 17) = false := bne_eq_false_iff_eq.mpr c68
                clear c68
                (first | rw [c68b0] | (simp only [i64_w, i32_w]; rw [c68b0]) | skip)
                have H' := Aside0.mk H
                clear H
                go_wp2
                go_meet
                case rel => exact ⟨_, (((l0.length : Int) == 4)), zQ, H', ⟨by have := HJ2.out; have := HJ11.out; have := HJ21.out; have := HJ31.out; have := HJ57.out; first | omega | exact Nat.le_refl _⟩, ⟨by exact bq BK558.out⟩, ⟨by exact bq BK564.out⟩, ⟨zB⟩⟩
               ·rw [if_neg c68] at H
                have c68b0 : (ji21 == 17) = false := beq_eq_false_iff_ne.mpr c68
                have c68b1 : (ji21 != 17) = true := bne_iff_ne.mpr c68
                (first | rw [c68b0] | (simp only [i64_w, i32_w]; rw [c68b0]) | skip)
                have H' := Aside0.mk H
                clear H
                go_wp2
                go_meet
                case rel => exact ⟨_, (false), zQ, H', ⟨by have := HJ2.out; have := HJ11.out; have := HJ21.out; have := HJ31.out; have := HJ57.out; first | omega | exact Nat.le_refl _⟩, ⟨by exact bq BK558.out⟩, ⟨by exact bq BK564.out⟩, ⟨zB⟩⟩
              case rest =>
               clear HC67
               try clear c1
               try clear p1 p1
               try clear q1 q1
               try clear hx1
               try clear c2
               try clear c2b0
               try clear c2b1
               try clear p2 p2
               try clear c3
               try clear c4
               try clear c5
               try clear c5b0
               try clear c5b1
               try clear p5 p5
               try clear q5 q5
               try clear hx5
               try clear qi5
               try clear c6
               try clear p6 p6
               try clear c7
               try clear c7b0
               try clear c8
               try clear c8b0
               try clear p9 p9
               try clear q9 q9
               try clear hx9
               try clear c10
               try clear c10b0
               try clear p11 p11
               try clear q11 q11
               try clear hx11
               try clear c13
               try clear c15
               try clear c15b0
               try clear c16
               try clear c16b0
               try clear p17 p17
               try clear q17 q17
               try clear hx17
               try clear c18
               try clear c18b0
               try clear c19
               try clear c19b0
               try clear c19b1
               try clear c20
               try clear c23
               try clear c25
               try clear c28
               try clear c31
               try clear c33
               try clear c35
               try clear c36
               try clear c37
               try clear c37b0
               try clear c37b1
               try clear c38
               try clear c39
               try clear c39b0
               try clear c39b1
               try clear c40
               try clear c41
               try clear c42
               try clear c43
               try clear c43b0
               try clear c43b1
               try clear c46
               try clear c53
               try clear p55 p55
               try clear q55 q55
               try clear hx55
               try clear p56 p56
               try clear q56 q56
               try clear hx56
               try clear qi56
               try clear p57 p57
               try clear q57 q57
               try clear hx57
               try clear qi57
               try clear c59
               try clear c59b0
               try clear c59b1
               try clear c60
               try clear c61
               try clear c61b0
               try clear c61b1
               try clear c64
               try clear c68
               try clear c68b0
               try clear c68b1
               try clear u29_0 u29_1 u29_2 u29_3 u29_4 u29_5 v29_0 v29_1 v29_2 v29_3 v29_4 v29_5
               try clear u47_0 u47_1 u47_2 u47_3 u47_4 u47_5 v47_0 v47_1 v47_2 v47_3 v47_4 v47_5
               try clear u50_0 u50_1 u50_2 u50_3 u50_4 u50_5 v50_0 v50_1 v50_2 v50_3 v50_4 v50_5
               try clear u51_0 u51_1 u51_2 u51_3 u51_4 u51_5 v51_0 v51_1 v51_2 v51_3 v51_4 v51_5
               try clear u54_0 u54_1 u54_2 u54_3 u54_4 u54_5 v54_0 v54_1 v54_2 v54_3 v54_4 v54_5
               try clear u56_0 u56_1 u56_2 u56_3 u56_4 u56_5 v56_0 v56_1 v56_2 v56_3 v56_4 v56_5
               try clear u57_0 u57_1 u57_2 u57_3 u57_4 u57_5 v57_0 v57_1 v57_2 v57_3 v57_4 v57_5
               try clear u65_0 u65_1 u65_2 u65_3 u65_4 u65_5 v65_0 v65_1 v65_2 v65_3 v65_4 v65_5
               try clear u66_0 u66_1 u66_2 u66_3 u66_4 u66_5 v66_0 v66_1 v66_2 v66_3 v66_4 v66_5
               try clear hx559_0
               try clear hx567_0
               try clear hx569_0
               try clear hx577_0
               try clear hx579_0
               try clear p559
               try clear p567
               try clear p569
               try clear p577
               try clear p579
               try clear q559
               try clear q567
               try clear q569
               try clear q577
               try clear q579
               obtain ⟨kq, x96_66, rfl, HA, HJ66, BK558, BK564, HB⟩ := hcut
               cases kq with
               | zero => exact absurd HA.out (by simp [impl_readInsA.j5])
               | succ kj66 =>
                have H := HA.out
                clear HA
                simp only [impl_readInsA.j5] at H
                by_cases c69 : x96_66 = true
                ·subst c69
                 rw [if_pos rfl] at H
                 by_cases c70 : 1 < (l0.length : Int)
                 ·rw [if_pos c70] at H
                  have c70b0 : decide (1 < (l0.length : Int)) = true := decide_eq_true c70
                  have c70b1 : decide (1 < l0.length) = true := decide_eq_true (by omega)
                  clear c70
                  replace H := oA H
                  obtain ⟨t582, A71, H⟩ := H
                  try dsimp only at H
                  by_cases c72 : 2 < (l0.length : Int)
                  ·rw [if_pos c72] at H
                   have c72b0 : decide (2 < (l0.length : Int)) = true := decide_eq_true c72
                   have c72b1 : decide (2 < l0.length) = true := decide_eq_true (by omega)
                   clear c72
                   replace H := oA H
                   obtain ⟨t584, A73, H⟩ := H
                   try dsimp only at H
                   by_cases c74 : 3 < (l0.length : Int)
                   ·rw [if_pos c74] at H
                    have c74b0 : decide (3 < (l0.length : Int)) = true := decide_eq_true c74
                    have c74b1 : decide (3 < l0.length) = true := decide_eq_true (by omega)
                    clear c74
                    replace H := oA H
                    obtain ⟨t586, A75, H⟩ := H
                    try dsimp only at H
                    simp only [Option.some.injEq, Prod.mk.injEq] at H
                    obtain ⟨rfl, rfl, rfl, rfl, rfl, rfl, rfl⟩ := H
                    try go_wp2
                    replace BK558 := Aside0.mk (blk_drew BK558.out)
                    replace BK564 := Aside0.mk (blk_drew BK564.out)
                    replace HB := Aside0.mk (below_drew1 HB.out)
                    have p581 : 0 ≤ (1 : Int) := (by omega)
                    have q581 : 1 < (l0.length : Int) := of_decide_eq_true (by first | (with_reducible assumption) | assumption)
                    obtain ⟨ad581, e581, hx581_0⟩ := Kd.at_string HR0.out 1 p581 q581
                    have hw581_0 := hx581_0
                    (try rw [show ((1 : Int)).toNat = 1 from rfl] at hw581_0)
                    (try rw [show 1 * 1 = 1 from rfl] at hw581_0)
                    (try simp only [Nat.reduceMul, Nat.reduceEqDiff, Go.Addr.add, ↓reduceIte] at hw581_0)
                    obtain rfl : ad559 = ad581 := (by injection e581)
                    (try simp only [show (1 : Int).toNat = 1 from rfl, Nat.reduceMul, Nat.reduceEqDiff, Go.Addr.add, ↓reduceIte] at hx581_0)
                    have qi581 : (1 < l0.length) = True := eq_true (by omega)
                    (try rw [show ((1 : Int)).toNat = 1 from rfl] at hx581_0)
                    replace hx581_0 := (HB.out.cell (World.block_lt_of_cell? w _ hx581_0)).trans hx581_0
                    replace p581 := eq_true p581
                    replace q581 := eq_true q581
                    have p583 : 0 ≤ (2 : Int) := (by omega)
                    have q583 : 2 < (l0.length : Int) := of_decide_eq_true (by first | (with_reducible assumption) | assumption)
                    obtain ⟨ad583, e583, hx583_0⟩ := Kd.at_string HR0.out 2 p583 q583
                    have hw583_0 := hx583_0
                    (try rw [show ((2 : Int)).toNat = 2 from rfl] at hw583_0)
                    (try rw [show 2 * 1 = 2 from rfl] at hw583_0)
                    (try simp only [Nat.reduceMul, Nat.reduceEqDiff, Go.Addr.add, ↓reduceIte] at hw583_0)
                    obtain rfl : ad559 = ad583 := (by injection e583)
                    (try simp only [show (2 : Int).toNat = 2 from rfl, Nat.reduceMul, Nat.reduceEqDiff, Go.Addr.add, ↓reduceIte] at hx583_0)
                    have qi583 : (2 < l0.length) = True := eq_true (by omega)
                    (try rw [show ((2 : Int)).toNat = 2 from rfl] at hx583_0)
                    replace hx583_0 := (HB.out.cell (World.block_lt_of_cell? w _ hx583_0)).trans hx583_0
                    replace p583 := eq_true p583
                    replace q583 := eq_true q583
                    have p585 : 0 ≤ (3 : Int) := (by omega)
                    have q585 : 3 < (l0.length : Int) := of_decide_eq_true (by first | (with_reducible assumption) | assumption)
                    obtain ⟨ad585, e585, hx585_0⟩ := Kd.at_string HR0.out 3 p585 q585
                    have hw585_0 := hx585_0
                    (try rw [show ((3 : Int)).toNat = 3 from rfl] at hw585_0)
                    (try rw [show 3 * 1 = 3 from rfl] at hw585_0)
                    (try simp only [Nat.reduceMul, Nat.reduceEqDiff, Go.Addr.add, ↓reduceIte] at hw585_0)
                    obtain rfl : ad559 = ad585 := (by injection e585)
                    (try simp only [show (3 : Int).toNat = 3 from rfl, Nat.reduceMul, Nat.reduceEqDiff, Go.Addr.add, ↓reduceIte] at hx585_0)
                    have qi585 : (3 < l0.length) = True := eq_true (by omega)
                    (try rw [show ((3 : Int)).toNat = 3 from rfl] at hx585_0)
                    replace hx585_0 := (HB.out.cell (World.block_lt_of_cell? w _ hx585_0)).trans hx585_0
                    replace p585 := eq_true p585
                    replace q585 := eq_true q585
                    refine start_ (n := 18) (S := fun w' => w'.cell? ⟨ad559.block, ad559.off + 1, none⟩ = some (.string (rdOf ByteArray.empty l0 1)) ∧ w'.cell? ⟨ad559.block, ad559.off + 2, none⟩ = some (.string (rdOf ByteArray.empty l0 2)) ∧ w'.cell? ⟨ad559.block, ad559.off + 3, none⟩ = some (.string (rdOf ByteArray.empty l0 3))) (ds := []) #[false, false, false, false, false, false, false, false, false, false, false, false, false, false, false, false, false, false] (by kernel_rfl) rfl rfl ⟨((HB.out.cell (World.block_lt_of_cell? w _ hw581_0)).trans hw581_0), ((HB.out.cell (World.block_lt_of_cell? w _ hw583_0)).trans hw583_0), ((HB.out.cell (World.block_lt_of_cell? w _ hw585_0)).trans hw585_0)⟩ (fun hHeld => ?_); refine with_tabW impl_readIns.tab21 impl_readIns.bits21 (fun HT_ HW_ => ?_)
                    generalize wc.drew = w76 at BK558 BK564 HB hx581_0 hx583_0 hx585_0 hHeld ⊢
                    refine pz 0 103 ?_
                    refine pz 1 104 ?_
                    refine pz 4 107 ?_
                    refine pz 5 108 ?_
                    refine pz 8 111 ?_
                    refine pz 9 112 ?_
                    refine tz 2 105 ?_
                    refine tz 6 109 ?_
                    refine tz 10 113 ?_
                    refine oz 3 106 fun K hK => ?_
                    refine gz Tryz.func39 #[.string (rdOf ByteArray.empty l0 1)] ?_
                    with_reducible refine (impl_readReg.calls (rdOf ByteArray.empty l0 1) t582 _ A71.out).mono ?_
                    rintro e w77 ⟨rfl, hb⟩
                    refine ⟨_, rfl, ?_⟩
                    replace BK558 := zb BK558 hb rfl
                    replace BK564 := zb BK564 hb rfl
                    replace HB := zS hb
                    try clear hb
                    refine hK.out _ _ ⟨((HB.out.cell (World.block_lt_of_cell? w _ hw581_0)).trans hw581_0), ((HB.out.cell (World.block_lt_of_cell? w _ hw583_0)).trans hw583_0), ((HB.out.cell (World.block_lt_of_cell? w _ hw585_0)).trans hw585_0)⟩ (fun hHeld => ?_)
                    clear hK K
                    refine nz ?_
                    refine oz 7 110 fun K hK => ?_
                    refine gz Tryz.func39 #[.string (rdOf ByteArray.empty l0 2)] ?_
                    with_reducible refine (impl_readReg.calls (rdOf ByteArray.empty l0 2) t584 _ A73.out).mono ?_
                    rintro e w78 ⟨rfl, hb⟩
                    refine ⟨_, rfl, ?_⟩
                    replace BK558 := zb BK558 hb rfl
                    replace BK564 := zb BK564 hb rfl
                    replace HB := zS hb
                    try clear hb
                    refine hK.out _ _ ⟨((HB.out.cell (World.block_lt_of_cell? w _ hw581_0)).trans hw581_0), ((HB.out.cell (World.block_lt_of_cell? w _ hw583_0)).trans hw583_0), ((HB.out.cell (World.block_lt_of_cell? w _ hw585_0)).trans hw585_0)⟩ (fun hHeld => ?_)
                    clear hK K
                    refine nz ?_
                    refine oz 11 114 fun K hK => ?_
                    refine gz Tryz.func41 #[.string (rdOf ByteArray.empty l0 3)] ?_
                    with_reducible refine (impl_number.calls (rdOf ByteArray.empty l0 3) t586 _ A75.out).mono ?_
                    rintro e w79 ⟨rfl, hb⟩
                    refine ⟨_, rfl, ?_⟩
                    replace BK558 := zb BK558 hb rfl
                    replace BK564 := zb BK564 hb rfl
                    replace HB := zS hb
                    try clear hb
                    refine hK.out _ _ ⟨((HB.out.cell (World.block_lt_of_cell? w _ hw581_0)).trans hw581_0), ((HB.out.cell (World.block_lt_of_cell? w _ hw583_0)).trans hw583_0), ((HB.out.cell (World.block_lt_of_cell? w _ hw585_0)).trans hw585_0)⟩ (fun hHeld => ?_)
                    clear hK K
                    refine nz ?_
                    refine pz 12 115 ?_
                    refine oN 13 fun K hK => ?_
                    have hs80 : w79.cell? ⟨gb564, 1, none⟩ = some (.int .i64 0) := (blk_cell BK564.out 1).trans rfl
                    have hfs80 := blk_frozen BK564.out 1
                    have hns80_0 := NB558_564.out
                    have hms80_0 := NB564_558.out
                    refine skip_ (w1 := ?_) (by rfl) rfl ?_ ?_
                    rotate_left
                    ·go_simp
                     rfl
                    refine hK.out _ _ ⟨((cell_far (p := ⟨gb564, _, none⟩) (zN hw581_0 GW564) _).trans (hHeld.1)), ((cell_far (p := ⟨gb564, _, none⟩) (zN hw583_0 GW564) _).trans (hHeld.2.1)), ((cell_far (p := ⟨gb564, _, none⟩) (zN hw585_0 GW564) _).trans (hHeld.2.2))⟩ (fun hHeld => ?_)
                    clear hK K
                    refine pz 14 116 ?_
                    refine oN 15 fun K hK => ?_
                    have hs81 : w79.cell? ⟨gb564, 2, none⟩ = some (.int .i64 (-1)) := (blk_cell BK564.out 2).trans rfl
                    have hfs81 := blk_frozen BK564.out 2
                    have hns81_0 := NB558_564.out
                    have hms81_0 := NB564_558.out
                    refine skip_ (w1 := ?_) (by rfl) rfl ?_ ?_
                    rotate_left
                    ·go_simp
                     rfl
                    refine hK.out _ _ ⟨((cell_far (p := ⟨gb564, _, none⟩) (zN hw581_0 GW564) _).trans (hHeld.1)), ((cell_far (p := ⟨gb564, _, none⟩) (zN hw583_0 GW564) _).trans (hHeld.2.1)), ((cell_far (p := ⟨gb564, _, none⟩) (zN hw585_0 GW564) _).trans (hHeld.2.2))⟩ (fun hHeld => ?_)
                    clear hK K
                    refine pz 16 117 ?_
                    refine oN 17 fun K hK => ?_
                    have hs82 : w79.cell? ⟨gb564, 3, none⟩ = some (.int .i64 0) := (blk_cell BK564.out 3).trans rfl
                    have hfs82 := blk_frozen BK564.out 3
                    have hns82_0 := NB558_564.out
                    have hms82_0 := NB564_558.out
                    refine skip_ (w1 := ?_) (by rfl) rfl ?_ ?_
                    rotate_left
                    ·go_simp
                     rfl
                    refine hK.out _ _ ⟨((cell_far (p := ⟨gb564, _, none⟩) (zN hw581_0 GW564) _).trans (hHeld.1)), ((cell_far (p := ⟨gb564, _, none⟩) (zN hw583_0 GW564) _).trans (hHeld.2.1)), ((cell_far (p := ⟨gb564, _, none⟩) (zN hw585_0 GW564) _).trans (hHeld.2.2))⟩ (fun hHeld => ?_)
                    clear hK K
                    refine done_ (done_of HT_.out (by kernel_rfl)) ?_
                    have hnb83 := NB564_558.out
                    have hnc83 := NB558_564.out
                    obtain ⟨_, _, _, _, _, _, _, _, _, _, _, _⟩ := zc6 BK564
                    obtain ⟨_, _, _, _, _, _, _, _, _, _, _, _⟩ := zc6 BK558
                    try go_wp2
                    refine bodyPost_ret (results_ct rfl _ _ gb558 24 #[.int .i64 ji21, .int .i64 t582, .int .i64 t584, .int .i64 t586, .int .i64 0, .int .i64 x5_11] (0, 0) _ rfl (by refine bq ?_; refine blk_put (cs := #[.int .i64 ji21, .int .i64 t582, .int .i64 t584, .int .i64 t586, .int .i64 0, .int .i64 0]) ?_ 5 _ rfl; refine bq ?_; refine blk_put (cs := #[.int .i64 ji21, .int .i64 t582, .int .i64 t584, .int .i64 t586, .int .i64 0, .int .i64 0]) ?_ 4 _ rfl; refine bq ?_; refine blk_put (cs := #[.int .i64 ji21, .int .i64 t582, .int .i64 t584, .int .i64 0, .int .i64 0, .int .i64 0]) ?_ 3 _ rfl; refine bq ?_; refine blk_put (cs := #[.int .i64 ji21, .int .i64 t582, .int .i64 0, .int .i64 0, .int .i64 0, .int .i64 0]) ?_ 2 _ rfl; refine bq ?_; refine blk_put (cs := #[.int .i64 ji21, .int .i64 0, .int .i64 0, .int .i64 0, .int .i64 0, .int .i64 0]) ?_ 1 _ rfl; refine bq ?_; refine blk_put (cs := #[.int .i64 0, .int .i64 0, .int .i64 0, .int .i64 0, .int .i64 0, .int .i64 0]) ?_ 0 _ rfl; refine fq ?_ NB558_564.out; refine fq ?_ NB558_564.out; refine fq ?_ NB558_564.out; exact bq BK558.out) Tryz.underlying24 rfl (by kernel_rfl)) rfl ?_
                    exact ⟨by first | rfl | (simp [errW_none, errW_some] <;> rfl) | (simp only [← hji21]; first | rfl | (simp [errW_none, errW_some] <;> rfl)) | (simp [*, errW_none, errW_some] <;> rfl), zB⟩
                   ·exact absurd H (nN c74)
                  ·exact absurd H (nN c72)
                 ·exact absurd H (nN c70)
                ·replace c69 := Bool.eq_false_iff.mpr c69
                 subst c69
                 rw [if_neg (show ¬ (false = true) by decide)] at H
                 exact absurd H (by simp)
 ·exact absurd H (nN c2)
end Go.Proofs.YtllmbooicobmkaaGreatDoor.Q
