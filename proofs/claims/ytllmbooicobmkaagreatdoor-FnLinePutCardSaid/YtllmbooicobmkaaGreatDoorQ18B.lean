/- The machine's side of this seat's laws: Go functions as Lean functions, and their contracts. By a program of this work over the kit's print. -/
import Derived.Test.YtllmbooicobmkaaGreatDoorQ0
import Derived.Test.YtllmbooicobmkaaGreatDoorQ13
import Derived.Test.YtllmbooicobmkaaGreatDoorQ14
import Derived.Test.YtllmbooicobmkaaGreatDoorQ15
import Derived.Test.YtllmbooicobmkaaGreatDoorQ17
import Derived.Test.YtllmbooicobmkaaGreatDoorQ18D
namespace Go.Proofs.YtllmbooicobmkaaGreatDoor.Q
open Go.RowKit Go.Proofs.YtllmbooicobmkaaGreatDoorW.PrintWords Go.Proofs.YtllmbooicobmkaaGreatDoorW.PrintLast Go.Proofs.YtllmbooicobmkaaGreatDoorW.PrintMore
attribute [local go_sem] max2_int min2_int max_two min_two max_three min_three max_four min_four Go.Proofs.YtllmbooicobmkaaGreatDoorN.not_i64 Go.Proofs.YtllmbooicobmkaaGreatDoorN.isSome_setCell
set_option linter.unusedVariables false
set_option linter.unusedSimpArgs false
mutual
def impl_readInsB.j0 : Nat → List ByteArray → ByteArray → Int → Int → Bool → Option (Int × Int × Int × Int × Int × Int × Bool)
 | 0, _, _, _, _, _ => none
 | k + 1, x0, x4, x5, x6, x33 => if x33 = true then (if 0 ≤ (wrap64 (x6 - 1)) then (if (wrap64 (x6 - 1)) < (x4.size : Int) then (if (wrap64 (x6 - 1)) ≤ (x4.size : Int) then (impl_readInsB.j1 k x0 (x4.extract 0 ((wrap64 (x6 - 1)) : Int).toNat) (((bt x4 (wrap64 (x6 - 1))) - 48) % 256)) else (none)) else (none)) else (none)) else (impl_readInsB.j1 k x0 x4 x5)
def impl_readInsB.j1 : Nat → List ByteArray → ByteArray → Int → Option (Int × Int × Int × Int × Int × Int × Bool)
 | 0, _, _, _ => none
 | k + 1, x0, x4, x5 => (slices_Index_string_string.f k (impl_opWords.L) x4).bind fun t563 => ((impl_kind_reckons.f (mx t563 0)).bind fun t565 => (if t565 = true then (impl_readInsB.j2 k x0 (mx t563 0) (mx t563 0) (x0.length : Int) ((x0.length : Int) == 3) (mx t563 0) 0 (-1) 0 0 x5) else (impl_readInsB.j2 k x0 (mx t563 0) (mx t563 0) (x0.length : Int) false (mx t563 0) 0 (-1) 0 0 x5)))
def impl_readInsB.j2 : Nat → List ByteArray → Int → Int → Int → Bool → Int → Int → Int → Int → Int → Int → Option (Int × Int × Int × Int × Int × Int × Bool)
 | 0, _, _, _, _, _, _, _, _, _, _, _ => none
 | k + 1, x0, x8, x10, x11, x55, x565000, x565001, x565002, x565003, x565004, x565005 => if x55 = true then (impl_readInsB.j3 k x0 x8 x10 x11 x55 x565000 x565001 x565002 x565003 x565004 x565005) else ((impl_kind_asks.f x10).bind fun t566 => (if t566 = true then (impl_readInsB.j3 k x0 x8 x10 x11 (x11 == 4) x565000 x565001 x565002 x565003 x565004 x565005) else (impl_readInsB.j3 k x0 x8 x10 x11 false x565000 x565001 x565002 x565003 x565004 x565005)))
def impl_readInsB.j3 : Nat → List ByteArray → Int → Int → Int → Bool → Int → Int → Int → Int → Int → Int → Option (Int × Int × Int × Int × Int × Int × Bool)
 | 0, _, _, _, _, _, _, _, _, _, _, _ => none
 | k + 1, x0, x8, x10, x11, x55, x565000, x565001, x565002, x565003, x565004, x565005 => if x55 = true then (none) else (if x8 = 16 then (impl_readInsB.j4 k x0 x8 x11 (x11 == 2) x565000 x565001 x565002 x565003 x565004 x565005) else (impl_readInsB.j4 k x0 x8 x11 false x565000 x565001 x565002 x565003 x565004 x565005))
def impl_readInsB.j4 : Nat → List ByteArray → Int → Int → Bool → Int → Int → Int → Int → Int → Int → Option (Int × Int × Int × Int × Int × Int × Bool)
 | 0, _, _, _, _, _, _, _, _, _, _ => none
 | k + 1, x0, x8, x11, x84, x565000, x565001, x565002, x565003, x565004, x565005 => if x84 = true then (none) else (if x8 = 17 then (impl_readInsB.j5 k x0 x8 x11 (x11 == 4) x565000 x565001 x565002 x565003 x565004 x565005) else (impl_readInsB.j5 k x0 x8 x11 false x565000 x565001 x565002 x565003 x565004 x565005))
def impl_readInsB.j5 : Nat → List ByteArray → Int → Int → Bool → Int → Int → Int → Int → Int → Int → Option (Int × Int × Int × Int × Int × Int × Bool)
 | 0, _, _, _, _, _, _, _, _, _, _ => none
 | k + 1, x0, x8, x11, x96, x565000, x565001, x565002, x565003, x565004, x565005 => if x96 = true then (none) else (if x8 = 18 then (impl_readIns.j6 k x0 x8 x11 (x11 == 4) x565000 x565001 x565002 x565003 x565004 x565005) else (impl_readIns.j6 k x0 x8 x11 false x565000 x565001 x565002 x565003 x565004 x565005))
end
def impl_readInsB.f (k : Nat) (l0 : List ByteArray) : Option (Int × Int × Int × Int × Int × Int × Bool) := if 0 < (l0.length : Int) then (if ((rdOf ByteArray.empty l0 0).size : Int) > 1 then (if 0 ≤ (wrap64 (((rdOf ByteArray.empty l0 0).size : Int) - 1)) then (if (wrap64 (((rdOf ByteArray.empty l0 0).size : Int) - 1)) < ((rdOf ByteArray.empty l0 0).size : Int) then (if (bt (rdOf ByteArray.empty l0 0) (wrap64 (((rdOf ByteArray.empty l0 0).size : Int) - 1))) ≥ 48 then (impl_readInsB.j0 k l0 (rdOf ByteArray.empty l0 0) 0 ((rdOf ByteArray.empty l0 0).size : Int) (decide ((bt (rdOf ByteArray.empty l0 0) (wrap64 (((rdOf ByteArray.empty l0 0).size : Int) - 1))) ≤ 57))) else (impl_readInsB.j0 k l0 (rdOf ByteArray.empty l0 0) 0 ((rdOf ByteArray.empty l0 0).size : Int) false)) else (none)) else (none)) else (impl_readInsB.j0 k l0 (rdOf ByteArray.empty l0 0) 0 ((rdOf ByteArray.empty l0 0).size : Int) false)) else (none)
set_option maxHeartbeats 8000000 in
set_option maxRecDepth 100000 in
theorem impl_readInsB.calls (k : Nat) (A0 : Option Addr) (c0 : Nat) (l0 : List ByteArray) (r1 r2 : Int) (r3 r4 : Int) (r5 r6 : Int) (r7 : Bool) (w : World) (hr0 : Kd.C Kd.string w A0 l0.length l0) (hc0 : l0.length ≤ c0) (h : impl_readInsB.f k l0 = some (r1, r2, r3, r4, r5, r6, r7)) (zHT : Tryz.Te w := by first | exact zHT | exact Tryz.te_below zHT zB) :
  Calls Tryz.prog 15 #[.slice A0 l0.length c0] w fun e w' => e = .returned (.tuple #[.agg #[.int .i64 r1, .int .i64 r2, .int .i64 r3, .int .i64 r4, .int .i64 r5, .int .i64 r6], .bool r7]) ∧ Below w.heap.size w w' := by
 have hu24 := Tryz.underlying24
 have HR0 := Aside0.mk hr0
 have HC0 := Aside0.mk hc0
 clear hr0 hc0
 have HB := Aside0.mk (Below.refl w.heap.size w)
 have H := h
 clear h
 unfold impl_readInsB.f at H
 by_cases c2 : 0 < (l0.length : Int)
 ·rw [if_pos c2] at H
  have c2b0 : decide (0 < (l0.length : Int)) = true := decide_eq_true c2
  have c2b1 : decide (0 < l0.length) = true := decide_eq_true (by omega)
  clear c2
  have HC3 := Aside0.mk H
  clear H
  go_enter Tryz.func15, Tryz.ntmps15
  go_upto_region 4 with (first | ((with_reducible refine gate_dst (N := 2) rfl ?_); refine be 2 #[.int .i64 0, .int .i64 0, .int .i64 0, .int .i64 0, .int .i64 0, .int .i64 0] 24 ?_; intro gb558 hg w4 hbox hb; have BK558 := Aside0.mk hbox; have GW558 := zW hg; replace HB := zS hb; have GE558 := GW558; clear hb hbox hg; have p559 : 0 ≤ (0 : Int) := (by omega); have q559 : 0 < (l0.length : Int) := of_decide_eq_true (by first | (with_reducible assumption) | assumption); obtain ⟨ad559, e559, hx559_0⟩ := Kd.at_string HR0.out 0 p559 q559; cases e559; have qi559 : (0 < l0.length) = True := eq_true (by omega); (try rw [show ((0 : Int)).toNat = 0 from rfl] at hx559_0); (try rw [Addr.add_zero'] at hx559_0); replace hx559_0 := (HB.out.cell (World.block_lt_of_cell? w _ hx559_0)).trans hx559_0; replace p559 := eq_true p559; replace q559 := eq_true q559))
  (try simp only [Act.put, List.setIfInBounds_toArray, List.set_cons_zero, List.set_cons_succ])
  go_cut [33] (fun v33 wc => ∃ (kq : Nat) (x33_2 : Bool), v33 = .bool x33_2 ∧ Aside0 (impl_readInsB.j0 kq l0 (rdOf ByteArray.empty l0 0) 0 ((rdOf ByteArray.empty l0 0).size : Int) x33_2 = some (r1, r2, r3, r4, r5, r6, r7)) ∧ Aside0 (kq ≤ k) ∧ Aside0 (wc.heap[gb558]? = some (.cells #[.int .i64 0, .int .i64 0, .int .i64 0, .int .i64 0, .int .i64 0, .int .i64 0] 24 (0, 0))) ∧ Aside0 (Below w.heap.size w wc))
  case first =>
   have H := HC3.out
   clear HC3
   by_cases c5 : ((rdOf ByteArray.empty l0 0).size : Int) > 1
   ·rw [if_pos c5] at H
    have c5b0 : decide (1 < ((rdOf ByteArray.empty l0 0).size : Int)) = true := decide_eq_true c5
    have c5b1 : decide (1 < (rdOf ByteArray.empty l0 0).size) = true := decide_eq_true (by omega)
    clear c5
    (first | rw [c5b0] | (simp only [i64_w, i32_w]; rw [c5b0]) | skip)
    obtain ⟨ji6, hji6⟩ : ∃ j_ : Int, (wrap64 (((rdOf ByteArray.empty l0 0).size : Int) - 1)) = j_ := ⟨_, rfl⟩
    replace H : (if 0 ≤ (ji6) then (if (ji6) < ((rdOf ByteArray.empty l0 0).size : Int) then (if (bt (rdOf ByteArray.empty l0 0) (ji6)) ≥ 48 then (impl_readInsB.j0 k l0 (rdOf ByteArray.empty l0 0) 0 ((rdOf ByteArray.empty l0 0).size : Int) (decide ((bt (rdOf ByteArray.empty l0 0) (ji6)) ≤ 57))) else (impl_readInsB.j0 k l0 (rdOf ByteArray.empty l0 0) 0 ((rdOf ByteArray.empty l0 0).size : Int) false)) else (none)) else (none)) = some (r1, r2, r3, r4, r5, r6, r7) := by first | (rw [hji6] at H; exact H) | (simp only [hji6] at H ⊢; exact H)
    have hji6w : (IntKind.i64.wrap (((rdOf ByteArray.empty l0 0).size : Int) - 1)) = ji6 := (i64_w _).trans hji6
    by_cases c7 : 0 ≤ (ji6)
    ·rw [if_pos c7] at H
     have c7b0 : decide (0 ≤ (ji6)) = true := decide_eq_true c7
     clear c7
     by_cases c8 : (ji6) < ((rdOf ByteArray.empty l0 0).size : Int)
     ·rw [if_pos c8] at H
      have c8b0 : decide ((ji6) < ((rdOf ByteArray.empty l0 0).size : Int)) = true := decide_eq_true c8
      clear c8
      by_cases c10 : (bt (rdOf ByteArray.empty l0 0) (ji6)) ≥ 48
      ·rw [if_pos c10] at H
       have c10b0 : decide (48 ≤ (bt (rdOf ByteArray.empty l0 0) (ji6))) = true := decide_eq_true c10
       clear c10
       have H' := Aside0.mk H
       clear H
       have p9 : 0 ≤ ((ji6) : Int) := of_decide_eq_true (by first | (with_reducible assumption) | assumption)
       have q9 : (ji6) < ((rdOf ByteArray.empty l0 0).size : Int) := of_decide_eq_true (by first | (with_reducible assumption) | assumption)
       have hx9 := bt_at (rdOf ByteArray.empty l0 0) (ji6)
       replace p9 := eq_true p9
       replace q9 := eq_true q9
       have p11 : 0 ≤ ((ji6) : Int) := of_decide_eq_true (by first | (with_reducible assumption) | assumption)
       have q11 : (ji6) < ((rdOf ByteArray.empty l0 0).size : Int) := of_decide_eq_true (by first | (with_reducible assumption) | assumption)
       have hx11 := bt_at (rdOf ByteArray.empty l0 0) (ji6)
       replace p11 := eq_true p11
       replace q11 := eq_true q11
       go_wp2
       go_meet
       case rel => exact ⟨_, (decide ((bt (rdOf ByteArray.empty l0 0) (ji6)) ≤ 57)), (by first | rfl | (simp; done) | (simp only [← hji6] <;> (first | rfl | simp)) | (simp [*]; done)), H', ⟨by first | omega | exact Nat.le_refl _⟩, ⟨by exact bq BK558.out⟩, ⟨zB⟩⟩
      ·rw [if_neg c10] at H
       have c10b0 : decide (48 ≤ (bt (rdOf ByteArray.empty l0 0) (ji6))) = false := decide_eq_false c10
       clear c10
       have H' := Aside0.mk H
       clear H
       have p9 : 0 ≤ ((ji6) : Int) := of_decide_eq_true (by first | (with_reducible assumption) | assumption)
       have q9 : (ji6) < ((rdOf ByteArray.empty l0 0).size : Int) := of_decide_eq_true (by first | (with_reducible assumption) | assumption)
       have hx9 := bt_at (rdOf ByteArray.empty l0 0) (ji6)
       replace p9 := eq_true p9
       replace q9 := eq_true q9
       go_wp2
       go_meet
       case rel => exact ⟨_, (false), zQ, H', ⟨by first | omega | exact Nat.le_refl _⟩, ⟨by exact bq BK558.out⟩, ⟨zB⟩⟩
     ·exact absurd H (nN c8)
    ·exact absurd H (nN c7)
   ·rw [if_neg c5] at H
    have c5b0 : decide (1 < ((rdOf ByteArray.empty l0 0).size : Int)) = false := decide_eq_false c5
    have c5b1 : decide (1 < (rdOf ByteArray.empty l0 0).size) = false := decide_eq_false (by omega)
    clear c5
    (first | rw [c5b0] | (simp only [i64_w, i32_w]; rw [c5b0]) | skip)
    have H' := Aside0.mk H
    clear H
    go_wp2
    go_meet
    case rel => exact ⟨_, (false), zQ, H', ⟨by first | omega | exact Nat.le_refl _⟩, ⟨by exact bq BK558.out⟩, ⟨zB⟩⟩
  case rest =>
   clear HC3
   try clear c1
   try clear p1
   try clear q1
   try clear hx1
   try clear c2
   try clear c2b0
   try clear c2b1
   try clear p2
   try clear c5
   try clear c5b0
   try clear c5b1
   try clear p5
   try clear q5
   try clear hx5
   try clear qi5
   try clear p6
   try clear c7
   try clear c7b0
   try clear c8
   try clear c8b0
   try clear p9 p9
   try clear q9 q9
   try clear hx9
   try clear c10
   try clear c10b0
   try clear p11 p11
   try clear q11 q11
   try clear hx11
   try clear hx559_0
   try clear p559
   try clear q559
   obtain ⟨kq, x33_2, rfl, HA, HJ2, BK558, HB⟩ := hcut
   cases kq with
   | zero => exact absurd HA.out (by simp [impl_readInsB.j0])
   | succ kj2 =>
    have H := HA.out
    clear HA
    simp only [impl_readInsB.j0] at H
    have HC12 := Aside0.mk H
    clear H
    go_upto_if 33 with (fail)
    go_cut [4, 5] (fun v4 v5 wc => ∃ (kq : Nat) (x4_11 : ByteArray) (x5_11 : Int), v4 = .string x4_11 ∧ v5 = .int .i64 x5_11 ∧ Aside0 (impl_readInsB.j1 kq l0 x4_11 x5_11 = some (r1, r2, r3, r4, r5, r6, r7)) ∧ Aside0 (kq ≤ kj2) ∧ Aside0 (wc.heap[gb558]? = some (.cells #[.int .i64 0, .int .i64 0, .int .i64 0, .int .i64 0, .int .i64 0, .int .i64 0] 24 (0, 0))) ∧ Aside0 (Below w.heap.size w wc))
    case first =>
     have H := HC12.out
     clear HC12
     by_cases c13 : x33_2 = true
     ·subst c13
      rw [if_pos rfl] at H
      obtain ⟨ji14, hji14⟩ : ∃ j_ : Int, (wrap64 (((rdOf ByteArray.empty l0 0).size : Int) - 1)) = j_ := ⟨_, rfl⟩
      replace H : (if 0 ≤ (ji14) then (if (ji14) < ((rdOf ByteArray.empty l0 0).size : Int) then (if (ji14) ≤ ((rdOf ByteArray.empty l0 0).size : Int) then (impl_readInsB.j1 kj2 l0 ((rdOf ByteArray.empty l0 0).extract 0 ((ji14) : Int).toNat) (((bt (rdOf ByteArray.empty l0 0) (ji14)) - 48) % 256)) else (none)) else (none)) else (none)) = some (r1, r2, r3, r4, r5, r6, r7) := by first | (rw [hji14] at H; exact H) | (simp only [hji14] at H ⊢; exact H)
      have hji14w : (IntKind.i64.wrap (((rdOf ByteArray.empty l0 0).size : Int) - 1)) = ji14 := (i64_w _).trans hji14
      by_cases c15 : 0 ≤ (ji14)
      ·rw [if_pos c15] at H
       have c15b0 : decide (0 ≤ (ji14)) = true := decide_eq_true c15
       clear c15
       (first | rw [c15b0] | (simp only [i64_w, i32_w]; rw [c15b0]) | skip)
       by_cases c16 : (ji14) < ((rdOf ByteArray.empty l0 0).size : Int)
       ·rw [if_pos c16] at H
        have c16b0 : decide ((ji14) < ((rdOf ByteArray.empty l0 0).size : Int)) = true := decide_eq_true c16
        clear c16
        have c18b0 := eq_true (of_decide_eq_true (by first | (with_reducible assumption) | assumption) : 0 ≤ (ji14))
        by_cases c19 : (ji14) ≤ ((rdOf ByteArray.empty l0 0).size : Int)
        ·rw [if_pos c19] at H
         have c19b0 := eq_true c19
         have c19b1 : decide ((ji14) ≤ ((rdOf ByteArray.empty l0 0).size : Int)) = true := decide_eq_true c19
         clear c19
         have H' := Aside0.mk H
         clear H
         have p17 : 0 ≤ ((ji14) : Int) := of_decide_eq_true (by first | (with_reducible assumption) | assumption)
         have q17 : (ji14) < ((rdOf ByteArray.empty l0 0).size : Int) := of_decide_eq_true (by first | (with_reducible assumption) | assumption)
         have hx17 := bt_at (rdOf ByteArray.empty l0 0) (ji14)
         replace p17 := eq_true p17
         replace q17 := eq_true q17
         go_wp2
         go_meet
         case rel => exact ⟨_, ((rdOf ByteArray.empty l0 0).extract 0 ((ji14) : Int).toNat), (((bt (rdOf ByteArray.empty l0 0) (ji14)) - 48) % 256), (by first | rfl | (simp; done) | (simp only [← hji14] <;> (first | rfl | simp)) | (simp [*]; done)), (by first | rfl | (simp; done) | (simp only [← hji14] <;> (first | rfl | simp)) | (simp [*]; done)), H', ⟨by have := HJ2.out; first | omega | exact Nat.le_refl _⟩, ⟨by exact bq BK558.out⟩, ⟨zB⟩⟩
        ·exact absurd H (nN c19)
       ·exact absurd H (nN c16)
      ·exact absurd H (nN c15)
     ·replace c13 := Bool.eq_false_iff.mpr c13
      subst c13
      rw [if_neg (show ¬ (false = true) by decide)] at H
      have H' := Aside0.mk H
      clear H
      go_wp2
      go_meet
      case rel => exact ⟨_, ((rdOf ByteArray.empty l0 0)), (0), zQ, zQ, H', ⟨by have := HJ2.out; first | omega | exact Nat.le_refl _⟩, ⟨by exact bq BK558.out⟩, ⟨zB⟩⟩
    case rest =>
     clear HC12
     try clear c1
     try clear p1 p1
     try clear q1 q1
     try clear hx1
     try clear c2
     try clear c2b0
     try clear c2b1
     try clear p2 p2
     try clear c5
     try clear c5b0
     try clear c5b1
     try clear p5 p5
     try clear q5 q5
     try clear hx5
     try clear qi5
     try clear p6 p6
     try clear c7
     try clear c7b0
     try clear c8
     try clear c8b0
     try clear p9 p9
     try clear q9 q9
     try clear hx9
     try clear c10
     try clear c10b0
     try clear p11 p11
     try clear q11 q11
     try clear hx11
     try clear c13
     try clear c15
     try clear c15b0
     try clear c16
     try clear c16b0
     try clear p17 p17
     try clear q17 q17
     try clear hx17
     try clear c18
     try clear c18b0
     try clear c19
     try clear c19b0
     try clear c19b1
     try clear hx559_0
     try clear p559
     try clear q559
     obtain ⟨kq, x4_11, x5_11, rfl, rfl, HA, HJ11, BK558, HB⟩ := hcut
     cases kq with
     | zero => exact absurd HA.out (by simp [impl_readInsB.j1])
     | succ kj11 =>
      have H := HA.out
      clear HA
      simp only [impl_readInsB.j1] at H
      have AC_impl_opWords := Aside0.mk (show impl_opWords.f = some impl_opWords.L from rfl)
      obtain ⟨y560, hy560⟩ : ∃ y_ : List ByteArray, y_ = (impl_opWords.L) := ⟨_, rfl⟩
      replace H : ((slices_Index_string_string.f kj11 y560 x4_11).bind fun t563 => ((impl_kind_reckons.f (mx t563 0)).bind fun t565 => (if t565 = true then (impl_readInsB.j2 kj11 l0 (mx t563 0) (mx t563 0) (l0.length : Int) ((l0.length : Int) == 3) (mx t563 0) 0 (-1) 0 0 x5_11) else (impl_readInsB.j2 kj11 l0 (mx t563 0) (mx t563 0) (l0.length : Int) false (mx t563 0) 0 (-1) 0 0 x5_11)))) = some (r1, r2, r3, r4, r5, r6, r7) := by first | (rw [hy560]; with_reducible exact H) | (have H2_ := (Option.bind_some _ _).symm.trans H; rw [hy560]; with_reducible exact H2_) | (have H2_ := (Option.bind_some _ _).symm.trans H; with_reducible exact H2_) | with_reducible exact H | (rw [hy560]; exact H) | exact H
      have Ny560 := Aside0.mk hy560
      clear hy560
      replace H := oA H
      obtain ⟨t563, A20, H⟩ := H
      try dsimp only at H
      obtain ⟨ji21, hji21⟩ : ∃ j_ : Int, (mx t563 0) = j_ := ⟨_, rfl⟩
      replace H : ((impl_kind_reckons.f (ji21)).bind fun t565 => (if t565 = true then (impl_readInsB.j2 kj11 l0 ji21 ji21 (l0.length : Int) ((l0.length : Int) == 3) ji21 0 (-1) 0 0 x5_11) else (impl_readInsB.j2 kj11 l0 ji21 ji21 (l0.length : Int) false ji21 0 (-1) 0 0 x5_11))) = some (r1, r2, r3, r4, r5, r6, r7) := by first | (rw [hji21] at H; exact H) | (simp only [hji21] at H ⊢; exact H)
      (try rw [hji21] at AC_impl_opWords)
      (try rw [hji21] at A20)
      (try (have hji21l : 0 ≤ ji21 := by (rw [← hji21]; unfold mx; (repeat' split) <;> omega)))
      (try (have hji21m : 0 ≤ ji21 := by omega))
      have hji21_ : (if t563 < 0 then 0 else t563) = ji21 := hji21
      have HC22 := Aside0.mk H
      clear H
      go_upto_region 12 with (first | ((with_reducible refine gate_callee (f := 25) rfl ?_); refine gl 44 Tryz.func25 #[] ?_; (with_reducible refine (impl_opWords.calls  impl_opWords.L _ AC_impl_opWords.out).mono ?_); rintro e w23 ⟨rfl, hb⟩; refine ⟨_, rfl, ?_⟩; replace BK558 := zb BK558 hb rfl; replace HB := zS hb; try clear hb) | ((with_reducible refine gate_dst (N := 7) rfl ?_); refine impl_opWords.var _ rfl rfl rfl rfl rfl rfl (fun _ => rfl) (fun _ => rfl) (Below.refl _ _) (Nat.le_refl _) ?_; intro ga_v561; intro v561 w24 hsl_v561 ho25 hb hg_ hnew_; clear hg_ hnew_; (first | rw [← Ny560.out] at ho25 | (simp only [Int.reduceToNat] at ho25; rw [← Ny560.out] at ho25)); have HO562 := Aside0.mk (Kd.R_lower ho25 (below_size zB)); replace BK558 := zb BK558 hb rfl; replace HB := zS hb; clear hb ho25; obtain ⟨Ao26, co26, eo26⟩ := Kd.R_slice HO562.out; subst eo26) | ((with_reducible refine gate_callee (f := 38) rfl ?_); refine gl 47 Tryz.func38 #[.slice Ao26 y560.length co26, .string x4_11] ?_; (with_reducible refine (slices_Index_string_string.calls kj11 _ _ y560 x4_11 t563 _ ?side1 ?side2 A20.out).mono ?_); (case side1 => exact zC HO562); (case side2 => exact (Kd.R_reads' HO562.out).2.1); rintro e w' ⟨rfl, ⟨nd, rfl⟩⟩; refine ⟨_, rfl, ?_⟩; (try (rw [drewN_self w24]; generalize hq_ : World.drewN w24 _ = w24; have n0_ : Aside0 (Kd.R Kd.string 48 w24 w.heap.size (fun _ => True) (.slice Ao26 y560.length co26) y560) := ⟨by rw [← hq_]; exact (zU HO562)⟩; have n1_ : Aside0 (w24.heap[gb558]? = some (.cells #[.int .i64 0, .int .i64 0, .int .i64 0, .int .i64 0, .int .i64 0, .int .i64 0] 24 (0, 0))) := ⟨by rw [← hq_]; exact (by exact bq BK558.out)⟩; have n2_ : Aside0 (Below w.heap.size w w24) := ⟨by rw [← hq_]; exact zB⟩; clear HO562 BK558 HB hq_; have HO562 := n0_; have BK558 := n1_; have HB := n2_; clear n0_ n1_ n2_))) | ((with_reducible refine gate_dst (N := 9) rfl ?_); refine be 9 #[.int .i64 0, .int .i64 0, .int .i64 0, .int .i64 0, .int .i64 0, .int .i64 0] 24 ?_; intro gb564 hg w27 hbox hb; replace HO562 := Aside0.mk (Kd.R_below (zU HO562) hb); have BK564 := Aside0.mk hbox; have GW564 := zW hg; replace HB := zS hb; have GE564 := GW564; have NB558_564 := zl BK558 hg rfl; have NB564_558 := zg BK558 hg rfl; replace BK558 := zb BK558 hb rfl; clear hb hbox hg; have hnb28 := NB564_558.out; have hnc28 := NB558_564.out; obtain ⟨u29_0, u29_1, u29_2, u29_3, u29_4, u29_5, v29_0, v29_1, v29_2, v29_3, v29_4, v29_5⟩ := zc6 BK564))
      (try simp only [Act.put, List.setIfInBounds_toArray, List.set_cons_zero, List.set_cons_succ])
      go_cut [55] (fun v55 wc => ∃ (kq : Nat) (x55_21 : Bool), v55 = .bool x55_21 ∧ Aside0 (impl_readInsB.j2 kq l0 ji21 ji21 (l0.length : Int) x55_21 ji21 0 (-1) 0 0 x5_11 = some (r1, r2, r3, r4, r5, r6, r7)) ∧ Aside0 (kq ≤ kj11) ∧ Aside0 (wc.heap[gb558]? = some (.cells #[.int .i64 0, .int .i64 0, .int .i64 0, .int .i64 0, .int .i64 0, .int .i64 0] 24 (0, 0))) ∧ Aside0 (wc.heap[gb564]? = some (.cells #[.int .i64 ji21, .int .i64 0, .int .i64 (-1), .int .i64 0, .int .i64 0, .int .i64 x5_11] 24 (0, 0))) ∧ Aside0 (Below w.heap.size w wc))
      case first =>
       have H := HC22.out
       clear HC22
       replace H := oA H
       obtain ⟨t565, A30, H⟩ := H
       try dsimp only at H
       by_cases c31 : t565 = true
       ·subst c31
        rw [if_pos rfl] at H
        have H' := Aside0.mk H
        clear H
        go_wp2_with (first | ((with_reducible refine gate_callee (f := 20) rfl ?_); refine goesL_ (some 57) rfl rfl Tryz.func20 (by kernel_rfl) rfl #[.int .i64 ji21] rfl (by (try simp only [List.map_toArray, List.map_cons, List.map_nil]); first | done | (simp only [hji21]; rfl) | rfl | (simp only [List.length_drop, List.length_take]; rfl)) ?_; (with_reducible refine (impl_kind_reckons.calls ji21 true _ A30.out).mono ?_); rintro e w' ⟨rfl, ⟨nd, rfl⟩⟩; refine ⟨_, rfl, ?_⟩))
        go_meet
        case rel => exact ⟨_, (((l0.length : Int) == 3)), zQ, H', ⟨by have := HJ2.out; have := HJ11.out; first | omega | exact Nat.le_refl _⟩, ⟨by refine fq ?_ NB558_564.out; refine fq ?_ NB558_564.out; refine fq ?_ NB558_564.out; refine fq ?_ NB558_564.out; refine fq ?_ NB558_564.out; refine fq ?_ NB558_564.out; exact bq BK558.out⟩, ⟨by refine bq ?_; refine blk_put (cs := #[.int .i64 ji21, .int .i64 0, .int .i64 (-1), .int .i64 0, .int .i64 0, .int .i64 0]) ?_ 5 _ rfl; refine bq ?_; refine blk_put (cs := #[.int .i64 ji21, .int .i64 0, .int .i64 (-1), .int .i64 0, .int .i64 0, .int .i64 0]) ?_ 4 _ rfl; refine bq ?_; refine blk_put (cs := #[.int .i64 ji21, .int .i64 0, .int .i64 (-1), .int .i64 0, .int .i64 0, .int .i64 0]) ?_ 3 _ rfl; refine bq ?_; refine blk_put (cs := #[.int .i64 ji21, .int .i64 0, .int .i64 0, .int .i64 0, .int .i64 0, .int .i64 0]) ?_ 2 _ rfl; refine bq ?_; refine blk_put (cs := #[.int .i64 ji21, .int .i64 0, .int .i64 0, .int .i64 0, .int .i64 0, .int .i64 0]) ?_ 1 _ rfl; refine bq ?_; refine blk_put (cs := #[.int .i64 0, .int .i64 0, .int .i64 0, .int .i64 0, .int .i64 0, .int .i64 0]) ?_ 0 _ rfl; exact bq BK564.out⟩, ⟨zB⟩⟩
       ·replace c31 := Bool.eq_false_iff.mpr c31
        subst c31
        rw [if_neg (show ¬ (false = true) by decide)] at H
        have H' := Aside0.mk H
        clear H
        go_wp2_with (first | ((with_reducible refine gate_callee (f := 20) rfl ?_); refine goesL_ (some 57) rfl rfl Tryz.func20 (by kernel_rfl) rfl #[.int .i64 ji21] rfl (by (try simp only [List.map_toArray, List.map_cons, List.map_nil]); first | done | (simp only [hji21]; rfl) | rfl | (simp only [List.length_drop, List.length_take]; rfl)) ?_; (with_reducible refine (impl_kind_reckons.calls ji21 false _ A30.out).mono ?_); rintro e w' ⟨rfl, ⟨nd, rfl⟩⟩; refine ⟨_, rfl, ?_⟩))
        go_meet
        case rel => exact ⟨_, (false), zQ, H', ⟨by have := HJ2.out; have := HJ11.out; first | omega | exact Nat.le_refl _⟩, ⟨by refine fq ?_ NB558_564.out; refine fq ?_ NB558_564.out; refine fq ?_ NB558_564.out; refine fq ?_ NB558_564.out; refine fq ?_ NB558_564.out; refine fq ?_ NB558_564.out; exact bq BK558.out⟩, ⟨by refine bq ?_; refine blk_put (cs := #[.int .i64 ji21, .int .i64 0, .int .i64 (-1), .int .i64 0, .int .i64 0, .int .i64 0]) ?_ 5 _ rfl; refine bq ?_; refine blk_put (cs := #[.int .i64 ji21, .int .i64 0, .int .i64 (-1), .int .i64 0, .int .i64 0, .int .i64 0]) ?_ 4 _ rfl; refine bq ?_; refine blk_put (cs := #[.int .i64 ji21, .int .i64 0, .int .i64 (-1), .int .i64 0, .int .i64 0, .int .i64 0]) ?_ 3 _ rfl; refine bq ?_; refine blk_put (cs := #[.int .i64 ji21, .int .i64 0, .int .i64 0, .int .i64 0, .int .i64 0, .int .i64 0]) ?_ 2 _ rfl; refine bq ?_; refine blk_put (cs := #[.int .i64 ji21, .int .i64 0, .int .i64 0, .int .i64 0, .int .i64 0, .int .i64 0]) ?_ 1 _ rfl; refine bq ?_; refine blk_put (cs := #[.int .i64 0, .int .i64 0, .int .i64 0, .int .i64 0, .int .i64 0, .int .i64 0]) ?_ 0 _ rfl; exact bq BK564.out⟩, ⟨zB⟩⟩
      case rest =>
       clear HC22
       try clear c1
       try clear p1 p1
       try clear q1 q1
       try clear hx1
       try clear c2
       try clear c2b0
       try clear c2b1
       try clear p2 p2
       try clear c3
       try clear c5
       try clear c5b0
       try clear c5b1
       try clear p5 p5
       try clear q5 q5
       try clear hx5
       try clear qi5
       try clear p6 p6
       try clear c7
       try clear c7b0
       try clear c8
       try clear c8b0
       try clear p9 p9
       try clear q9 q9
       try clear hx9
       try clear c10
       try clear c10b0
       try clear p11 p11
       try clear q11 q11
       try clear hx11
       try clear c13
       try clear c15
       try clear c15b0
       try clear c16
       try clear c16b0
       try clear p17 p17
       try clear q17 q17
       try clear hx17
       try clear c18
       try clear c18b0
       try clear c19
       try clear c19b0
       try clear c19b1
       try clear c20
       try clear c25
       try clear c28
       try clear c31
       try clear u29_0 u29_1 u29_2 u29_3 u29_4 u29_5 v29_0 v29_1 v29_2 v29_3 v29_4 v29_5
       try clear hx559_0
       try clear p559
       try clear q559
       obtain ⟨kq, x55_21, rfl, HA, HJ21, BK558, BK564, HB⟩ := hcut
       cases kq with
       | zero => exact absurd HA.out (by simp [impl_readInsB.j2])
       | succ kj21 =>
        have H := HA.out
        clear HA
        simp only [impl_readInsB.j2] at H
        have HC32 := Aside0.mk H
        clear H
        go_upto_if 55 with (fail)
        go_cut [55] (fun v55 wc => ∃ (kq : Nat) (x55_31 : Bool), v55 = .bool x55_31 ∧ Aside0 (impl_readInsB.j3 kq l0 ji21 ji21 (l0.length : Int) x55_31 ji21 0 (-1) 0 0 x5_11 = some (r1, r2, r3, r4, r5, r6, r7)) ∧ Aside0 (kq ≤ kj21) ∧ Aside0 (wc.heap[gb558]? = some (.cells #[.int .i64 0, .int .i64 0, .int .i64 0, .int .i64 0, .int .i64 0, .int .i64 0] 24 (0, 0))) ∧ Aside0 (wc.heap[gb564]? = some (.cells #[.int .i64 ji21, .int .i64 0, .int .i64 (-1), .int .i64 0, .int .i64 0, .int .i64 x5_11] 24 (0, 0))) ∧ Aside0 (Below w.heap.size w wc))
        case first =>
         have H := HC32.out
         clear HC32
         by_cases c33 : x55_21 = true
         ·subst c33
          rw [if_pos rfl] at H
          have H' := Aside0.mk H
          clear H
          go_wp2
          go_meet
          case rel => exact ⟨_, (true), zQ, H', ⟨by have := HJ2.out; have := HJ11.out; have := HJ21.out; first | omega | exact Nat.le_refl _⟩, ⟨by exact bq BK558.out⟩, ⟨by exact bq BK564.out⟩, ⟨zB⟩⟩
         ·replace c33 := Bool.eq_false_iff.mpr c33
          subst c33
          rw [if_neg (show ¬ (false = true) by decide)] at H
          replace H := oA H
          obtain ⟨t566, A34, H⟩ := H
          try dsimp only at H
          by_cases c35 : t566 = true
          ·subst c35
           rw [if_pos rfl] at H
           have H' := Aside0.mk H
           clear H
           go_wp2_with (first | ((with_reducible refine gate_callee (f := 23) rfl ?_); refine goesL_ (some 63) rfl rfl Tryz.func23 (by kernel_rfl) rfl #[.int .i64 ji21] rfl (by (try simp only [List.map_toArray, List.map_cons, List.map_nil]); first | done | (simp only [hji21]; rfl) | rfl | (simp only [List.length_drop, List.length_take]; rfl)) ?_; (with_reducible refine (impl_kind_asks.calls ji21 true _ A34.out).mono ?_); rintro e w' ⟨rfl, ⟨nd, rfl⟩⟩; refine ⟨_, rfl, ?_⟩))
           go_meet
           case rel => exact ⟨_, (((l0.length : Int) == 4)), zQ, H', ⟨by have := HJ2.out; have := HJ11.out; have := HJ21.out; first | omega | exact Nat.le_refl _⟩, ⟨by exact bq BK558.out⟩, ⟨by exact bq BK564.out⟩, ⟨zB⟩⟩
          ·replace c35 := Bool.eq_false_iff.mpr c35
           subst c35
           rw [if_neg (show ¬ (false = true) by decide)] at H
           have H' := Aside0.mk H
           clear H
           go_wp2_with (first | ((with_reducible refine gate_callee (f := 23) rfl ?_); refine goesL_ (some 63) rfl rfl Tryz.func23 (by kernel_rfl) rfl #[.int .i64 ji21] rfl (by (try simp only [List.map_toArray, List.map_cons, List.map_nil]); first | done | (simp only [hji21]; rfl) | rfl | (simp only [List.length_drop, List.length_take]; rfl)) ?_; (with_reducible refine (impl_kind_asks.calls ji21 false _ A34.out).mono ?_); rintro e w' ⟨rfl, ⟨nd, rfl⟩⟩; refine ⟨_, rfl, ?_⟩))
           go_meet
           case rel => exact ⟨_, (false), zQ, H', ⟨by have := HJ2.out; have := HJ11.out; have := HJ21.out; first | omega | exact Nat.le_refl _⟩, ⟨by exact bq BK558.out⟩, ⟨by exact bq BK564.out⟩, ⟨zB⟩⟩
        case rest =>
         clear HC32
         try clear c1
         try clear p1 p1
         try clear q1 q1
         try clear hx1
         try clear c2
         try clear c2b0
         try clear c2b1
         try clear p2 p2
         try clear c3
         try clear c5
         try clear c5b0
         try clear c5b1
         try clear p5 p5
         try clear q5 q5
         try clear hx5
         try clear qi5
         try clear p6 p6
         try clear c7
         try clear c7b0
         try clear c8
         try clear c8b0
         try clear p9 p9
         try clear q9 q9
         try clear hx9
         try clear c10
         try clear c10b0
         try clear p11 p11
         try clear q11 q11
         try clear hx11
         try clear c13
         try clear c15
         try clear c15b0
         try clear c16
         try clear c16b0
         try clear p17 p17
         try clear q17 q17
         try clear hx17
         try clear c18
         try clear c18b0
         try clear c19
         try clear c19b0
         try clear c19b1
         try clear c20
         try clear c23
         try clear c25
         try clear c28
         try clear c31
         try clear c33
         try clear c35
         try clear u29_0 u29_1 u29_2 u29_3 u29_4 u29_5 v29_0 v29_1 v29_2 v29_3 v29_4 v29_5
         try clear hx559_0
         try clear p559
         try clear q559
         obtain ⟨kq, x55_31, rfl, HA, HJ31, BK558, BK564, HB⟩ := hcut
         cases kq with
         | zero => exact absurd HA.out (by simp [impl_readInsB.j3])
         | succ kj31 =>
          have H := HA.out
          clear HA
          simp only [impl_readInsB.j3] at H
          by_cases c36 : x55_31 = true
          ·subst c36
           rw [if_pos rfl] at H
           exact absurd H (by simp)
          ·replace c36 := Bool.eq_false_iff.mpr c36
           subst c36
           rw [if_neg (show ¬ (false = true) by decide)] at H
           have HC58 := Aside0.mk H
           clear H
           go_upto_region 18 with (fail)
           go_cut [84] (fun v84 wc => ∃ (kq : Nat) (x84_57 : Bool), v84 = .bool x84_57 ∧ Aside0 (impl_readInsB.j4 kq l0 ji21 (l0.length : Int) x84_57 ji21 0 (-1) 0 0 x5_11 = some (r1, r2, r3, r4, r5, r6, r7)) ∧ Aside0 (kq ≤ kj31) ∧ Aside0 (wc.heap[gb558]? = some (.cells #[.int .i64 0, .int .i64 0, .int .i64 0, .int .i64 0, .int .i64 0, .int .i64 0] 24 (0, 0))) ∧ Aside0 (wc.heap[gb564]? = some (.cells #[.int .i64 ji21, .int .i64 0, .int .i64 (-1), .int .i64 0, .int .i64 0, .int .i64 x5_11] 24 (0, 0))) ∧ Aside0 (Below w.heap.size w wc))
           case first =>
            have H := HC58.out
            clear HC58
            by_cases c59 : ji21 = 16
            ·rw [if_pos c59] at H
             have c59b0 : (ji21 == 16) = true := beq_iff_eq.mpr c59
             have c59b1 : (ji21 != 16) = false := bne_eq_false_iff_eq.mpr c59
             clear c59
             (first | rw [c59b0] | (simp only [i64_w, i32_w]; rw [c59b0]) | skip)
             have H' := Aside0.mk H
             clear H
             go_wp2
             go_meet
             case rel => exact ⟨_, (((l0.length : Int) == 2)), zQ, H', ⟨by have := HJ2.out; have := HJ11.out; have := HJ21.out; have := HJ31.out; first | omega | exact Nat.le_refl _⟩, ⟨by exact bq BK558.out⟩, ⟨by exact bq BK564.out⟩, ⟨zB⟩⟩
            ·rw [if_neg c59] at H
             have c59b0 : (ji21 == 16) = false := beq_eq_false_iff_ne.mpr c59
             have c59b1 : (ji21 != 16) = true := bne_iff_ne.mpr c59
             (first | rw [c59b0] | (simp only [i64_w, i32_w]; rw [c59b0]) | skip)
             have H' := Aside0.mk H
             clear H
             go_wp2
             go_meet
             case rel => exact ⟨_, (false), zQ, H', ⟨by have := HJ2.out; have := HJ11.out; have := HJ21.out; have := HJ31.out; first | omega | exact Nat.le_refl _⟩, ⟨by exact bq BK558.out⟩, ⟨by exact bq BK564.out⟩, ⟨zB⟩⟩
           case rest =>
            clear HC58
            try clear c1
            try clear p1 p1
            try clear q1 q1
            try clear hx1
            try clear c2
            try clear c2b0
            try clear c2b1
            try clear p2 p2
            try clear c3
            try clear c4
            try clear c5
            try clear c5b0
            try clear c5b1
            try clear p5 p5
            try clear q5 q5
            try clear hx5
            try clear qi5
            try clear p6 p6
            try clear c7
            try clear c7b0
            try clear c8
            try clear c8b0
            try clear p9 p9
            try clear q9 q9
            try clear hx9
            try clear c10
            try clear c10b0
            try clear p11 p11
            try clear q11 q11
            try clear hx11
            try clear c13
            try clear c15
            try clear c15b0
            try clear c16
            try clear c16b0
            try clear p17 p17
            try clear q17 q17
            try clear hx17
            try clear c18
            try clear c18b0
            try clear c19
            try clear c19b0
            try clear c19b1
            try clear c20
            try clear c23
            try clear c25
            try clear c28
            try clear c31
            try clear c33
            try clear c35
            try clear c36
            try clear c37
            try clear c37b0
            try clear c37b1
            try clear c38
            try clear c39
            try clear c39b0
            try clear c39b1
            try clear c40
            try clear c41
            try clear c42
            try clear c43
            try clear c43b0
            try clear c43b1
            try clear c46
            try clear c53
            try clear p55
            try clear q55
            try clear hx55
            try clear p56
            try clear q56
            try clear hx56
            try clear qi56
            try clear p57
            try clear q57
            try clear hx57
            try clear qi57
            try clear c59
            try clear c59b0
            try clear c59b1
            try clear u29_0 u29_1 u29_2 u29_3 u29_4 u29_5 v29_0 v29_1 v29_2 v29_3 v29_4 v29_5
            try clear u47_0 u47_1 u47_2 u47_3 u47_4 u47_5 v47_0 v47_1 v47_2 v47_3 v47_4 v47_5
            try clear u50_0 u50_1 u50_2 u50_3 u50_4 u50_5 v50_0 v50_1 v50_2 v50_3 v50_4 v50_5
            try clear u51_0 u51_1 u51_2 u51_3 u51_4 u51_5 v51_0 v51_1 v51_2 v51_3 v51_4 v51_5
            try clear u54_0 u54_1 u54_2 u54_3 u54_4 u54_5 v54_0 v54_1 v54_2 v54_3 v54_4 v54_5
            try clear u56_0 u56_1 u56_2 u56_3 u56_4 u56_5 v56_0 v56_1 v56_2 v56_3 v56_4 v56_5
            try clear u57_0 u57_1 u57_2 u57_3 u57_4 u57_5 v57_0 v57_1 v57_2 v57_3 v57_4 v57_5
            try clear hx559_0
            try clear hx567_0
            try clear hx569_0
            try clear hx577_0
            try clear p559
            try clear p567
            try clear p569
            try clear p577
            try clear q559
            try clear q567
            try clear q569
            try clear q577
            obtain ⟨kq, x84_57, rfl, HA, HJ57, BK558, BK564, HB⟩ := hcut
            cases kq with
            | zero => exact absurd HA.out (by simp [impl_readInsB.j4])
            | succ kj57 =>
             have H := HA.out
             clear HA
             simp only [impl_readInsB.j4] at H
             by_cases c60 : x84_57 = true
             ·subst c60
              rw [if_pos rfl] at H
              exact absurd H (by simp)
             ·replace c60 := Bool.eq_false_iff.mpr c60
              subst c60
              rw [if_neg (show ¬ (false = true) by decide)] at H
              have HC67 := Aside0.mk H
              clear H
              go_upto_region 20 with (fail)
              go_cut [96] (fun v96 wc => ∃ (kq : Nat) (x96_66 : Bool), v96 = .bool x96_66 ∧ Aside0 (impl_readInsB.j5 kq l0 ji21 (l0.length : Int) x96_66 ji21 0 (-1) 0 0 x5_11 = some (r1, r2, r3, r4, r5, r6, r7)) ∧ Aside0 (kq ≤ kj57) ∧ Aside0 (wc.heap[gb558]? = some (.cells #[.int .i64 0, .int .i64 0, .int .i64 0, .int .i64 0, .int .i64 0, .int .i64 0] 24 (0, 0))) ∧ Aside0 (wc.heap[gb564]? = some (.cells #[.int .i64 ji21, .int .i64 0, .int .i64 (-1), .int .i64 0, .int .i64 0, .int .i64 x5_11] 24 (0, 0))) ∧ Aside0 (Below w.heap.size w wc))
              case first =>
               have H := HC67.out
               clear HC67
               by_cases c68 : ji21 = 17
               ·rw [if_pos c68] at H
                have c68b0 : (ji21 == 17) = true := beq_iff_eq.mpr c68
                have c68b1 : (ji21 != 17) = false := bne_eq_false_iff_eq.mpr c68
                clear c68
                (first | rw [c68b0] | (simp only [i64_w, i32_w]; rw [c68b0]) | skip)
                have H' := Aside0.mk H
                clear H
                go_wp2
                go_meet
                case rel => exact ⟨_, (((l0.length : Int) == 4)), zQ, H', ⟨by have := HJ2.out; have := HJ11.out; have := HJ21.out; have := HJ31.out; have := HJ57.out; first | omega | exact Nat.le_refl _⟩, ⟨by exact bq BK558.out⟩, ⟨by exact bq BK564.out⟩, ⟨zB⟩⟩
               ·rw [if_neg c68] at H
                have c68b0 : (ji21 == 17) = false := beq_eq_false_iff_ne.mpr c68
                have c68b1 : (ji21 != 17) = true := bne_iff_ne.mpr c68
                (first | rw [c68b0] | (simp only [i64_w, i32_w]; rw [c68b0]) | skip)
                have H' := Aside0.mk H
                clear H
                go_wp2
                go_meet
                case rel => exact ⟨_, (false), zQ, H', ⟨by have := HJ2.out; have := HJ11.out; have := HJ21.out; have := HJ31.out; have := HJ57.out; first | omega | exact Nat.le_refl _⟩, ⟨by exact bq BK558.out⟩, ⟨by exact bq BK564.out⟩, ⟨zB⟩⟩
              case rest =>
               clear HC67
               try clear c1
               try clear p1 p1
               try clear q1 q1
               try clear hx1
               try clear c2
               try clear c2b0
               try clear c2b1
               try clear p2 p2
               try clear c3
               try clear c4
               try clear c5
               try clear c5b0
               try clear c5b1
               try clear p5 p5
               try clear q5 q5
               try clear hx5
               try clear qi5
               try clear c6
               try clear p6 p6
               try clear c7
               try clear c7b0
               try clear c8
               try clear c8b0
               try clear p9 p9
               try clear q9 q9
               try clear hx9
               try clear c10
               try clear c10b0
               try clear p11 p11
               try clear q11 q11
               try clear hx11
               try clear c13
               try clear c15
               try clear c15b0
               try clear c16
               try clear c16b0
               try clear p17 p17
               try clear q17 q17
               try clear hx17
               try clear c18
               try clear c18b0
               try clear c19
               try clear c19b0
               try clear c19b1
               try clear c20
               try clear c23
               try clear c25
               try clear c28
               try clear c31
               try clear c33
               try clear c35
               try clear c36
               try clear c37
               try clear c37b0
               try clear c37b1
               try clear c38
               try clear c39
               try clear c39b0
               try clear c39b1
               try clear c40
               try clear c41
               try clear c42
               try clear c43
               try clear c43b0
               try clear c43b1
               try clear c46
               try clear c53
               try clear p55 p55
               try clear q55 q55
               try clear hx55
               try clear p56 p56
               try clear q56 q56
               try clear hx56
               try clear qi56
               try clear p57 p57
               try clear q57 q57
               try clear hx57
               try clear qi57
               try clear c59
               try clear c59b0
               try clear c59b1
               try clear c60
               try clear c61
               try clear c61b0
               try clear c61b1
               try clear c64
               try clear c68
               try clear c68b0
               try clear c68b1
               try clear u29_0 u29_1 u29_2 u29_3 u29_4 u29_5 v29_0 v29_1 v29_2 v29_3 v29_4 v29_5
               try clear u47_0 u47_1 u47_2 u47_3 u47_4 u47_5 v47_0 v47_1 v47_2 v47_3 v47_4 v47_5
               try clear u50_0 u50_1 u50_2 u50_3 u50_4 u50_5 v50_0 v50_1 v50_2 v50_3 v50_4 v50_5
               try clear u51_0 u51_1 u51_2 u51_3 u51_4 u51_5 v51_0 v51_1 v51_2 v51_3 v51_4 v51_5
               try clear u54_0 u54_1 u54_2 u54_3 u54_4 u54_5 v54_0 v54_1 v54_2 v54_3 v54_4 v54_5
               try clear u56_0 u56_1 u56_2 u56_3 u56_4 u56_5 v56_0 v56_1 v56_2 v56_3 v56_4 v56_5
               try clear u57_0 u57_1 u57_2 u57_3 u57_4 u57_5 v57_0 v57_1 v57_2 v57_3 v57_4 v57_5
               try clear u65_0 u65_1 u65_2 u65_3 u65_4 u65_5 v65_0 v65_1 v65_2 v65_3 v65_4 v65_5
               try clear u66_0 u66_1 u66_2 u66_3 u66_4 u66_5 v66_0 v66_1 v66_2 v66_3 v66_4 v66_5
               try clear hx559_0
               try clear hx567_0
               try clear hx569_0
               try clear hx577_0
               try clear hx579_0
               try clear p559
               try clear p567
               try clear p569
               try clear p577
               try clear p579
               try clear q559
               try clear q567
               try clear q569
               try clear q577
               try clear q579
               obtain ⟨kq, x96_66, rfl, HA, HJ66, BK558, BK564, HB⟩ := hcut
               cases kq with
               | zero => exact absurd HA.out (by simp [impl_readInsB.j5])
               | succ kj66 =>
                have H := HA.out
                clear HA
                simp only [impl_readInsB.j5] at H
                by_cases c69 : x96_66 = true
                ·subst c69
                 rw [if_pos rfl] at H
                 exact absurd H (by simp)
                ·replace c69 := Bool.eq_false_iff.mpr c69
                 subst c69
                 rw [if_neg (show ¬ (false = true) by decide)] at H
                 have HC86 := Aside0.mk H
                 clear H
                 go_upto_region 22 with (fail)
                 go_cut [118] (fun v118 wc => ∃ (kq : Nat) (x118_85 : Bool), v118 = .bool x118_85 ∧ Aside0 (impl_readIns.j6 kq l0 ji21 (l0.length : Int) x118_85 ji21 0 (-1) 0 0 x5_11 = some (r1, r2, r3, r4, r5, r6, r7)) ∧ Aside0 (kq ≤ kj66) ∧ Aside0 (wc.heap[gb558]? = some (.cells #[.int .i64 0, .int .i64 0, .int .i64 0, .int .i64 0, .int .i64 0, .int .i64 0] 24 (0, 0))) ∧ Aside0 (wc.heap[gb564]? = some (.cells #[.int .i64 ji21, .int .i64 0, .int .i64 (-1), .int .i64 0, .int .i64 0, .int .i64 x5_11] 24 (0, 0))) ∧ Aside0 (Below w.heap.size w wc))
                 case first =>
                  have H := HC86.out
                  clear HC86
                  by_cases c87 : ji21 = 18
                  ·rw [if_pos c87] at H
                   have c87b0 : (ji21 == 18) = true := beq_iff_eq.mpr c87
                   have c87b1 : (ji21 != 18) = false := bne_eq_false_iff_eq.mpr c87
                   clear c87
                   (first | rw [c87b0] | (simp only [i64_w, i32_w]; rw [c87b0]) | skip)
                   have H' := Aside0.mk H
                   clear H
                   go_wp2
                   go_meet
                   case rel => exact ⟨_, (((l0.length : Int) == 4)), zQ, H', ⟨by have := HJ2.out; have := HJ11.out; have := HJ21.out; have := HJ31.out; have := HJ57.out; have := HJ66.out; first | omega | exact Nat.le_refl _⟩, ⟨by exact bq BK558.out⟩, ⟨by exact bq BK564.out⟩, ⟨zB⟩⟩
                  ·rw [if_neg c87] at H
                   have c87b0 : (ji21 == 18) = false := beq_eq_false_iff_ne.mpr c87
                   have c87b1 : (ji21 != 18) = true := bne_iff_ne.mpr c87
                   (first | rw [c87b0] | (simp only [i64_w, i32_w]; rw [c87b0]) | skip)
                   have H' := Aside0.mk H
                   clear H
                   go_wp2
                   go_meet
                   case rel => exact ⟨_, (false), zQ, H', ⟨by have := HJ2.out; have := HJ11.out; have := HJ21.out; have := HJ31.out; have := HJ57.out; have := HJ66.out; first | omega | exact Nat.le_refl _⟩, ⟨by exact bq BK558.out⟩, ⟨by exact bq BK564.out⟩, ⟨zB⟩⟩
                 case rest =>
                  clear HC86
                  try clear c1
                  try clear p1 p1
                  try clear q1 q1
                  try clear hx1
                  try clear c2
                  try clear p2 p2
                  try clear c3
                  try clear c4
                  try clear c5
                  try clear c5b0
                  try clear c5b1
                  try clear p5 p5
                  try clear q5 q5
                  try clear hx5
                  try clear qi5
                  try clear c6
                  try clear p6 p6
                  try clear c7
                  try clear c7b0
                  try clear c8
                  try clear c8b0
                  try clear p9 p9
                  try clear q9 q9
                  try clear hx9
                  try clear c10
                  try clear c10b0
                  try clear p11 p11
                  try clear q11 q11
                  try clear hx11
                  try clear c13
                  try clear c15
                  try clear c15b0
                  try clear c16
                  try clear c16b0
                  try clear p17 p17
                  try clear q17 q17
                  try clear hx17
                  try clear c18
                  try clear c18b0
                  try clear c19
                  try clear c19b0
                  try clear c19b1
                  try clear c20
                  try clear c23
                  try clear c25
                  try clear c28
                  try clear c31
                  try clear c33
                  try clear c35
                  try clear c36
                  try clear c37
                  try clear c37b0
                  try clear c37b1
                  try clear c38
                  try clear c39
                  try clear c39b0
                  try clear c39b1
                  try clear c40
                  try clear c41
                  try clear c42
                  try clear c43
                  try clear c43b0
                  try clear c43b1
                  try clear c46
                  try clear c53
                  try clear p55 p55
                  try clear q55 q55
                  try clear hx55
                  try clear p56 p56
                  try clear q56 q56
                  try clear hx56
                  try clear qi56
                  try clear p57 p57
                  try clear q57 q57
                  try clear hx57
                  try clear qi57
                  try clear p58
                  try clear q58
                  try clear hx58
                  try clear qi58
                  try clear c59
                  try clear c59b0
                  try clear c59b1
                  try clear c60
                  try clear c61
                  try clear c61b0
                  try clear c61b1
                  try clear c64
                  try clear c68
                  try clear c68b0
                  try clear c68b1
                  try clear c69
                  try clear c70
                  try clear c70b0
                  try clear c70b1
                  try clear c72
                  try clear c72b0
                  try clear c72b1
                  try clear c74
                  try clear c74b0
                  try clear c74b1
                  try clear c83
                  try clear c87
                  try clear c87b0
                  try clear c87b1
                  try clear u29_0 u29_1 u29_2 u29_3 u29_4 u29_5 v29_0 v29_1 v29_2 v29_3 v29_4 v29_5
                  try clear u47_0 u47_1 u47_2 u47_3 u47_4 u47_5 v47_0 v47_1 v47_2 v47_3 v47_4 v47_5
                  try clear u50_0 u50_1 u50_2 u50_3 u50_4 u50_5 v50_0 v50_1 v50_2 v50_3 v50_4 v50_5
                  try clear u51_0 u51_1 u51_2 u51_3 u51_4 u51_5 v51_0 v51_1 v51_2 v51_3 v51_4 v51_5
                  try clear u54_0 u54_1 u54_2 u54_3 u54_4 u54_5 v54_0 v54_1 v54_2 v54_3 v54_4 v54_5
                  try clear u56_0 u56_1 u56_2 u56_3 u56_4 u56_5 v56_0 v56_1 v56_2 v56_3 v56_4 v56_5
                  try clear u57_0 u57_1 u57_2 u57_3 u57_4 u57_5 v57_0 v57_1 v57_2 v57_3 v57_4 v57_5
                  try clear u65_0 u65_1 u65_2 u65_3 u65_4 u65_5 v65_0 v65_1 v65_2 v65_3 v65_4 v65_5
                  try clear u66_0 u66_1 u66_2 u66_3 u66_4 u66_5 v66_0 v66_1 v66_2 v66_3 v66_4 v66_5
                  try clear u84_0 u84_1 u84_2 u84_3 u84_4 u84_5 v84_0 v84_1 v84_2 v84_3 v84_4 v84_5
                  try clear u85_0 u85_1 u85_2 u85_3 u85_4 u85_5 v85_0 v85_1 v85_2 v85_3 v85_4 v85_5
                  try clear hx559_0
                  try clear hx567_0
                  try clear hx569_0
                  try clear hx577_0
                  try clear hx579_0
                  try clear hx581_0
                  try clear hx583_0
                  try clear hx585_0
                  try clear p559
                  try clear p567
                  try clear p569
                  try clear p577
                  try clear p579
                  try clear p581
                  try clear p583
                  try clear p585
                  try clear q559
                  try clear q567
                  try clear q569
                  try clear q577
                  try clear q579
                  try clear q581
                  try clear q583
                  try clear q585
                  obtain ⟨kq, x118_85, rfl, HA, HJ85, BK558, BK564, HB⟩ := hcut
                  cases kq with
                  | zero => exact absurd HA.out (by simp [impl_readIns.j6])
                  | succ kj85 =>
                   have H := HA.out
                   clear HA
                   simp only [impl_readIns.j6] at H
                   by_cases c88 : x118_85 = true
                   ·subst c88
                    rw [if_pos rfl] at H
                    by_cases c89 : 1 < (l0.length : Int)
                    ·rw [if_pos c89] at H
                     have c89b0 : decide (1 < (l0.length : Int)) = true := decide_eq_true c89
                     have c89b1 : decide (1 < l0.length) = true := decide_eq_true (by omega)
                     clear c89
                     replace H := oA H
                     obtain ⟨t588, A90, H⟩ := H
                     try dsimp only at H
                     by_cases c91 : 2 < (l0.length : Int)
                     ·rw [if_pos c91] at H
                      have c91b0 : decide (2 < (l0.length : Int)) = true := decide_eq_true c91
                      have c91b1 : decide (2 < l0.length) = true := decide_eq_true (by omega)
                      clear c91
                      replace H := oA H
                      obtain ⟨t590, A92, H⟩ := H
                      try dsimp only at H
                      by_cases c93 : 3 < (l0.length : Int)
                      ·rw [if_pos c93] at H
                       have c93b0 : decide (3 < (l0.length : Int)) = true := decide_eq_true c93
                       have c93b1 : decide (3 < l0.length) = true := decide_eq_true (by omega)
                       clear c93
                       replace H := oA H
                       obtain ⟨⟨t592, t593, t594, t595, t596, t597⟩, A94, H⟩ := H
                       try dsimp only at H
                       simp only [Option.some.injEq, Prod.mk.injEq] at H
                       obtain ⟨rfl, rfl, rfl, rfl, rfl, rfl, rfl⟩ := H
                       try go_wp2
                       replace BK558 := Aside0.mk (blk_drew BK558.out)
                       replace BK564 := Aside0.mk (blk_drew BK564.out)
                       replace HB := Aside0.mk (below_drew1 HB.out)
                       have p587 : 0 ≤ (1 : Int) := (by omega)
                       have q587 : 1 < (l0.length : Int) := of_decide_eq_true (by first | (with_reducible assumption) | assumption)
                       obtain ⟨ad587, e587, hx587_0⟩ := Kd.at_string HR0.out 1 p587 q587
                       have hw587_0 := hx587_0
                       (try rw [show ((1 : Int)).toNat = 1 from rfl] at hw587_0)
                       (try rw [show 1 * 1 = 1 from rfl] at hw587_0)
                       (try simp only [Nat.reduceMul, Nat.reduceEqDiff, Go.Addr.add, ↓reduceIte] at hw587_0)
                       obtain rfl : ad559 = ad587 := (by injection e587)
                       (try simp only [show (1 : Int).toNat = 1 from rfl, Nat.reduceMul, Nat.reduceEqDiff, Go.Addr.add, ↓reduceIte] at hx587_0)
                       have qi587 : (1 < l0.length) = True := eq_true (by omega)
                       (try rw [show ((1 : Int)).toNat = 1 from rfl] at hx587_0)
                       replace hx587_0 := (HB.out.cell (World.block_lt_of_cell? w _ hx587_0)).trans hx587_0
                       replace p587 := eq_true p587
                       replace q587 := eq_true q587
                       have p589 : 0 ≤ (2 : Int) := (by omega)
                       have q589 : 2 < (l0.length : Int) := of_decide_eq_true (by first | (with_reducible assumption) | assumption)
                       obtain ⟨ad589, e589, hx589_0⟩ := Kd.at_string HR0.out 2 p589 q589
                       have hw589_0 := hx589_0
                       (try rw [show ((2 : Int)).toNat = 2 from rfl] at hw589_0)
                       (try rw [show 2 * 1 = 2 from rfl] at hw589_0)
                       (try simp only [Nat.reduceMul, Nat.reduceEqDiff, Go.Addr.add, ↓reduceIte] at hw589_0)
                       obtain rfl : ad559 = ad589 := (by injection e589)
                       (try simp only [show (2 : Int).toNat = 2 from rfl, Nat.reduceMul, Nat.reduceEqDiff, Go.Addr.add, ↓reduceIte] at hx589_0)
                       have qi589 : (2 < l0.length) = True := eq_true (by omega)
                       (try rw [show ((2 : Int)).toNat = 2 from rfl] at hx589_0)
                       replace hx589_0 := (HB.out.cell (World.block_lt_of_cell? w _ hx589_0)).trans hx589_0
                       replace p589 := eq_true p589
                       replace q589 := eq_true q589
                       refine start_ (n := 12) (S := fun w' => w'.cell? ⟨ad559.block, ad559.off + 1, none⟩ = some (.string (rdOf ByteArray.empty l0 1)) ∧ w'.cell? ⟨ad559.block, ad559.off + 2, none⟩ = some (.string (rdOf ByteArray.empty l0 2))) (ds := []) #[false, false, false, false, false, false, false, false, false, false, false, false] (by kernel_rfl) rfl rfl ⟨((HB.out.cell (World.block_lt_of_cell? w _ hw587_0)).trans hw587_0), ((HB.out.cell (World.block_lt_of_cell? w _ hw589_0)).trans hw589_0)⟩ (fun hHeld => ?_); refine with_tabW impl_readIns.tab23 impl_readIns.bits23 (fun HT_ HW_ => ?_)
                       generalize wc.drew = w95 at BK558 BK564 HB hx587_0 hx589_0 hHeld ⊢
                       refine pz 0 125 ?_
                       refine pz 1 126 ?_
                       refine pz 4 129 ?_
                       refine pz 5 130 ?_
                       refine tz 2 127 ?_
                       refine tz 6 131 ?_
                       refine oz 3 128 fun K hK => ?_
                       refine gz Tryz.func39 #[.string (rdOf ByteArray.empty l0 1)] ?_
                       with_reducible refine (impl_readReg.calls (rdOf ByteArray.empty l0 1) t588 _ A90.out).mono ?_
                       rintro e w96 ⟨rfl, hb⟩
                       refine ⟨_, rfl, ?_⟩
                       replace BK558 := zb BK558 hb rfl
                       replace BK564 := zb BK564 hb rfl
                       replace HB := zS hb
                       try clear hb
                       refine hK.out _ _ ⟨((HB.out.cell (World.block_lt_of_cell? w _ hw587_0)).trans hw587_0), ((HB.out.cell (World.block_lt_of_cell? w _ hw589_0)).trans hw589_0)⟩ (fun hHeld => ?_)
                       clear hK K
                       refine nz ?_
                       refine oz 7 132 fun K hK => ?_
                       refine gz Tryz.func41 #[.string (rdOf ByteArray.empty l0 2)] ?_
                       with_reducible refine (impl_number.calls (rdOf ByteArray.empty l0 2) t590 _ A92.out).mono ?_
                       rintro e w97 ⟨rfl, hb⟩
                       refine ⟨_, rfl, ?_⟩
                       replace BK558 := zb BK558 hb rfl
                       replace BK564 := zb BK564 hb rfl
                       replace HB := zS hb
                       try clear hb
                       refine hK.out _ _ ⟨((HB.out.cell (World.block_lt_of_cell? w _ hw587_0)).trans hw587_0), ((HB.out.cell (World.block_lt_of_cell? w _ hw589_0)).trans hw589_0)⟩ (fun hHeld => ?_)
                       clear hK K
                       refine nz ?_
                       refine pz 8 133 ?_
                       refine oN 9 fun K hK => ?_
                       have hs98 : w97.cell? ⟨gb564, 1, none⟩ = some (.int .i64 0) := (blk_cell BK564.out 1).trans rfl
                       have hfs98 := blk_frozen BK564.out 1
                       have hns98_0 := NB558_564.out
                       have hms98_0 := NB564_558.out
                       refine skip_ (w1 := ?_) (by rfl) rfl ?_ ?_
                       rotate_left
                       ·go_simp
                        rfl
                       refine hK.out _ _ ⟨((cell_far (p := ⟨gb564, _, none⟩) (zN hw587_0 GW564) _).trans (hHeld.1)), ((cell_far (p := ⟨gb564, _, none⟩) (zN hw589_0 GW564) _).trans (hHeld.2))⟩ (fun hHeld => ?_)
                       clear hK K
                       refine pz 10 134 ?_
                       refine oN 11 fun K hK => ?_
                       have hs99 : w97.cell? ⟨gb564, 3, none⟩ = some (.int .i64 0) := (blk_cell BK564.out 3).trans rfl
                       have hfs99 := blk_frozen BK564.out 3
                       have hns99_0 := NB558_564.out
                       have hms99_0 := NB564_558.out
                       refine skip_ (w1 := ?_) (by rfl) rfl ?_ ?_
                       rotate_left
                       ·go_simp
                        rfl
                       refine hK.out _ _ ⟨((cell_far (p := ⟨gb564, _, none⟩) (zN hw587_0 GW564) _).trans (hHeld.1)), ((cell_far (p := ⟨gb564, _, none⟩) (zN hw589_0 GW564) _).trans (hHeld.2))⟩ (fun hHeld => ?_)
                       clear hK K
                       refine done_ (done_of HT_.out (by kernel_rfl)) ?_
                       have p591 : 0 ≤ (3 : Int) := (by omega)
                       have q591 : 3 < (l0.length : Int) := of_decide_eq_true (by first | (with_reducible assumption) | assumption)
                       obtain ⟨ad591, e591, hx591_0⟩ := Kd.at_string HR0.out 3 p591 q591
                       obtain rfl : ad559 = ad591 := (by injection e591)
                       (try simp only [show (3 : Int).toNat = 3 from rfl, Nat.reduceMul, Nat.reduceEqDiff, Go.Addr.add, ↓reduceIte] at hx591_0)
                       have qi591 : (3 < l0.length) = True := eq_true (by omega)
                       (try rw [show ((3 : Int)).toNat = 3 from rfl] at hx591_0)
                       have hn591_0 : ad559.block ≠ gb564 := Nat.ne_of_lt (Nat.lt_of_lt_of_le (by have := World.block_lt_of_cell? _ _ hx591_0; first | rwa [add_block] at this | exact this) GW564.out)
                       have hn591_1 : ad559.block ≠ gb564 := Nat.ne_of_lt (Nat.lt_of_lt_of_le (by have := World.block_lt_of_cell? _ _ hx591_0; first | rwa [add_block] at this | exact this) GW564.out)
                       replace hx591_0 := (HB.out.cell (World.block_lt_of_cell? w _ hx591_0)).trans hx591_0
                       replace hx591_0 := (cell_far (p := ⟨gb564, 1, none⟩) (by first | (rw [add_block]; exact hn591_0) | (show (Addr.add _ _).block ≠ _; rw [add_block]; exact hn591_0) | exact hn591_0) (.int .i64 t588)).trans hx591_0
                       replace hx591_0 := (cell_far (p := ⟨gb564, 3, none⟩) (by first | (rw [add_block]; exact hn591_1) | (show (Addr.add _ _).block ≠ _; rw [add_block]; exact hn591_1) | exact hn591_1) (.int .i64 t590)).trans hx591_0
                       clear hn591_0
                       clear hn591_1
                       replace p591 := eq_true p591
                       replace q591 := eq_true q591
                       try go_wp2_with (first | ((with_reducible refine gate_callee (f := 40) rfl ?_); refine gl 138 Tryz.func40 #[.pointer (some ⟨gb564, 0, none⟩), .string (rdOf ByteArray.empty l0 3)] ?_; (with_reducible refine (impl_Ins_setValue.calls gb564 ji21 t588 (-1) t590 0 x5_11 (rdOf ByteArray.empty l0 3) t592 t593 t594 t595 t596 t597 w _ ?side1 ?side2 A94.out).mono ?_); (case side1 => exact ⟨(by refine bq ?_; refine blk_put (cs := #[.int .i64 ji21, .int .i64 t588, .int .i64 (-1), .int .i64 0, .int .i64 0, .int .i64 x5_11]) ?_ 3 _ rfl; refine bq ?_; refine blk_put (cs := #[.int .i64 ji21, .int .i64 0, .int .i64 (-1), .int .i64 0, .int .i64 0, .int .i64 x5_11]) ?_ 1 _ rfl; exact bq BK564.out), GE564.out⟩); (case side2 => repeat (first | (with_reducible first | exact HB.out | apply below_alloc | apply pw_below_drewN | apply below_drew1 | refine below_set ?_ GE564.out | refine below_set ?_ GE558.out) | exact HB.out)); rintro e w100 ⟨rfl, hi, hb, hk⟩; refine ⟨_, rfl, ?_⟩; replace BK558 := Aside0.mk (KeepBut.blk hk (g' := gb558) (o := .cells #[.int .i64 0, .int .i64 0, .int .i64 0, .int .i64 0, .int .i64 0, .int .i64 0] 24 (0, 0)) (by refine fq ?_ NB558_564.out; refine fq ?_ NB558_564.out; exact bq BK558.out) NB558_564.out (by simp)); replace HB := Aside0.mk hb; replace BK564 := Aside0.mk (hi.1); (try clear hb); (try clear hb2); (try clear hk); (try clear hi); have hnb101 := NB564_558.out; have hnc101 := NB558_564.out; obtain ⟨u102_0, u102_1, u102_2, u102_3, u102_4, u102_5, v102_0, v102_1, v102_2, v102_3, v102_4, v102_5⟩ := zc6 BK564; obtain ⟨u103_0, u103_1, u103_2, u103_3, u103_4, u103_5, v103_0, v103_1, v103_2, v103_3, v103_4, v103_5⟩ := zc6 BK558))
                       refine bodyPost_ret (results_ct rfl _ _ gb558 24 #[.int .i64 t592, .int .i64 t593, .int .i64 t594, .int .i64 t595, .int .i64 t596, .int .i64 t597] (0, 0) _ rfl (by refine bq ?_; refine blk_put (cs := #[.int .i64 t592, .int .i64 t593, .int .i64 t594, .int .i64 t595, .int .i64 t596, .int .i64 0]) ?_ 5 _ rfl; refine bq ?_; refine blk_put (cs := #[.int .i64 t592, .int .i64 t593, .int .i64 t594, .int .i64 t595, .int .i64 0, .int .i64 0]) ?_ 4 _ rfl; refine bq ?_; refine blk_put (cs := #[.int .i64 t592, .int .i64 t593, .int .i64 t594, .int .i64 0, .int .i64 0, .int .i64 0]) ?_ 3 _ rfl; refine bq ?_; refine blk_put (cs := #[.int .i64 t592, .int .i64 t593, .int .i64 0, .int .i64 0, .int .i64 0, .int .i64 0]) ?_ 2 _ rfl; refine bq ?_; refine blk_put (cs := #[.int .i64 t592, .int .i64 0, .int .i64 0, .int .i64 0, .int .i64 0, .int .i64 0]) ?_ 1 _ rfl; refine bq ?_; refine blk_put (cs := #[.int .i64 0, .int .i64 0, .int .i64 0, .int .i64 0, .int .i64 0, .int .i64 0]) ?_ 0 _ rfl; exact bq BK558.out) Tryz.underlying24 rfl (by kernel_rfl)) rfl ?_
                       exact ⟨by first | rfl | (simp [errW_none, errW_some] <;> rfl) | (simp only [← hji21]; first | rfl | (simp [errW_none, errW_some] <;> rfl)) | (simp [*, errW_none, errW_some] <;> rfl), zB⟩
                      ·exact absurd H (nN c93)
                     ·exact absurd H (nN c91)
                    ·exact absurd H (nN c89)
                   ·replace c88 := Bool.eq_false_iff.mpr c88
                    subst c88
                    rw [if_neg (show ¬ (false = true) by decide)] at H
                    have HC104 := Aside0.mk H
                    clear H
                    go_upto_region 25 with (fail)
                    go_cut [139] (fun v139 wc => ∃ (kq : Nat) (x139_103 : Bool), v139 = .bool x139_103 ∧ Aside0 (impl_readIns.j7 kq l0 ji21 (l0.length : Int) x139_103 ji21 0 (-1) 0 0 x5_11 = some (r1, r2, r3, r4, r5, r6, r7)) ∧ Aside0 (kq ≤ kj85) ∧ Aside0 (wc.heap[gb558]? = some (.cells #[.int .i64 0, .int .i64 0, .int .i64 0, .int .i64 0, .int .i64 0, .int .i64 0] 24 (0, 0))) ∧ Aside0 (wc.heap[gb564]? = some (.cells #[.int .i64 ji21, .int .i64 0, .int .i64 (-1), .int .i64 0, .int .i64 0, .int .i64 x5_11] 24 (0, 0))) ∧ Aside0 (Below w.heap.size w wc))
                    case first =>
                     have H := HC104.out
                     clear HC104
                     by_cases c105 : ji21 = 19
                     ·rw [if_pos c105] at H
                      have c105b0 : (ji21 == 19) = true := beq_iff_eq.mpr c105
                      have c105b1 : (ji21 != 19) = false := bne_eq_false_iff_eq.mpr c105
                      clear c105
                      (first | rw [c105b0] | (simp only [i64_w, i32_w]; rw [c105b0]) | skip)
                      have H' := Aside0.mk H
                      clear H
                      go_wp2
                      go_meet
                      case rel => exact ⟨_, (((l0.length : Int) == 2)), zQ, H', ⟨by have := HJ2.out; have := HJ11.out; have := HJ21.out; have := HJ31.out; have := HJ57.out; have := HJ66.out; have := HJ85.out; first | omega | exact Nat.le_refl _⟩, ⟨by exact bq BK558.out⟩, ⟨by exact bq BK564.out⟩, ⟨zB⟩⟩
                     ·rw [if_neg c105] at H
                      have c105b0 : (ji21 == 19) = false := beq_eq_false_iff_ne.mpr c105
                      have c105b1 : (ji21 != 19) = true := bne_iff_ne.mpr c105
                      (first | rw [c105b0] | (simp only [i64_w, i32_w]; rw [c105b0]) | skip)
                      have H' := Aside0.mk H
                      clear H
                      go_wp2
                      go_meet
                      case rel => exact ⟨_, (false), zQ, H', ⟨by have := HJ2.out; have := HJ11.out; have := HJ21.out; have := HJ31.out; have := HJ57.out; have := HJ66.out; have := HJ85.out; first | omega | exact Nat.le_refl _⟩, ⟨by exact bq BK558.out⟩, ⟨by exact bq BK564.out⟩, ⟨zB⟩⟩
                    case rest =>
                     clear HC104
                     try clear c1
                     try clear p1 p1
                     try clear q1 q1
                     try clear hx1
                     try clear c2
                     try clear p2 p2
                     try clear c3
                     try clear c4
                     try clear c5
                     try clear c5b0
                     try clear c5b1
                     try clear p5 p5
                     try clear q5 q5
                     try clear hx5
                     try clear qi5
                     try clear c6
                     try clear p6 p6
                     try clear c7
                     try clear c7b0
                     try clear c8
                     try clear c8b0
                     try clear c9
                     try clear p9 p9
                     try clear q9 q9
                     try clear hx9
                     try clear c10
                     try clear c10b0
                     try clear p11 p11
                     try clear q11 q11
                     try clear hx11
                     try clear c13
                     try clear c15
                     try clear c15b0
                     try clear c16
                     try clear c16b0
                     try clear p17 p17
                     try clear q17 q17
                     try clear hx17
                     try clear c18
                     try clear c18b0
                     try clear c19
                     try clear c19b0
                     try clear c19b1
                     try clear c20
                     try clear c23
                     try clear c25
                     try clear c28
                     try clear c31
                     try clear c33
                     try clear c35
                     try clear c36
                     try clear c37
                     try clear c37b0
                     try clear c37b1
                     try clear c38
                     try clear c39
                     try clear c39b0
                     try clear c39b1
                     try clear c40
                     try clear c41
                     try clear c42
                     try clear c43
                     try clear c43b0
                     try clear c43b1
                     try clear c46
                     try clear c53
                     try clear p55 p55
                     try clear q55 q55
                     try clear hx55
                     try clear p56 p56
                     try clear q56 q56
                     try clear hx56
                     try clear qi56
                     try clear p57 p57
                     try clear q57 q57
                     try clear hx57
                     try clear qi57
                     try clear p58 p58
                     try clear q58 q58
                     try clear hx58
                     try clear qi58
                     try clear c59
                     try clear c59b0
                     try clear c59b1
                     try clear p59
                     try clear q59
                     try clear hx59
                     try clear qi59
                     try clear c60
                     try clear c61
                     try clear c61b0
                     try clear c61b1
                     try clear c64
                     try clear c68
                     try clear c68b0
                     try clear c68b1
                     try clear c69
                     try clear c70
                     try clear c70b0
                     try clear c70b1
                     try clear c72
                     try clear c72b0
                     try clear c72b1
                     try clear c74
                     try clear c74b0
                     try clear c74b1
                     try clear c83
                     try clear c87
                     try clear c87b0
                     try clear c87b1
                     try clear c88
                     try clear c89
                     try clear c89b0
                     try clear c89b1
                     try clear c91
                     try clear c91b0
                     try clear c91b1
                     try clear c93
                     try clear c93b0
                     try clear c93b1
                     try clear c101
                     try clear c105
                     try clear c105b0
                     try clear c105b1
                     try clear u102_0 u102_1 u102_2 u102_3 u102_4 u102_5 v102_0 v102_1 v102_2 v102_3 v102_4 v102_5
                     try clear u103_0 u103_1 u103_2 u103_3 u103_4 u103_5 v103_0 v103_1 v103_2 v103_3 v103_4 v103_5
                     try clear u29_0 u29_1 u29_2 u29_3 u29_4 u29_5 v29_0 v29_1 v29_2 v29_3 v29_4 v29_5
                     try clear u47_0 u47_1 u47_2 u47_3 u47_4 u47_5 v47_0 v47_1 v47_2 v47_3 v47_4 v47_5
                     try clear u50_0 u50_1 u50_2 u50_3 u50_4 u50_5 v50_0 v50_1 v50_2 v50_3 v50_4 v50_5
                     try clear u51_0 u51_1 u51_2 u51_3 u51_4 u51_5 v51_0 v51_1 v51_2 v51_3 v51_4 v51_5
                     try clear u54_0 u54_1 u54_2 u54_3 u54_4 u54_5 v54_0 v54_1 v54_2 v54_3 v54_4 v54_5
                     try clear u56_0 u56_1 u56_2 u56_3 u56_4 u56_5 v56_0 v56_1 v56_2 v56_3 v56_4 v56_5
                     try clear u57_0 u57_1 u57_2 u57_3 u57_4 u57_5 v57_0 v57_1 v57_2 v57_3 v57_4 v57_5
                     try clear u65_0 u65_1 u65_2 u65_3 u65_4 u65_5 v65_0 v65_1 v65_2 v65_3 v65_4 v65_5
                     try clear u66_0 u66_1 u66_2 u66_3 u66_4 u66_5 v66_0 v66_1 v66_2 v66_3 v66_4 v66_5
                     try clear u84_0 u84_1 u84_2 u84_3 u84_4 u84_5 v84_0 v84_1 v84_2 v84_3 v84_4 v84_5
                     try clear u85_0 u85_1 u85_2 u85_3 u85_4 u85_5 v85_0 v85_1 v85_2 v85_3 v85_4 v85_5
                     try clear hx559_0
                     try clear hx567_0
                     try clear hx569_0
                     try clear hx577_0
                     try clear hx579_0
                     try clear hx581_0
                     try clear hx583_0
                     try clear hx585_0
                     try clear hx587_0
                     try clear hx589_0
                     try clear hx591_0
                     try clear p559
                     try clear p567
                     try clear p569
                     try clear p577
                     try clear p579
                     try clear p581
                     try clear p583
                     try clear p585
                     try clear p587
                     try clear p589
                     try clear p591
                     try clear q559
                     try clear q567
                     try clear q569
                     try clear q577
                     try clear q579
                     try clear q581
                     try clear q583
                     try clear q585
                     try clear q587
                     try clear q589
                     try clear q591
                     obtain ⟨kq, x139_103, rfl, HA, HJ103, BK558, BK564, HB⟩ := hcut
                     cases kq with
                     | zero => exact absurd HA.out (by simp [impl_readIns.j7])
                     | succ kj103 =>
                      have H := HA.out
                      clear HA
                      simp only [impl_readIns.j7] at H
                      by_cases c106 : x139_103 = true
                      ·subst c106
                       rw [if_pos rfl] at H
                       have AC_impl_callWords := Aside0.mk (show impl_callWords.f = some impl_callWords.L from rfl)
                       obtain ⟨y598, hy598⟩ : ∃ y_ : List ByteArray, y_ = (impl_callWords.L) := ⟨_, rfl⟩
                       replace H : (if 1 < (l0.length : Int) then ((slices_Index_string_string.f kj103 y598 (rdOf ByteArray.empty l0 1)).bind fun t602 => (some (ji21, 0, (-1), 0, mx t602 0, x5_11, true))) else (none)) = some (r1, r2, r3, r4, r5, r6, r7) := by first | (rw [hy598]; with_reducible exact H) | (have H2_ := (Option.bind_some _ _).symm.trans H; rw [hy598]; with_reducible exact H2_) | (have H2_ := (Option.bind_some _ _).symm.trans H; with_reducible exact H2_) | with_reducible exact H | (rw [hy598]; exact H) | exact H
                       have Ny598 := Aside0.mk hy598
                       clear hy598
                       by_cases c107 : 1 < (l0.length : Int)
                       ·rw [if_pos c107] at H
                        have c107b0 : decide (1 < (l0.length : Int)) = true := decide_eq_true c107
                        have c107b1 : decide (1 < l0.length) = true := decide_eq_true (by omega)
                        clear c107
                        replace H := oA H
                        obtain ⟨t602, A108, H⟩ := H
                        try dsimp only at H
                        obtain ⟨ji109, hji109⟩ : ∃ j_ : Int, (mx t602 0) = j_ := ⟨_, rfl⟩
                        replace H : (some (ji21, 0, (-1), 0, ji109, x5_11, true)) = some (r1, r2, r3, r4, r5, r6, r7) := by first | (rw [hji109] at H; exact H) | (simp only [hji109] at H ⊢; exact H)
                        (try rw [hji109] at AC_impl_callWords)
                        (try rw [hji109] at A108)
                        (try (have hji109l : 0 ≤ ji109 := by (rw [← hji109]; unfold mx; (repeat' split) <;> omega)))
                        (try (have hji109m : 0 ≤ ji109 := by omega))
                        have hji109_ : (if t602 < 0 then 0 else t602) = ji109 := hji109
                        simp only [Option.some.injEq, Prod.mk.injEq] at H
                        obtain ⟨rfl, rfl, rfl, rfl, rfl, rfl, rfl⟩ := H
                        try go_wp2_with (first | ((with_reducible refine gate_callee (f := 28) rfl ?_); refine gl 146 Tryz.func28 #[] ?_; (with_reducible refine (impl_callWords.calls  impl_callWords.L _ AC_impl_callWords.out).mono ?_); rintro e w110 ⟨rfl, hb⟩; refine ⟨_, rfl, ?_⟩; replace BK558 := zb BK558 hb rfl; replace BK564 := zb BK564 hb rfl; replace HB := zS hb; try clear hb) | ((with_reducible refine gate_dst (N := 12) rfl ?_); refine impl_callWords.var _ rfl rfl rfl rfl rfl rfl (fun _ => rfl) (fun _ => rfl) (Below.refl _ _) (Nat.le_refl _) ?_; intro ga_v599; intro v599 w111 hsl_v599 ho112 hb hg_ hnew_; clear hg_ hnew_; (first | rw [← Ny598.out] at ho112 | (simp only [Int.reduceToNat] at ho112; rw [← Ny598.out] at ho112)); have HO600 := Aside0.mk (Kd.R_lower ho112 (below_size zB)); replace BK558 := zb BK558 hb rfl; replace BK564 := zb BK564 hb rfl; replace HB := zS hb; clear hb ho112))
                        replace HO600 := Aside0.mk (Kd.R_drew HO600.out)
                        replace BK558 := Aside0.mk (blk_drew BK558.out)
                        replace BK564 := Aside0.mk (blk_drew BK564.out)
                        replace HB := Aside0.mk (below_drew1 HB.out)
                        have p601 : 0 ≤ (1 : Int) := (by omega)
                        have q601 : 1 < (l0.length : Int) := of_decide_eq_true (by first | (with_reducible assumption) | assumption)
                        obtain ⟨ad601, e601, hx601_0⟩ := Kd.at_string HR0.out 1 p601 q601
                        have hw601_0 := hx601_0
                        (try rw [show ((1 : Int)).toNat = 1 from rfl] at hw601_0)
                        (try rw [show 1 * 1 = 1 from rfl] at hw601_0)
                        (try simp only [Nat.reduceMul, Nat.reduceEqDiff, Go.Addr.add, ↓reduceIte] at hw601_0)
                        obtain rfl : ad559 = ad601 := (by injection e601)
                        (try simp only [show (1 : Int).toNat = 1 from rfl, Nat.reduceMul, Nat.reduceEqDiff, Go.Addr.add, ↓reduceIte] at hx601_0)
                        have qi601 : (1 < l0.length) = True := eq_true (by omega)
                        (try rw [show ((1 : Int)).toNat = 1 from rfl] at hx601_0)
                        replace hx601_0 := (HB.out.cell (World.block_lt_of_cell? w _ hx601_0)).trans hx601_0
                        replace p601 := eq_true p601
                        replace q601 := eq_true q601
                        obtain ⟨Ao114, co114, eo114⟩ := Kd.R_slice HO600.out
                        (first | subst eo114 | (injection eo114 with f1_ f2_ f3_; have f4_ := f1_.symm; have f5_ := f3_.symm; clear f1_ f2_ f3_; subst f4_; subst f5_))
                        refine start_ (n := 8) (S := fun w' => w'.cell? ⟨ad559.block, ad559.off + 1, none⟩ = some (.string (rdOf ByteArray.empty l0 1))) (ds := []) #[false, false, false, false, false, false, false, false] (by kernel_rfl) rfl rfl (((HB.out.cell (World.block_lt_of_cell? w _ hw601_0)).trans hw601_0)) (fun hHeld => ?_); refine with_tabW impl_readIns.tab27 impl_readIns.bits27 (fun HT_ HW_ => ?_)
                        generalize w111.drew = w113 at HO600 BK558 BK564 HB hx601_0 hHeld ⊢
                        refine pz 0 147 ?_
                        refine pz 1 148 ?_
                        refine pz 2 149 ?_
                        refine take_ (i := 3) (N := some 150) (v := ?_) (a' := ?_) #[true, true, true, true, false, false, false, false] rfl rfl (take_ofW HT_.out HW_.out (by kernel_rfl)) (fun _ _ _ h => h) (Or.inl ⟨by rfl, ?_⟩) hHeld ?_ ?_
                        rotate_left
                        ·intro w' s0
                         go_simp
                         with_reducible rfl
                        rotate_left
                        ·simp only [Act.put, List.setIfInBounds_toArray, List.set_cons_zero, List.set_cons_succ, i64_w, i32_w]
                         rfl
                        refine oz 4 151 fun K hK => ?_
                        refine gz Tryz.func38 #[.slice Ao114 y598.length co114, .string (rdOf ByteArray.empty l0 1)] ?_
                        with_reducible refine (slices_Index_string_string.calls kj103 _ _ y598 (rdOf ByteArray.empty l0 1) t602 _ ?side1 ?side2 A108.out).mono ?_
                        (case side1 => exact zC HO600)
                        (case side2 => exact (Kd.R_reads' HO600.out).2.1)
                        rintro e w' ⟨rfl, ⟨nd, rfl⟩⟩
                        refine ⟨_, rfl, ?_⟩
                        refine hK.out _ _ (((HB.out.cell (World.block_lt_of_cell? w _ hw601_0)).trans hw601_0)) (fun hHeld => ?_)
                        clear hK K
                        refine nz ?_
                        refine pz 5 152 ?_
                        refine pz 6 153 ?_
                        refine oN 7 fun K hK => ?_
                        have hs115 : w113.cell? ⟨gb564, 4, none⟩ = some (.int .i64 0) := (blk_cell BK564.out 4).trans rfl
                        have hfs115 := blk_frozen BK564.out 4
                        have hns115_0 := NB558_564.out
                        have hms115_0 := NB564_558.out
                        refine skip_ (w1 := ?_) (by rfl) rfl ?_ ?_
                        rotate_left
                        ·go_simp
                         rfl
                        refine hK.out _ _ (((cell_far (p := ⟨gb564, _, none⟩) (zN hw601_0 GW564) _).trans (hHeld))) (fun hHeld => ?_)
                        clear hK K
                        refine done_ (done_of HT_.out (by kernel_rfl)) ?_
                        have hnb116 := NB564_558.out
                        have hnc116 := NB558_564.out
                        obtain ⟨_, _, _, _, _, _, _, _, _, _, _, _⟩ := zc6 BK564
                        obtain ⟨_, _, _, _, _, _, _, _, _, _, _, _⟩ := zc6 BK558
                        try go_wp2
                        refine bodyPost_ret (results_ct rfl _ _ gb558 24 #[.int .i64 ji21, .int .i64 0, .int .i64 (-1), .int .i64 0, .int .i64 ji109, .int .i64 x5_11] (0, 0) _ rfl (by refine bq ?_; refine blk_put (cs := #[.int .i64 ji21, .int .i64 0, .int .i64 (-1), .int .i64 0, .int .i64 ji109, .int .i64 0]) ?_ 5 _ rfl; refine bq ?_; refine blk_put (cs := #[.int .i64 ji21, .int .i64 0, .int .i64 (-1), .int .i64 0, .int .i64 0, .int .i64 0]) ?_ 4 _ rfl; refine bq ?_; refine blk_put (cs := #[.int .i64 ji21, .int .i64 0, .int .i64 (-1), .int .i64 0, .int .i64 0, .int .i64 0]) ?_ 3 _ rfl; refine bq ?_; refine blk_put (cs := #[.int .i64 ji21, .int .i64 0, .int .i64 0, .int .i64 0, .int .i64 0, .int .i64 0]) ?_ 2 _ rfl; refine bq ?_; refine blk_put (cs := #[.int .i64 ji21, .int .i64 0, .int .i64 0, .int .i64 0, .int .i64 0, .int .i64 0]) ?_ 1 _ rfl; refine bq ?_; refine blk_put (cs := #[.int .i64 0, .int .i64 0, .int .i64 0, .int .i64 0, .int .i64 0, .int .i64 0]) ?_ 0 _ rfl; refine fq ?_ NB558_564.out; exact bq BK558.out) Tryz.underlying24 rfl (by kernel_rfl)) rfl ?_
                        exact ⟨by first | rfl | (simp [errW_none, errW_some] <;> rfl) | (simp only [← hji21, ← hji109]; first | rfl | (simp [errW_none, errW_some] <;> rfl)) | (simp [*, errW_none, errW_some] <;> rfl), zB⟩
                       ·exact absurd H (nN c107)
                      ·replace c106 := Bool.eq_false_iff.mpr c106
                       subst c106
                       rw [if_neg (show ¬ (false = true) by decide)] at H
                       by_cases c119 : ji21 = 20
                       ·rw [if_pos c119] at H
                        have c119b0 : (ji21 == 20) = true := beq_iff_eq.mpr c119
                        have c119b1 : (ji21 != 20) = false := bne_eq_false_iff_eq.mpr c119
                        clear c119
                        by_cases c120 : (l0.length : Int) = 1
                        ·rw [if_pos c120] at H
                         have c120b0 : ((l0.length : Int) == 1) = true := beq_iff_eq.mpr c120
                         have c120b1 : ((l0.length : Int) != 1) = false := bne_eq_false_iff_eq.mpr c120
                         clear c120
                         simp only [Option.some.injEq, Prod.mk.injEq] at H
                         obtain ⟨rfl, rfl, rfl, rfl, rfl, rfl, rfl⟩ := H
                         have hnb121 := NB564_558.out
                         have hnc121 := NB558_564.out
                         obtain ⟨_, _, _, _, _, _, _, _, _, _, _, _⟩ := zc6 BK564
                         obtain ⟨_, _, _, _, _, _, _, _, _, _, _, _⟩ := zc6 BK558
                         go_wp2
                         refine bodyPost_ret (results_ct rfl _ _ gb558 24 #[.int .i64 ji21, .int .i64 0, .int .i64 (-1), .int .i64 0, .int .i64 0, .int .i64 x5_11] (0, 0) _ rfl (by refine bq ?_; refine blk_put (cs := #[.int .i64 ji21, .int .i64 0, .int .i64 (-1), .int .i64 0, .int .i64 0, .int .i64 0]) ?_ 5 _ rfl; refine bq ?_; refine blk_put (cs := #[.int .i64 ji21, .int .i64 0, .int .i64 (-1), .int .i64 0, .int .i64 0, .int .i64 0]) ?_ 4 _ rfl; refine bq ?_; refine blk_put (cs := #[.int .i64 ji21, .int .i64 0, .int .i64 (-1), .int .i64 0, .int .i64 0, .int .i64 0]) ?_ 3 _ rfl; refine bq ?_; refine blk_put (cs := #[.int .i64 ji21, .int .i64 0, .int .i64 0, .int .i64 0, .int .i64 0, .int .i64 0]) ?_ 2 _ rfl; refine bq ?_; refine blk_put (cs := #[.int .i64 ji21, .int .i64 0, .int .i64 0, .int .i64 0, .int .i64 0, .int .i64 0]) ?_ 1 _ rfl; refine bq ?_; refine blk_put (cs := #[.int .i64 0, .int .i64 0, .int .i64 0, .int .i64 0, .int .i64 0, .int .i64 0]) ?_ 0 _ rfl; exact bq BK558.out) Tryz.underlying24 rfl (by kernel_rfl)) rfl ?_
                         exact ⟨by first | rfl | (simp [errW_none, errW_some] <;> rfl) | (simp only [← hji21]; first | rfl | (simp [errW_none, errW_some] <;> rfl)) | (simp [*, errW_none, errW_some] <;> rfl), zB⟩
                        ·rw [if_neg c120] at H
                         have c120b0 : ((l0.length : Int) == 1) = false := beq_eq_false_iff_ne.mpr c120
                         have c120b1 : ((l0.length : Int) != 1) = true := bne_iff_ne.mpr c120
                         simp only [Option.some.injEq, Prod.mk.injEq] at H
                         obtain ⟨rfl, rfl, rfl, rfl, rfl, rfl, rfl⟩ := H
                         have hnb124 := NB558_564.out
                         have hnc124 := NB564_558.out
                         obtain ⟨_, _, _, _, _, _, _, _, _, _, _, _⟩ := zc6 BK558
                         go_wp2
                         refine bodyPost_ret (results_ct rfl _ _ gb558 24 #[.int .i64 0, .int .i64 0, .int .i64 0, .int .i64 0, .int .i64 0, .int .i64 0] (0, 0) _ rfl (by refine bq ?_; refine blk_put (cs := #[.int .i64 0, .int .i64 0, .int .i64 0, .int .i64 0, .int .i64 0, .int .i64 0]) ?_ 5 _ rfl; refine bq ?_; refine blk_put (cs := #[.int .i64 0, .int .i64 0, .int .i64 0, .int .i64 0, .int .i64 0, .int .i64 0]) ?_ 4 _ rfl; refine bq ?_; refine blk_put (cs := #[.int .i64 0, .int .i64 0, .int .i64 0, .int .i64 0, .int .i64 0, .int .i64 0]) ?_ 3 _ rfl; refine bq ?_; refine blk_put (cs := #[.int .i64 0, .int .i64 0, .int .i64 0, .int .i64 0, .int .i64 0, .int .i64 0]) ?_ 2 _ rfl; refine bq ?_; refine blk_put (cs := #[.int .i64 0, .int .i64 0, .int .i64 0, .int .i64 0, .int .i64 0, .int .i64 0]) ?_ 1 _ rfl; refine bq ?_; refine blk_put (cs := #[.int .i64 0, .int .i64 0, .int .i64 0, .int .i64 0, .int .i64 0, .int .i64 0]) ?_ 0 _ rfl; exact bq BK558.out) Tryz.underlying24 rfl (by kernel_rfl)) rfl ?_
                         exact ⟨by first | rfl | (simp [errW_none, errW_some] <;> rfl) | (simp only [← hji21]; first | rfl | (simp [errW_none, errW_some] <;> rfl)) | (simp [*, errW_none, errW_some] <;> rfl), zB⟩
                       ·rw [if_neg c119] at H
                        have c119b0 : (ji21 == 20) = false := beq_eq_false_iff_ne.mpr c119
                        have c119b1 : (ji21 != 20) = true := bne_iff_ne.mpr c119
                        simp only [Option.some.injEq, Prod.mk.injEq] at H
                        obtain ⟨rfl, rfl, rfl, rfl, rfl, rfl, rfl⟩ := H
                        have hnb126 := NB558_564.out
                        have hnc126 := NB564_558.out
                        obtain ⟨_, _, _, _, _, _, _, _, _, _, _, _⟩ := zc6 BK558
                        go_wp2
                        refine bodyPost_ret (results_ct rfl _ _ gb558 24 #[.int .i64 0, .int .i64 0, .int .i64 0, .int .i64 0, .int .i64 0, .int .i64 0] (0, 0) _ rfl (by refine bq ?_; refine blk_put (cs := #[.int .i64 0, .int .i64 0, .int .i64 0, .int .i64 0, .int .i64 0, .int .i64 0]) ?_ 5 _ rfl; refine bq ?_; refine blk_put (cs := #[.int .i64 0, .int .i64 0, .int .i64 0, .int .i64 0, .int .i64 0, .int .i64 0]) ?_ 4 _ rfl; refine bq ?_; refine blk_put (cs := #[.int .i64 0, .int .i64 0, .int .i64 0, .int .i64 0, .int .i64 0, .int .i64 0]) ?_ 3 _ rfl; refine bq ?_; refine blk_put (cs := #[.int .i64 0, .int .i64 0, .int .i64 0, .int .i64 0, .int .i64 0, .int .i64 0]) ?_ 2 _ rfl; refine bq ?_; refine blk_put (cs := #[.int .i64 0, .int .i64 0, .int .i64 0, .int .i64 0, .int .i64 0, .int .i64 0]) ?_ 1 _ rfl; refine bq ?_; refine blk_put (cs := #[.int .i64 0, .int .i64 0, .int .i64 0, .int .i64 0, .int .i64 0, .int .i64 0]) ?_ 0 _ rfl; exact bq BK558.out) Tryz.underlying24 rfl (by kernel_rfl)) rfl ?_
                        exact ⟨by first | rfl | (simp [errW_none, errW_some] <;> rfl) | (simp only [← hji21]; first | rfl | (simp [errW_none, errW_some] <;> rfl)) | (simp [*, errW_none, errW_some] <;> rfl), zB⟩
 ·exact absurd H (nN c2)
end Go.Proofs.YtllmbooicobmkaaGreatDoor.Q
