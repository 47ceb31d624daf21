/- The machine's side of this seat's laws: Go functions as Lean functions, and their contracts. By a program of this work over the kit's print. -/
import Derived.Test.YtllmbooicobmkaaDoorQ0
import Derived.Test.YtllmbooicobmkaaDoorQ7
import Derived.Test.YtllmbooicobmkaaDoorQ8
import Derived.Test.YtllmbooicobmkaaDoorQ11
import Derived.Test.YtllmbooicobmkaaDoorQ12D
namespace Go.Proofs.YtllmbooicobmkaaDoor.Q
open Go.RowKit Go.Proofs.YtllmbooicobmkaaDoorW.PrintWords Go.Proofs.YtllmbooicobmkaaDoorW.PrintLast Go.Proofs.YtllmbooicobmkaaDoorW.PrintMore
attribute [local go_sem] max2_int min2_int max_two min_two max_three min_three max_four min_four Go.Proofs.YtllmbooicobmkaaDoorN.not_i64 Go.Proofs.YtllmbooicobmkaaDoorN.isSome_setCell   -- for this text's walks alone
set_option linter.unusedVariables false
set_option linter.unusedSimpArgs false

/-! ### impl_readIns, a part of its ways -/
mutual
def impl_readInsB.j0 : Nat → List ByteArray → ByteArray → Int → Int → Bool → Option (Int × Int × Int × Int × Int × Int × Bool)
 | 0, _, _, _, _, _ => none
 | k + 1, x0, x4, x5, x6, x33 => if x33 = true then (if 0 ≤ (wrap64 (x6 - 1)) then (if (wrap64 (x6 - 1)) < (x4.size : Int) then (if (wrap64 (x6 - 1)) ≤ (x4.size : Int) then (impl_readInsB.j1 k x0 (x4.extract 0 ((wrap64 (x6 - 1)) : Int).toNat) (((bt x4 (wrap64 (x6 - 1))) - 48) % 256)) else (none)) else (none)) else (none)) else (impl_readInsB.j1 k x0 x4 x5)
def impl_readInsB.j1 : Nat → List ByteArray → ByteArray → Int → Option (Int × Int × Int × Int × Int × Int × Bool)
 | 0, _, _, _ => none
 | k + 1, x0, x4, x5 => (slices_Index_string_string.f k (impl_opWords.L) x4).bind fun t289 => ((impl_kind_reckons.f (mx t289 0)).bind fun t291 => (if t291 = true then (impl_readInsB.j2 k x0 (mx t289 0) (mx t289 0) (x0.length : Int) ((x0.length : Int) == 3) (mx t289 0) 0 (-1) 0 0 x5) else (impl_readInsB.j2 k x0 (mx t289 0) (mx t289 0) (x0.length : Int) false (mx t289 0) 0 (-1) 0 0 x5)))
def impl_readInsB.j2 : Nat → List ByteArray → Int → Int → Int → Bool → Int → Int → Int → Int → Int → Int → Option (Int × Int × Int × Int × Int × Int × Bool)
 | 0, _, _, _, _, _, _, _, _, _, _, _ => none
 | k + 1, x0, x8, x10, x11, x55, x291000, x291001, x291002, x291003, x291004, x291005 => if x55 = true then (impl_readInsB.j3 k x0 x8 x10 x11 x55 x291000 x291001 x291002 x291003 x291004 x291005) else ((impl_kind_asks.f x10).bind fun t292 => (if t292 = true then (impl_readInsB.j3 k x0 x8 x10 x11 (x11 == 4) x291000 x291001 x291002 x291003 x291004 x291005) else (impl_readInsB.j3 k x0 x8 x10 x11 false x291000 x291001 x291002 x291003 x291004 x291005)))
def impl_readInsB.j3 : Nat → List ByteArray → Int → Int → Int → Bool → Int → Int → Int → Int → Int → Int → Option (Int × Int × Int × Int × Int × Int × Bool)
 | 0, _, _, _, _, _, _, _, _, _, _, _ => none
 | k + 1, x0, x8, x10, x11, x55, x291000, x291001, x291002, x291003, x291004, x291005 => if x55 = true then (none) else (if x8 = 16 then (impl_readInsB.j4 k x0 x8 x11 (x11 == 2) x291000 x291001 x291002 x291003 x291004 x291005) else (impl_readInsB.j4 k x0 x8 x11 false x291000 x291001 x291002 x291003 x291004 x291005))
def impl_readInsB.j4 : Nat → List ByteArray → Int → Int → Bool → Int → Int → Int → Int → Int → Int → Option (Int × Int × Int × Int × Int × Int × Bool)
 | 0, _, _, _, _, _, _, _, _, _, _ => none
 | k + 1, x0, x8, x11, x84, x291000, x291001, x291002, x291003, x291004, x291005 => if x84 = true then (if 1 < (x0.length : Int) then ((impl_number.f (rdOf ByteArray.empty x0 1)).bind fun t306 => (some (x291000, x291001, x291002, t306, x291004, x291005, true))) else (none)) else (if x8 = 17 then (impl_readInsB.j5 k x0 x8 x11 (x11 == 4) x291000 x291001 x291002 x291003 x291004 x291005) else (impl_readInsB.j5 k x0 x8 x11 false x291000 x291001 x291002 x291003 x291004 x291005))
def impl_readInsB.j5 : Nat → List ByteArray → Int → Int → Bool → Int → Int → Int → Int → Int → Int → Option (Int × Int × Int × Int × Int × Int × Bool)
 | 0, _, _, _, _, _, _, _, _, _, _ => none
 | k + 1, x0, x8, x11, x96, x291000, x291001, x291002, x291003, x291004, x291005 => if x96 = true then (if 1 < (x0.length : Int) then ((impl_readReg.f (rdOf ByteArray.empty x0 1)).bind fun t308 => (if 2 < (x0.length : Int) then ((impl_readReg.f (rdOf ByteArray.empty x0 2)).bind fun t310 => (if 3 < (x0.length : Int) then ((impl_number.f (rdOf ByteArray.empty x0 3)).bind fun t312 => (some (x291000, t308, t310, t312, x291004, x291005, true))) else (none))) else (none))) else (none)) else (none)
end
def impl_readInsB.f (k : Nat) (l0 : List ByteArray) : Option (Int × Int × Int × Int × Int × Int × Bool) := if 0 < (l0.length : Int) then (if ((rdOf ByteArray.empty l0 0).size : Int) > 1 then (if 0 ≤ (wrap64 (((rdOf ByteArray.empty l0 0).size : Int) - 1)) then (if (wrap64 (((rdOf ByteArray.empty l0 0).size : Int) - 1)) < ((rdOf ByteArray.empty l0 0).size : Int) then (if (bt (rdOf ByteArray.empty l0 0) (wrap64 (((rdOf ByteArray.empty l0 0).size : Int) - 1))) ≥ 48 then (impl_readInsB.j0 k l0 (rdOf ByteArray.empty l0 0) 0 ((rdOf ByteArray.empty l0 0).size : Int) (decide ((bt (rdOf ByteArray.empty l0 0) (wrap64 (((rdOf ByteArray.empty l0 0).size : Int) - 1))) ≤ 57))) else (impl_readInsB.j0 k l0 (rdOf ByteArray.empty l0 0) 0 ((rdOf ByteArray.empty l0 0).size : Int) false)) else (none)) else (none)) else (impl_readInsB.j0 k l0 (rdOf ByteArray.empty l0 0) 0 ((rdOf ByteArray.empty l0 0).size : Int) false)) else (none)
set_option maxHeartbeats 8000000 in
set_option maxRecDepth 100000 in
theorem impl_readInsB.calls (k : Nat) (A0 : Option Addr) (c0 : Nat) (l0 : List ByteArray) (r1 : Int) (r2 : Int) (r3 : Int) (r4 : Int) (r5 : Int) (r6 : Int) (r7 : Bool) (w : World) (hr0 : Kd.C Kd.string w A0 l0.length l0) (hc0 : l0.length ≤ c0) (h : impl_readInsB.f k l0 = some (r1, r2, r3, r4, r5, r6, r7)) (zHT : Tryd.Te w := by first | exact zHT | exact Tryd.te_below zHT zB) :
  Calls Tryd.prog 15 #[.slice A0 l0.length c0] w fun e w' => e = .returned (.tuple #[.agg #[.int .i64 r1, .int .i64 r2, .int .i64 r3, .int .i64 r4, .int .i64 r5, .int .i64 r6], .bool r7]) ∧ Below w.heap.size w w' := by
 have hu23 := Tryd.underlying23
 have HR0 := Aside0.mk hr0
 have HC0 := Aside0.mk hc0
 clear hr0 hc0
 have HB := Aside0.mk (Below.refl w.heap.size w)
 have H : (if 0 < (l0.length : Int) then (if ((rdOf ByteArray.empty l0 0).size : Int) > 1 then (if 0 ≤ (wrap64 (((rdOf ByteArray.empty l0 0).size : Int) - 1)) then (if (wrap64 (((rdOf ByteArray.empty l0 0).size : Int) - 1)) < ((rdOf ByteArray.empty l0 0).size : Int) then (if (bt (rdOf ByteArray.empty l0 0) (wrap64 (((rdOf ByteArray.empty l0 0).size : Int) - 1))) ≥ 48 then (impl_readInsB.j0 k l0 (rdOf ByteArray.empty l0 0) 0 ((rdOf ByteArray.empty l0 0).size : Int) (decide ((bt (rdOf ByteArray.empty l0 0) (wrap64 (((rdOf ByteArray.empty l0 0).size : Int) - 1))) ≤ 57))) else (impl_readInsB.j0 k l0 (rdOf ByteArray.empty l0 0) 0 ((rdOf ByteArray.empty l0 0).size : Int) false)) else (none)) else (none)) else (impl_readInsB.j0 k l0 (rdOf ByteArray.empty l0 0) 0 ((rdOf ByteArray.empty l0 0).size : Int) false)) else (none)) = some (r1, r2, r3, r4, r5, r6, r7) := h
 clear h
 by_cases c2 : 0 < (l0.length : Int)
 ·rw [if_pos c2] at H
  have c2b0 : decide (0 < (l0.length : Int)) = true := decide_eq_true c2
  have c2b1 : decide (0 < l0.length) = true := decide_eq_true (by omega)
  clear c2
  have HC3 := Aside0.mk H
  clear H
  go_enter Tryd.func15, Tryd.ntmps15
  go_upto_region 4 with (first | ((with_reducible refine gate_dst (N := 2) rfl ?_); refine be 2 #[.int .i64 0, .int .i64 0, .int .i64 0, .int .i64 0, .int .i64 0, .int .i64 0] 23 ?_; intro gb284 hg w4 hbox hb; have BK284 := Aside0.mk hbox; have GW284 := zW hg; replace HB := zS hb; have GE284 := GW284; clear hb hbox hg; have p285 : 0 ≤ (0 : Int) := (by omega); have q285 : 0 < (l0.length : Int) := of_decide_eq_true (by first | (with_reducible assumption) | assumption); obtain ⟨ad285, e285, hx285_0⟩ := Kd.at_string HR0.out 0 p285 q285; cases e285; have qi285 : (0 < l0.length) = True := eq_true (by omega); (try rw [show ((0 : Int)).toNat = 0 from rfl] at hx285_0); (try rw [Addr.add_zero'] at hx285_0); replace hx285_0 := (HB.out.cell (World.block_lt_of_cell? w _ hx285_0)).trans hx285_0; replace p285 := eq_true p285; replace q285 := eq_true q285))
  (try simp only [Act.put, List.setIfInBounds_toArray, List.set_cons_zero, List.set_cons_succ])
  go_cut [33] (fun v33 wc => ∃ (kq : Nat) (x33_2 : Bool), v33 = .bool x33_2 ∧ Aside0 (impl_readInsB.j0 kq l0 (rdOf ByteArray.empty l0 0) 0 ((rdOf ByteArray.empty l0 0).size : Int) x33_2 = some (r1, r2, r3, r4, r5, r6, r7)) ∧ Aside0 (kq ≤ k) ∧ Aside0 (wc.heap[gb284]? = some (.cells #[.int .i64 0, .int .i64 0, .int .i64 0, .int .i64 0, .int .i64 0, .int .i64 0] 23 (0, 0))) ∧ Aside0 (Below w.heap.size w wc))
  case first =>
   have H := HC3.out
   clear HC3
   by_cases c5 : ((rdOf ByteArray.empty l0 0).size : Int) > 1
   ·rw [if_pos c5] at H
    have c5b0 : decide (1 < ((rdOf ByteArray.empty l0 0).size : Int)) = true := decide_eq_true c5
    have c5b1 : decide (1 < (rdOf ByteArray.empty l0 0).size) = true := decide_eq_true (by omega)
    clear c5
    (first | rw [c5b0] | (simp only [i64_w, i32_w]; rw [c5b0]) | skip)
    obtain ⟨ji6, hji6⟩ : ∃ j_ : Int, (wrap64 (((rdOf ByteArray.empty l0 0).size : Int) - 1)) = j_ := ⟨_, rfl⟩
    replace H : (if 0 ≤ (ji6) then (if (ji6) < ((rdOf ByteArray.empty l0 0).size : Int) then (if (bt (rdOf ByteArray.empty l0 0) (ji6)) ≥ 48 then (impl_readInsB.j0 k l0 (rdOf ByteArray.empty l0 0) 0 ((rdOf ByteArray.empty l0 0).size : Int) (decide ((bt (rdOf ByteArray.empty l0 0) (ji6)) ≤ 57))) else (impl_readInsB.j0 k l0 (rdOf ByteArray.empty l0 0) 0 ((rdOf ByteArray.empty l0 0).size : Int) false)) else (none)) else (none)) = some (r1, r2, r3, r4, r5, r6, r7) := by first | (rw [hji6] at H; exact H) | (simp only [hji6] at H ⊢; exact H)
    have hji6w : (IntKind.i64.wrap (((rdOf ByteArray.empty l0 0).size : Int) - 1)) = ji6 := (i64_w _).trans hji6
    by_cases c7 : 0 ≤ (ji6)
    ·rw [if_pos c7] at H
     have c7b0 : decide (0 ≤ (ji6)) = true := decide_eq_true c7
     clear c7
     by_cases c8 : (ji6) < ((rdOf ByteArray.empty l0 0).size : Int)
     ·rw [if_pos c8] at H
      have c8b0 : decide ((ji6) < ((rdOf ByteArray.empty l0 0).size : Int)) = true := decide_eq_true c8
      clear c8
      by_cases c10 : (bt (rdOf ByteArray.empty l0 0) (ji6)) ≥ 48
      ·rw [if_pos c10] at H
       have c10b0 : decide (48 ≤ (bt (rdOf ByteArray.empty l0 0) (ji6))) = true := decide_eq_true c10
       clear c10
       have H' := Aside0.mk H
       clear H
       have p9 : 0 ≤ ((ji6) : Int) := of_decide_eq_true (by first | (with_reducible assumption) | assumption)
       have q9 : (ji6) < ((rdOf ByteArray.empty l0 0).size : Int) := of_decide_eq_true (by first | (with_reducible assumption) | assumption)
       have hx9 := bt_at (rdOf ByteArray.empty l0 0) (ji6)
       replace p9 := eq_true p9
       replace q9 := eq_true q9
       have p11 : 0 ≤ ((ji6) : Int) := of_decide_eq_true (by first | (with_reducible assumption) | assumption)
       have q11 : (ji6) < ((rdOf ByteArray.empty l0 0).size : Int) := of_decide_eq_true (by first | (with_reducible assumption) | assumption)
       have hx11 := bt_at (rdOf ByteArray.empty l0 0) (ji6)
       replace p11 := eq_true p11
       replace q11 := eq_true q11
       go_wp2
       go_meet
       case rel => exact ⟨_, (decide ((bt (rdOf ByteArray.empty l0 0) (ji6)) ≤ 57)), (by first | rfl | (simp; done) | (simp only [← hji6] <;> (first | rfl | simp)) | (simp [*]; done)), H', ⟨by first | omega | exact Nat.le_refl _⟩, ⟨by exact bq BK284.out⟩, ⟨zB⟩⟩
      ·rw [if_neg c10] at H
       have c10b0 : decide (48 ≤ (bt (rdOf ByteArray.empty l0 0) (ji6))) = false := decide_eq_false c10
       clear c10
       have H' := Aside0.mk H
       clear H
       have p9 : 0 ≤ ((ji6) : Int) := of_decide_eq_true (by first | (with_reducible assumption) | assumption)
       have q9 : (ji6) < ((rdOf ByteArray.empty l0 0).size : Int) := of_decide_eq_true (by first | (with_reducible assumption) | assumption)
       have hx9 := bt_at (rdOf ByteArray.empty l0 0) (ji6)
       replace p9 := eq_true p9
       replace q9 := eq_true q9
       go_wp2
       go_meet
       case rel => exact ⟨_, (false), (by first | rfl | (simp; done) | (simp [*]; done)), H', ⟨by first | omega | exact Nat.le_refl _⟩, ⟨by exact bq BK284.out⟩, ⟨zB⟩⟩
     ·rw [if_neg c8] at H
      exact absurd H (by simp)
    ·rw [if_neg c7] at H
     exact absurd H (by simp)
   ·rw [if_neg c5] at H
    have c5b0 : decide (1 < ((rdOf ByteArray.empty l0 0).size : Int)) = false := decide_eq_false c5
    have c5b1 : decide (1 < (rdOf ByteArray.empty l0 0).size) = false := decide_eq_false (by omega)
    clear c5
    (first | rw [c5b0] | (simp only [i64_w, i32_w]; rw [c5b0]) | skip)
    have H' := Aside0.mk H
    clear H
    go_wp2
    go_meet
    case rel => exact ⟨_, (false), (by first | rfl | (simp; done) | (simp [*]; done)), H', ⟨by first | omega | exact Nat.le_refl _⟩, ⟨by exact bq BK284.out⟩, ⟨zB⟩⟩
  case rest =>
   clear HC3
   try clear c1
   try clear p1
   try clear q1
   try clear hx1
   try clear c2
   try clear c2b0
   try clear c2b1
   try clear p2
   try clear q2
   try clear hx2
   try clear qi2
   try clear c5
   try clear c5b0
   try clear c5b1
   try clear p6
   try clear c7
   try clear c7b0
   try clear c8
   try clear c8b0
   try clear p9 p9
   try clear q9 q9
   try clear hx9
   try clear c10
   try clear c10b0
   try clear p11 p11
   try clear q11 q11
   try clear hx11
   try clear hx285_0
   try clear p285
   try clear q285
   obtain ⟨kq, x33_2, rfl, HA, HJ2, BK284, HB⟩ := hcut
   cases kq with
   | zero => exact absurd HA.out (by simp [impl_readInsB.j0])
   | succ kj2 =>
    have H := HA.out
    clear HA
    simp only [impl_readInsB.j0] at H
    have HC12 := Aside0.mk H
    clear H
    go_upto_if 33 with (fail)
    go_cut [4, 5] (fun v4 v5 wc => ∃ (kq : Nat) (x4_11 : ByteArray) (x5_11 : Int), v4 = .string x4_11 ∧ v5 = .int .i64 x5_11 ∧ Aside0 (impl_readInsB.j1 kq l0 x4_11 x5_11 = some (r1, r2, r3, r4, r5, r6, r7)) ∧ Aside0 (kq ≤ kj2) ∧ Aside0 (wc.heap[gb284]? = some (.cells #[.int .i64 0, .int .i64 0, .int .i64 0, .int .i64 0, .int .i64 0, .int .i64 0] 23 (0, 0))) ∧ Aside0 (Below w.heap.size w wc))
    case first =>
     have H := HC12.out
     clear HC12
     by_cases c13 : x33_2 = true
     ·subst c13
      rw [if_pos rfl] at H
      obtain ⟨ji14, hji14⟩ : ∃ j_ : Int, (wrap64 (((rdOf ByteArray.empty l0 0).size : Int) - 1)) = j_ := ⟨_, rfl⟩
      replace H : (if 0 ≤ (ji14) then (if (ji14) < ((rdOf ByteArray.empty l0 0).size : Int) then (if (ji14) ≤ ((rdOf ByteArray.empty l0 0).size : Int) then (impl_readInsB.j1 kj2 l0 ((rdOf ByteArray.empty l0 0).extract 0 ((ji14) : Int).toNat) (((bt (rdOf ByteArray.empty l0 0) (ji14)) - 48) % 256)) else (none)) else (none)) else (none)) = some (r1, r2, r3, r4, r5, r6, r7) := by first | (rw [hji14] at H; exact H) | (simp only [hji14] at H ⊢; exact H)
      have hji14w : (IntKind.i64.wrap (((rdOf ByteArray.empty l0 0).size : Int) - 1)) = ji14 := (i64_w _).trans hji14
      by_cases c15 : 0 ≤ (ji14)
      ·rw [if_pos c15] at H
       have c15b0 : decide (0 ≤ (ji14)) = true := decide_eq_true c15
       clear c15
       (first | rw [c15b0] | (simp only [i64_w, i32_w]; rw [c15b0]) | skip)
       by_cases c16 : (ji14) < ((rdOf ByteArray.empty l0 0).size : Int)
       ·rw [if_pos c16] at H
        have c16b0 : decide ((ji14) < ((rdOf ByteArray.empty l0 0).size : Int)) = true := decide_eq_true c16
        clear c16
        have c18b0 := eq_true (of_decide_eq_true (by first | (with_reducible assumption) | assumption) : 0 ≤ (ji14))
        by_cases c19 : (ji14) ≤ ((rdOf ByteArray.empty l0 0).size : Int)
        ·rw [if_pos c19] at H
         have c19b0 := eq_true c19
         have c19b1 : decide ((ji14) ≤ ((rdOf ByteArray.empty l0 0).size : Int)) = true := decide_eq_true c19
         clear c19
         have H' := Aside0.mk H
         clear H
         have p17 : 0 ≤ ((ji14) : Int) := of_decide_eq_true (by first | (with_reducible assumption) | assumption)
         have q17 : (ji14) < ((rdOf ByteArray.empty l0 0).size : Int) := of_decide_eq_true (by first | (with_reducible assumption) | assumption)
         have hx17 := bt_at (rdOf ByteArray.empty l0 0) (ji14)
         replace p17 := eq_true p17
         replace q17 := eq_true q17
         go_wp2
         go_meet
         case rel => exact ⟨_, ((rdOf ByteArray.empty l0 0).extract 0 ((ji14) : Int).toNat), (((bt (rdOf ByteArray.empty l0 0) (ji14)) - 48) % 256), (by first | rfl | (simp; done) | (simp only [← hji14] <;> (first | rfl | simp)) | (simp [*]; done)), (by first | rfl | (simp; done) | (simp only [← hji14] <;> (first | rfl | simp)) | (simp [*]; done)), H', ⟨by have := HJ2.out; first | omega | exact Nat.le_refl _⟩, ⟨by exact bq BK284.out⟩, ⟨zB⟩⟩
        ·rw [if_neg c19] at H
         exact absurd H (by simp)
       ·rw [if_neg c16] at H
        exact absurd H (by simp)
      ·rw [if_neg c15] at H
       exact absurd H (by simp)
     ·replace c13 := Bool.eq_false_iff.mpr c13
      subst c13
      rw [if_neg (show ¬ (false = true) by decide)] at H
      have H' := Aside0.mk H
      clear H
      go_wp2
      go_meet
      case rel => exact ⟨_, ((rdOf ByteArray.empty l0 0)), (0), (by first | rfl | (simp; done) | (simp [*]; done)), (by first | rfl | (simp; done) | (simp [*]; done)), H', ⟨by have := HJ2.out; first | omega | exact Nat.le_refl _⟩, ⟨by exact bq BK284.out⟩, ⟨zB⟩⟩
    case rest =>
     clear HC12
     try clear c1
     try clear p1 p1
     try clear q1 q1
     try clear hx1
     try clear c2
     try clear c2b0
     try clear c2b1
     try clear p2 p2
     try clear q2 q2
     try clear hx2
     try clear qi2
     try clear c5
     try clear c5b0
     try clear c5b1
     try clear p6 p6
     try clear c7
     try clear c7b0
     try clear c8
     try clear c8b0
     try clear p9 p9
     try clear q9 q9
     try clear hx9
     try clear c10
     try clear c10b0
     try clear p11 p11
     try clear q11 q11
     try clear hx11
     try clear c13
     try clear c15
     try clear c15b0
     try clear c16
     try clear c16b0
     try clear p17 p17
     try clear q17 q17
     try clear hx17
     try clear c18
     try clear c18b0
     try clear c19
     try clear c19b0
     try clear c19b1
     try clear hx285_0
     try clear p285
     try clear q285
     obtain ⟨kq, x4_11, x5_11, rfl, rfl, HA, HJ11, BK284, HB⟩ := hcut
     cases kq with
     | zero => exact absurd HA.out (by simp [impl_readInsB.j1])
     | succ kj11 =>
      have H := HA.out
      clear HA
      simp only [impl_readInsB.j1] at H
      have AC_impl_opWords := Aside0.mk (show impl_opWords.f = some impl_opWords.L from rfl)
      obtain ⟨y286, hy286⟩ : ∃ y_ : List ByteArray, y_ = (impl_opWords.L) := ⟨_, rfl⟩
      replace H : ((slices_Index_string_string.f kj11 y286 x4_11).bind fun t289 => ((impl_kind_reckons.f (mx t289 0)).bind fun t291 => (if t291 = true then (impl_readInsB.j2 kj11 l0 (mx t289 0) (mx t289 0) (l0.length : Int) ((l0.length : Int) == 3) (mx t289 0) 0 (-1) 0 0 x5_11) else (impl_readInsB.j2 kj11 l0 (mx t289 0) (mx t289 0) (l0.length : Int) false (mx t289 0) 0 (-1) 0 0 x5_11)))) = some (r1, r2, r3, r4, r5, r6, r7) := by first | (rw [hy286]; with_reducible exact H) | (have H2_ := (Option.bind_some _ _).symm.trans H; rw [hy286]; with_reducible exact H2_) | (have H2_ := (Option.bind_some _ _).symm.trans H; with_reducible exact H2_) | with_reducible exact H | (rw [hy286]; exact H) | exact H
      have Ny286 := Aside0.mk hy286
      clear hy286
      replace H := Option.bind_eq_some_iff.mp H
      obtain ⟨t289, A200, H⟩ := H
      try dsimp only at H
      have A20 := Aside0.mk A200
      clear A200
      obtain ⟨ji21, hji21⟩ : ∃ j_ : Int, (mx t289 0) = j_ := ⟨_, rfl⟩
      replace H : ((impl_kind_reckons.f (ji21)).bind fun t291 => (if t291 = true then (impl_readInsB.j2 kj11 l0 ji21 ji21 (l0.length : Int) ((l0.length : Int) == 3) ji21 0 (-1) 0 0 x5_11) else (impl_readInsB.j2 kj11 l0 ji21 ji21 (l0.length : Int) false ji21 0 (-1) 0 0 x5_11))) = some (r1, r2, r3, r4, r5, r6, r7) := by first | (rw [hji21] at H; exact H) | (simp only [hji21] at H ⊢; exact H)
      (try rw [hji21] at AC_impl_opWords)
      (try rw [hji21] at A20)
      (try (have hji21l : 0 ≤ ji21 := by (rw [← hji21]; unfold mx; (repeat' split) <;> omega)))
      (try (have hji21m : 0 ≤ ji21 := by omega))
      have hji21_ : (if t289 < 0 then 0 else t289) = ji21 := hji21
      have HC22 := Aside0.mk H
      clear H
      go_upto_region 12 with (first | ((with_reducible refine gate_callee (f := 31) rfl ?_); refine gl 44 Tryd.func31 #[] ?_; (with_reducible refine (impl_opWords.calls  impl_opWords.L _ AC_impl_opWords.out).mono ?_); rintro e w23 ⟨rfl, hb⟩; refine ⟨_, rfl, ?_⟩; replace BK284 := zb BK284 hb rfl; replace HB := zS hb; try clear hb) | ((with_reducible refine gate_dst (N := 7) rfl ?_); refine impl_opWords.var _ rfl rfl rfl rfl rfl rfl (fun _ => rfl) (fun _ => rfl) (Below.refl _ _) (Nat.le_refl _) ?_; intro ga_v287; intro v287 w24 hsl_v287 ho25 hb hg_ hnew_; clear hg_ hnew_; (first | rw [← Ny286.out] at ho25 | (simp only [Int.reduceToNat] at ho25; rw [← Ny286.out] at ho25)); have HO288 := Aside0.mk (Kd.R_lower ho25 (below_size zB)); replace BK284 := zb BK284 hb rfl; replace HB := zS hb; clear hb ho25; obtain ⟨Ao26, co26, eo26⟩ := Kd.R_slice HO288.out; subst eo26) | ((with_reducible refine gate_callee (f := 32) rfl ?_); refine gl 47 Tryd.func32 #[.slice Ao26 y286.length co26, .string x4_11] ?_; (with_reducible refine (slices_Index_string_string.calls kj11 _ _ y286 x4_11 t289 _ ?side1 ?side2 A20.out).mono ?_); (case side1 => repeat (first | exact (Kd.R_reads' HO288.out).2.2 | (with_reducible refine Kd.C_alloc ?_ _) | (with_reducible refine Kd.C_drewN ?_ _) | (with_reducible refine Kd.C_drew ?_))); (case side2 => exact (Kd.R_reads' HO288.out).2.1); rintro e w' ⟨rfl, ⟨nd, rfl⟩⟩; refine ⟨_, rfl, ?_⟩; (try (rw [drewN_self w24]; generalize hq_ : World.drewN w24 _ = w24; have n0_ : Aside0 (Kd.R Kd.string 48 w24 w.heap.size (fun _ => True) (.slice Ao26 y286.length co26) y286) := ⟨by rw [← hq_]; exact (by (with_reducible repeat (first | apply Kd.R_alloc | apply Kd.R_drewN | apply Kd.R_drew)); exact HO288.out)⟩; have n1_ : Aside0 (w24.heap[gb284]? = some (.cells #[.int .i64 0, .int .i64 0, .int .i64 0, .int .i64 0, .int .i64 0, .int .i64 0] 23 (0, 0))) := ⟨by rw [← hq_]; exact (by exact bq BK284.out)⟩; have n2_ : Aside0 (Below w.heap.size w w24) := ⟨by rw [← hq_]; exact zB⟩; clear HO288 BK284 HB hq_; have HO288 := n0_; have BK284 := n1_; have HB := n2_; clear n0_ n1_ n2_))) | ((with_reducible refine gate_dst (N := 9) rfl ?_); refine be 9 #[.int .i64 0, .int .i64 0, .int .i64 0, .int .i64 0, .int .i64 0, .int .i64 0] 23 ?_; intro gb290 hg w27 hbox hb; replace HO288 := Aside0.mk (Kd.R_below (by (with_reducible repeat (first | apply Kd.R_alloc | apply Kd.R_drewN | apply Kd.R_drew)); exact HO288.out) hb); have BK290 := Aside0.mk hbox; have GW290 := zW hg; replace HB := zS hb; have GE290 := GW290; have NB284_290 := zl BK284 hg rfl; have NB290_284 := zg BK284 hg rfl; replace BK284 := zb BK284 hb rfl; clear hb hbox hg; have hnb28 := NB290_284.out; have hnc28 := NB284_290.out; obtain ⟨hcz29_0, hcz29_1, hcz29_2, hcz29_3, hcz29_4, hcz29_5, hfz29_0, hfz29_1, hfz29_2, hfz29_3, hfz29_4, hfz29_5⟩ := zc6 BK290))
      (try simp only [Act.put, List.setIfInBounds_toArray, List.set_cons_zero, List.set_cons_succ])
      go_cut [55] (fun v55 wc => ∃ (kq : Nat) (x55_21 : Bool), v55 = .bool x55_21 ∧ Aside0 (impl_readInsB.j2 kq l0 ji21 ji21 (l0.length : Int) x55_21 ji21 0 (-1) 0 0 x5_11 = some (r1, r2, r3, r4, r5, r6, r7)) ∧ Aside0 (kq ≤ kj11) ∧ Aside0 (wc.heap[gb284]? = some (.cells #[.int .i64 0, .int .i64 0, .int .i64 0, .int .i64 0, .int .i64 0, .int .i64 0] 23 (0, 0))) ∧ Aside0 (wc.heap[gb290]? = some (.cells #[.int .i64 ji21, .int .i64 0, .int .i64 (-1), .int .i64 0, .int .i64 0, .int .i64 x5_11] 23 (0, 0))) ∧ Aside0 (Below w.heap.size w wc))
      case first =>
       have H := HC22.out
       clear HC22
       replace H := Option.bind_eq_some_iff.mp H
       obtain ⟨t291, A300, H⟩ := H
       try dsimp only at H
       have A30 := Aside0.mk A300
       clear A300
       by_cases c31 : t291 = true
       ·subst c31
        rw [if_pos rfl] at H
        have H' := Aside0.mk H
        clear H
        go_wp2_with (first | ((with_reducible refine gate_callee (f := 33) rfl ?_); refine goesL_ (some 57) rfl rfl Tryd.func33 (by kernel_rfl) rfl #[.int .i64 ji21] rfl (by (try simp only [List.map_toArray, List.map_cons, List.map_nil]); first | done | (simp only [hji21]; rfl) | rfl | (simp only [List.length_drop, List.length_take]; rfl)) ?_; (with_reducible refine (impl_kind_reckons.calls ji21 true _ A30.out).mono ?_); rintro e w' ⟨rfl, ⟨nd, rfl⟩⟩; refine ⟨_, rfl, ?_⟩))
        go_meet
        case rel => exact ⟨_, (((l0.length : Int) == 3)), (by first | rfl | (simp; done) | (simp [*]; done)), H', ⟨by have := HJ2.out; have := HJ11.out; first | omega | exact Nat.le_refl _⟩, ⟨by refine fq ?_ NB284_290.out; refine fq ?_ NB284_290.out; refine fq ?_ NB284_290.out; refine fq ?_ NB284_290.out; refine fq ?_ NB284_290.out; refine fq ?_ NB284_290.out; exact bq BK284.out⟩, ⟨by refine bq ?_; refine blk_put (cs := #[.int .i64 ji21, .int .i64 0, .int .i64 (-1), .int .i64 0, .int .i64 0, .int .i64 0]) ?_ 5 _ rfl; refine bq ?_; refine blk_put (cs := #[.int .i64 ji21, .int .i64 0, .int .i64 (-1), .int .i64 0, .int .i64 0, .int .i64 0]) ?_ 4 _ rfl; refine bq ?_; refine blk_put (cs := #[.int .i64 ji21, .int .i64 0, .int .i64 (-1), .int .i64 0, .int .i64 0, .int .i64 0]) ?_ 3 _ rfl; refine bq ?_; refine blk_put (cs := #[.int .i64 ji21, .int .i64 0, .int .i64 0, .int .i64 0, .int .i64 0, .int .i64 0]) ?_ 2 _ rfl; refine bq ?_; refine blk_put (cs := #[.int .i64 ji21, .int .i64 0, .int .i64 0, .int .i64 0, .int .i64 0, .int .i64 0]) ?_ 1 _ rfl; refine bq ?_; refine blk_put (cs := #[.int .i64 0, .int .i64 0, .int .i64 0, .int .i64 0, .int .i64 0, .int .i64 0]) ?_ 0 _ rfl; exact bq BK290.out⟩, ⟨zB⟩⟩
       ·replace c31 := Bool.eq_false_iff.mpr c31
        subst c31
        rw [if_neg (show ¬ (false = true) by decide)] at H
        have H' := Aside0.mk H
        clear H
        go_wp2_with (first | ((with_reducible refine gate_callee (f := 33) rfl ?_); refine goesL_ (some 57) rfl rfl Tryd.func33 (by kernel_rfl) rfl #[.int .i64 ji21] rfl (by (try simp only [List.map_toArray, List.map_cons, List.map_nil]); first | done | (simp only [hji21]; rfl) | rfl | (simp only [List.length_drop, List.length_take]; rfl)) ?_; (with_reducible refine (impl_kind_reckons.calls ji21 false _ A30.out).mono ?_); rintro e w' ⟨rfl, ⟨nd, rfl⟩⟩; refine ⟨_, rfl, ?_⟩))
        go_meet
        case rel => exact ⟨_, (false), (by first | rfl | (simp; done) | (simp [*]; done)), H', ⟨by have := HJ2.out; have := HJ11.out; first | omega | exact Nat.le_refl _⟩, ⟨by refine fq ?_ NB284_290.out; refine fq ?_ NB284_290.out; refine fq ?_ NB284_290.out; refine fq ?_ NB284_290.out; refine fq ?_ NB284_290.out; refine fq ?_ NB284_290.out; exact bq BK284.out⟩, ⟨by refine bq ?_; refine blk_put (cs := #[.int .i64 ji21, .int .i64 0, .int .i64 (-1), .int .i64 0, .int .i64 0, .int .i64 0]) ?_ 5 _ rfl; refine bq ?_; refine blk_put (cs := #[.int .i64 ji21, .int .i64 0, .int .i64 (-1), .int .i64 0, .int .i64 0, .int .i64 0]) ?_ 4 _ rfl; refine bq ?_; refine blk_put (cs := #[.int .i64 ji21, .int .i64 0, .int .i64 (-1), .int .i64 0, .int .i64 0, .int .i64 0]) ?_ 3 _ rfl; refine bq ?_; refine blk_put (cs := #[.int .i64 ji21, .int .i64 0, .int .i64 0, .int .i64 0, .int .i64 0, .int .i64 0]) ?_ 2 _ rfl; refine bq ?_; refine blk_put (cs := #[.int .i64 ji21, .int .i64 0, .int .i64 0, .int .i64 0, .int .i64 0, .int .i64 0]) ?_ 1 _ rfl; refine bq ?_; refine blk_put (cs := #[.int .i64 0, .int .i64 0, .int .i64 0, .int .i64 0, .int .i64 0, .int .i64 0]) ?_ 0 _ rfl; exact bq BK290.out⟩, ⟨zB⟩⟩
      case rest =>
       clear HC22
       try clear c1
       try clear p1 p1
       try clear q1 q1
       try clear hx1
       try clear c2
       try clear c2b0
       try clear c2b1
       try clear p2 p2
       try clear q2 q2
       try clear hx2
       try clear qi2
       try clear c3
       try clear c5
       try clear c5b0
       try clear c5b1
       try clear p6 p6
       try clear c7
       try clear c7b0
       try clear c8
       try clear c8b0
       try clear p9 p9
       try clear q9 q9
       try clear hx9
       try clear c10
       try clear c10b0
       try clear p11 p11
       try clear q11 q11
       try clear hx11
       try clear c13
       try clear c15
       try clear c15b0
       try clear c16
       try clear c16b0
       try clear p17 p17
       try clear q17 q17
       try clear hx17
       try clear c18
       try clear c18b0
       try clear c19
       try clear c19b0
       try clear c19b1
       try clear c28
       try clear p28
       try clear q28
       try clear hx28
       try clear qi28
       try clear c31
       try clear hcz29_0 hcz29_1 hcz29_2 hcz29_3 hcz29_4 hcz29_5 hfz29_0 hfz29_1 hfz29_2 hfz29_3 hfz29_4 hfz29_5
       try clear hx285_0
       try clear p285
       try clear q285
       obtain ⟨kq, x55_21, rfl, HA, HJ21, BK284, BK290, HB⟩ := hcut
       cases kq with
       | zero => exact absurd HA.out (by simp [impl_readInsB.j2])
       | succ kj21 =>
        have H := HA.out
        clear HA
        simp only [impl_readInsB.j2] at H
        have HC32 := Aside0.mk H
        clear H
        go_upto_if 55 with (fail)
        go_cut [55] (fun v55 wc => ∃ (kq : Nat) (x55_31 : Bool), v55 = .bool x55_31 ∧ Aside0 (impl_readInsB.j3 kq l0 ji21 ji21 (l0.length : Int) x55_31 ji21 0 (-1) 0 0 x5_11 = some (r1, r2, r3, r4, r5, r6, r7)) ∧ Aside0 (kq ≤ kj21) ∧ Aside0 (wc.heap[gb284]? = some (.cells #[.int .i64 0, .int .i64 0, .int .i64 0, .int .i64 0, .int .i64 0, .int .i64 0] 23 (0, 0))) ∧ Aside0 (wc.heap[gb290]? = some (.cells #[.int .i64 ji21, .int .i64 0, .int .i64 (-1), .int .i64 0, .int .i64 0, .int .i64 x5_11] 23 (0, 0))) ∧ Aside0 (Below w.heap.size w wc))
        case first =>
         have H := HC32.out
         clear HC32
         by_cases c33 : x55_21 = true
         ·subst c33
          rw [if_pos rfl] at H
          have H' := Aside0.mk H
          clear H
          go_wp2
          go_meet
          case rel => exact ⟨_, (true), (by first | rfl | (simp; done) | (simp [*]; done)), H', ⟨by have := HJ2.out; have := HJ11.out; have := HJ21.out; first | omega | exact Nat.le_refl _⟩, ⟨by exact bq BK284.out⟩, ⟨by exact bq BK290.out⟩, ⟨zB⟩⟩
         ·replace c33 := Bool.eq_false_iff.mpr c33
          subst c33
          rw [if_neg (show ¬ (false = true) by decide)] at H
          replace H := Option.bind_eq_some_iff.mp H
          obtain ⟨t292, A340, H⟩ := H
          try dsimp only at H
          have A34 := Aside0.mk A340
          clear A340
          by_cases c35 : t292 = true
          ·subst c35
           rw [if_pos rfl] at H
           have H' := Aside0.mk H
           clear H
           go_wp2_with (first | ((with_reducible refine gate_callee (f := 34) rfl ?_); refine goesL_ (some 63) rfl rfl Tryd.func34 (by kernel_rfl) rfl #[.int .i64 ji21] rfl (by (try simp only [List.map_toArray, List.map_cons, List.map_nil]); first | done | (simp only [hji21]; rfl) | rfl | (simp only [List.length_drop, List.length_take]; rfl)) ?_; (with_reducible refine (impl_kind_asks.calls ji21 true _ A34.out).mono ?_); rintro e w' ⟨rfl, ⟨nd, rfl⟩⟩; refine ⟨_, rfl, ?_⟩))
           go_meet
           case rel => exact ⟨_, (((l0.length : Int) == 4)), (by first | rfl | (simp; done) | (simp [*]; done)), H', ⟨by have := HJ2.out; have := HJ11.out; have := HJ21.out; first | omega | exact Nat.le_refl _⟩, ⟨by exact bq BK284.out⟩, ⟨by exact bq BK290.out⟩, ⟨zB⟩⟩
          ·replace c35 := Bool.eq_false_iff.mpr c35
           subst c35
           rw [if_neg (show ¬ (false = true) by decide)] at H
           have H' := Aside0.mk H
           clear H
           go_wp2_with (first | ((with_reducible refine gate_callee (f := 34) rfl ?_); refine goesL_ (some 63) rfl rfl Tryd.func34 (by kernel_rfl) rfl #[.int .i64 ji21] rfl (by (try simp only [List.map_toArray, List.map_cons, List.map_nil]); first | done | (simp only [hji21]; rfl) | rfl | (simp only [List.length_drop, List.length_take]; rfl)) ?_; (with_reducible refine (impl_kind_asks.calls ji21 false _ A34.out).mono ?_); rintro e w' ⟨rfl, ⟨nd, rfl⟩⟩; refine ⟨_, rfl, ?_⟩))
           go_meet
           case rel => exact ⟨_, (false), (by first | rfl | (simp; done) | (simp [*]; done)), H', ⟨by have := HJ2.out; have := HJ11.out; have := HJ21.out; first | omega | exact Nat.le_refl _⟩, ⟨by exact bq BK284.out⟩, ⟨by exact bq BK290.out⟩, ⟨zB⟩⟩
        case rest =>
         clear HC32
         try clear c1
         try clear p1 p1
         try clear q1 q1
         try clear hx1
         try clear c2
         try clear c2b0
         try clear c2b1
         try clear p2 p2
         try clear q2 q2
         try clear hx2
         try clear qi2
         try clear c3
         try clear c5
         try clear c5b0
         try clear c5b1
         try clear p6 p6
         try clear c7
         try clear c7b0
         try clear c8
         try clear c8b0
         try clear p9 p9
         try clear q9 q9
         try clear hx9
         try clear c10
         try clear c10b0
         try clear p11 p11
         try clear q11 q11
         try clear hx11
         try clear c13
         try clear c15
         try clear c15b0
         try clear c16
         try clear c16b0
         try clear p17 p17
         try clear q17 q17
         try clear hx17
         try clear c18
         try clear c18b0
         try clear c19
         try clear c19b0
         try clear c19b1
         try clear c28
         try clear p28 p28
         try clear q28 q28
         try clear hx28
         try clear qi28
         try clear c31
         try clear c32
         try clear c33
         try clear c34
         try clear c35
         try clear hcz29_0 hcz29_1 hcz29_2 hcz29_3 hcz29_4 hcz29_5 hfz29_0 hfz29_1 hfz29_2 hfz29_3 hfz29_4 hfz29_5
         try clear hx285_0
         try clear p285
         try clear q285
         obtain ⟨kq, x55_31, rfl, HA, HJ31, BK284, BK290, HB⟩ := hcut
         cases kq with
         | zero => exact absurd HA.out (by simp [impl_readInsB.j3])
         | succ kj31 =>
          have H := HA.out
          clear HA
          simp only [impl_readInsB.j3] at H
          by_cases c36 : x55_31 = true
          ·subst c36
           rw [if_pos rfl] at H
           exact absurd H (by simp)
          ·replace c36 := Bool.eq_false_iff.mpr c36
           subst c36
           rw [if_neg (show ¬ (false = true) by decide)] at H
           have HC58 := Aside0.mk H
           clear H
           go_upto_region 18 with (fail)
           go_cut [84] (fun v84 wc => ∃ (kq : Nat) (x84_57 : Bool), v84 = .bool x84_57 ∧ Aside0 (impl_readInsB.j4 kq l0 ji21 (l0.length : Int) x84_57 ji21 0 (-1) 0 0 x5_11 = some (r1, r2, r3, r4, r5, r6, r7)) ∧ Aside0 (kq ≤ kj31) ∧ Aside0 (wc.heap[gb284]? = some (.cells #[.int .i64 0, .int .i64 0, .int .i64 0, .int .i64 0, .int .i64 0, .int .i64 0] 23 (0, 0))) ∧ Aside0 (wc.heap[gb290]? = some (.cells #[.int .i64 ji21, .int .i64 0, .int .i64 (-1), .int .i64 0, .int .i64 0, .int .i64 x5_11] 23 (0, 0))) ∧ Aside0 (Below w.heap.size w wc))
           case first =>
            have H := HC58.out
            clear HC58
            by_cases c59 : ji21 = 16
            ·rw [if_pos c59] at H
             have c59b0 : (ji21 == 16) = true := beq_iff_eq.mpr c59
             have c59b1 : (ji21 != 16) = false := bne_eq_false_iff_eq.mpr c59
             clear c59
             (first | rw [c59b0] | (simp only [i64_w, i32_w]; rw [c59b0]) | skip)
             have H' := Aside0.mk H
             clear H
             go_wp2
             go_meet
             case rel => exact ⟨_, (((l0.length : Int) == 2)), (by first | rfl | (simp; done) | (simp [*]; done)), H', ⟨by have := HJ2.out; have := HJ11.out; have := HJ21.out; have := HJ31.out; first | omega | exact Nat.le_refl _⟩, ⟨by exact bq BK284.out⟩, ⟨by exact bq BK290.out⟩, ⟨zB⟩⟩
            ·rw [if_neg c59] at H
             have c59b0 : (ji21 == 16) = false := beq_eq_false_iff_ne.mpr c59
             have c59b1 : (ji21 != 16) = true := bne_iff_ne.mpr c59
             (first | rw [c59b0] | (simp only [i64_w, i32_w]; rw [c59b0]) | skip)
             have H' := Aside0.mk H
             clear H
             go_wp2
             go_meet
             case rel => exact ⟨_, (false), (by first | rfl | (simp; done) | (simp [*]; done)), H', ⟨by have := HJ2.out; have := HJ11.out; have := HJ21.out; have := HJ31.out; first | omega | exact Nat.le_refl _⟩, ⟨by exact bq BK284.out⟩, ⟨by exact bq BK290.out⟩, ⟨zB⟩⟩
           case rest =>
            clear HC58
            try clear c1
            try clear p1 p1
            try clear q1 q1
            try clear hx1
            try clear c2
            try clear c2b0
            try clear c2b1
            try clear p2 p2
            try clear q2 q2
            try clear hx2
            try clear qi2
            try clear c3
            try clear p3
            try clear q3
            try clear hx3
            try clear qi3
            try clear c4
            try clear c5
            try clear c5b0
            try clear c5b1
            try clear p6 p6
            try clear c7
            try clear c7b0
            try clear c8
            try clear c8b0
            try clear p9 p9
            try clear q9 q9
            try clear hx9
            try clear c10
            try clear c10b0
            try clear p11 p11
            try clear q11 q11
            try clear hx11
            try clear c13
            try clear c15
            try clear c15b0
            try clear c16
            try clear c16b0
            try clear p17 p17
            try clear q17 q17
            try clear hx17
            try clear c18
            try clear c18b0
            try clear c19
            try clear c19b0
            try clear c19b1
            try clear c28
            try clear p28 p28
            try clear q28 q28
            try clear hx28
            try clear qi28
            try clear p29
            try clear q29
            try clear hx29
            try clear qi29
            try clear p30
            try clear q30
            try clear hx30
            try clear qi30
            try clear c31
            try clear c32
            try clear c33
            try clear c34
            try clear c35
            try clear c36
            try clear c37
            try clear c37b0
            try clear c37b1
            try clear c39
            try clear c39b0
            try clear c39b1
            try clear c42
            try clear c43
            try clear c43b0
            try clear c43b1
            try clear c46
            try clear c53
            try clear c59
            try clear c59b0
            try clear c59b1
            try clear hcz29_0 hcz29_1 hcz29_2 hcz29_3 hcz29_4 hcz29_5 hfz29_0 hfz29_1 hfz29_2 hfz29_3 hfz29_4 hfz29_5
            try clear hcz47_0 hcz47_1 hcz47_2 hcz47_3 hcz47_4 hcz47_5 hfz47_0 hfz47_1 hfz47_2 hfz47_3 hfz47_4 hfz47_5
            try clear hcz50_0 hcz50_1 hcz50_2 hcz50_3 hcz50_4 hcz50_5 hfz50_0 hfz50_1 hfz50_2 hfz50_3 hfz50_4 hfz50_5
            try clear hcz51_0 hcz51_1 hcz51_2 hcz51_3 hcz51_4 hcz51_5 hfz51_0 hfz51_1 hfz51_2 hfz51_3 hfz51_4 hfz51_5
            try clear hcz54_0 hcz54_1 hcz54_2 hcz54_3 hcz54_4 hcz54_5 hfz54_0 hfz54_1 hfz54_2 hfz54_3 hfz54_4 hfz54_5
            try clear hcz56_0 hcz56_1 hcz56_2 hcz56_3 hcz56_4 hcz56_5 hfz56_0 hfz56_1 hfz56_2 hfz56_3 hfz56_4 hfz56_5
            try clear hcz57_0 hcz57_1 hcz57_2 hcz57_3 hcz57_4 hcz57_5 hfz57_0 hfz57_1 hfz57_2 hfz57_3 hfz57_4 hfz57_5
            try clear hx285_0
            try clear hx293_0
            try clear hx295_0
            try clear hx303_0
            try clear p285
            try clear p293
            try clear p295
            try clear p303
            try clear q285
            try clear q293
            try clear q295
            try clear q303
            obtain ⟨kq, x84_57, rfl, HA, HJ57, BK284, BK290, HB⟩ := hcut
            cases kq with
            | zero => exact absurd HA.out (by simp [impl_readInsB.j4])
            | succ kj57 =>
             have H := HA.out
             clear HA
             simp only [impl_readInsB.j4] at H
             by_cases c60 : x84_57 = true
             ·subst c60
              rw [if_pos rfl] at H
              by_cases c61 : 1 < (l0.length : Int)
              ·rw [if_pos c61] at H
               have c61b0 : decide (1 < (l0.length : Int)) = true := decide_eq_true c61
               have c61b1 : decide (1 < l0.length) = true := decide_eq_true (by omega)
               clear c61
               replace H := Option.bind_eq_some_iff.mp H
               obtain ⟨t306, A620, H⟩ := H
               try dsimp only at H
               have A62 := Aside0.mk A620
               clear A620
               simp only [Option.some.injEq, Prod.mk.injEq] at H
               obtain ⟨rfl, rfl, rfl, rfl, rfl, rfl, rfl⟩ := H
               have p305 : 0 ≤ (1 : Int) := (by omega)
               have q305 : 1 < (l0.length : Int) := of_decide_eq_true (by first | (with_reducible assumption) | assumption)
               obtain ⟨ad305, e305, hx305_0⟩ := Kd.at_string HR0.out 1 p305 q305
               obtain rfl : ad285 = ad305 := (by injection e305)
               (try simp only [show (1 : Int).toNat = 1 from rfl, Nat.reduceMul, Nat.reduceEqDiff, Go.Addr.add, ↓reduceIte] at hx305_0)
               have qi305 : (1 < l0.length) = True := eq_true (by omega)
               (try rw [show ((1 : Int)).toNat = 1 from rfl] at hx305_0)
               replace hx305_0 := (HB.out.cell (World.block_lt_of_cell? w _ hx305_0)).trans hx305_0
               replace p305 := eq_true p305
               replace q305 := eq_true q305
               go_wp2_with (first | ((with_reducible refine gate_callee (f := 37) rfl ?_); refine gl 94 Tryd.func37 #[.string (rdOf ByteArray.empty l0 1)] ?_; (with_reducible refine (impl_number.calls (rdOf ByteArray.empty l0 1) t306 _ A62.out).mono ?_); rintro e w63 ⟨rfl, hb⟩; refine ⟨_, rfl, ?_⟩; replace BK284 := zb BK284 hb rfl; replace BK290 := zb BK290 hb rfl; replace HB := zS hb; try clear hb; have hnb64 := NB290_284.out; have hnc64 := NB284_290.out; obtain ⟨hcz65_0, hcz65_1, hcz65_2, hcz65_3, hcz65_4, hcz65_5, hfz65_0, hfz65_1, hfz65_2, hfz65_3, hfz65_4, hfz65_5⟩ := zc6 BK290; obtain ⟨hcz66_0, hcz66_1, hcz66_2, hcz66_3, hcz66_4, hcz66_5, hfz66_0, hfz66_1, hfz66_2, hfz66_3, hfz66_4, hfz66_5⟩ := zc6 BK284))
               refine bodyPost_ret (results_ct rfl _ _ gb284 23 #[.int .i64 ji21, .int .i64 0, .int .i64 (-1), .int .i64 t306, .int .i64 0, .int .i64 x5_11] (0, 0) _ rfl (by refine bq ?_; refine blk_put (cs := #[.int .i64 ji21, .int .i64 0, .int .i64 (-1), .int .i64 t306, .int .i64 0, .int .i64 0]) ?_ 5 _ rfl; refine bq ?_; refine blk_put (cs := #[.int .i64 ji21, .int .i64 0, .int .i64 (-1), .int .i64 t306, .int .i64 0, .int .i64 0]) ?_ 4 _ rfl; refine bq ?_; refine blk_put (cs := #[.int .i64 ji21, .int .i64 0, .int .i64 (-1), .int .i64 0, .int .i64 0, .int .i64 0]) ?_ 3 _ rfl; refine bq ?_; refine blk_put (cs := #[.int .i64 ji21, .int .i64 0, .int .i64 0, .int .i64 0, .int .i64 0, .int .i64 0]) ?_ 2 _ rfl; refine bq ?_; refine blk_put (cs := #[.int .i64 ji21, .int .i64 0, .int .i64 0, .int .i64 0, .int .i64 0, .int .i64 0]) ?_ 1 _ rfl; refine bq ?_; refine blk_put (cs := #[.int .i64 0, .int .i64 0, .int .i64 0, .int .i64 0, .int .i64 0, .int .i64 0]) ?_ 0 _ rfl; refine fq ?_ NB284_290.out; exact bq BK284.out) Tryd.underlying23 rfl (by kernel_rfl)) rfl ?_
               exact ⟨by first | rfl | (simp [errW_none, errW_some] <;> rfl) | (simp only [← hji21]; first | rfl | (simp [errW_none, errW_some] <;> rfl)) | (simp [*, errW_none, errW_some] <;> rfl), zB⟩
              ·rw [if_neg c61] at H
               exact absurd H (by simp)
             ·replace c60 := Bool.eq_false_iff.mpr c60
              subst c60
              rw [if_neg (show ¬ (false = true) by decide)] at H
              have HC67 := Aside0.mk H
              clear H
              go_upto_region 20 with (fail)
              go_cut [96] (fun v96 wc => ∃ (kq : Nat) (x96_66 : Bool), v96 = .bool x96_66 ∧ Aside0 (impl_readInsB.j5 kq l0 ji21 (l0.length : Int) x96_66 ji21 0 (-1) 0 0 x5_11 = some (r1, r2, r3, r4, r5, r6, r7)) ∧ Aside0 (kq ≤ kj57) ∧ Aside0 (wc.heap[gb284]? = some (.cells #[.int .i64 0, .int .i64 0, .int .i64 0, .int .i64 0, .int .i64 0, .int .i64 0] 23 (0, 0))) ∧ Aside0 (wc.heap[gb290]? = some (.cells #[.int .i64 ji21, .int .i64 0, .int .i64 (-1), .int .i64 0, .int .i64 0, .int .i64 x5_11] 23 (0, 0))) ∧ Aside0 (Below w.heap.size w wc))
              case first =>
               have H := HC67.out
               clear HC67
               by_cases c68 : ji21 = 17
               ·rw [if_pos c68] at H
                have c68b0 : (ji21 == 17) = true := beq_iff_eq.mpr c68
                have c68b1 : (ji21 != 17) = false := bne_eq_false_iff_eq.mpr c68
                clear c68
                (first | rw [c68b0] | (simp only [i64_w, i32_w]; rw [c68b0]) | skip)
                have H' := Aside0.mk H
                clear H
                go_wp2
                go_meet
                case rel => exact ⟨_, (((l0.length : Int) == 4)), (by first | rfl | (simp; done) | (simp [*]; done)), H', ⟨by have := HJ2.out; have := HJ11.out; have := HJ21.out; have := HJ31.out; have := HJ57.out; first | omega | exact Nat.le_refl _⟩, ⟨by exact bq BK284.out⟩, ⟨by exact bq BK290.out⟩, ⟨zB⟩⟩
               ·rw [if_neg c68] at H
                have c68b0 : (ji21 == 17) = false := beq_eq_false_iff_ne.mpr c68
                have c68b1 : (ji21 != 17) = true := bne_iff_ne.mpr c68
                (first | rw [c68b0] | (simp only [i64_w, i32_w]; rw [c68b0]) | skip)
                have H' := Aside0.mk H
                clear H
                go_wp2
                go_meet
                case rel => exact ⟨_, (false), (by first | rfl | (simp; done) | (simp [*]; done)), H', ⟨by have := HJ2.out; have := HJ11.out; have := HJ21.out; have := HJ31.out; have := HJ57.out; first | omega | exact Nat.le_refl _⟩, ⟨by exact bq BK284.out⟩, ⟨by exact bq BK290.out⟩, ⟨zB⟩⟩
              case rest =>
               clear HC67
               try clear c1
               try clear p1 p1
               try clear q1 q1
               try clear hx1
               try clear c2
               try clear c2b0
               try clear c2b1
               try clear p2 p2
               try clear q2 q2
               try clear hx2
               try clear qi2
               try clear c3
               try clear p3 p3
               try clear q3 q3
               try clear hx3
               try clear qi3
               try clear c4
               try clear c5
               try clear c5b0
               try clear c5b1
               try clear c6
               try clear p6 p6
               try clear c7
               try clear c7b0
               try clear c8
               try clear c8b0
               try clear p9 p9
               try clear q9 q9
               try clear hx9
               try clear c10
               try clear c10b0
               try clear p11 p11
               try clear q11 q11
               try clear hx11
               try clear c13
               try clear c15
               try clear c15b0
               try clear c16
               try clear c16b0
               try clear p17 p17
               try clear q17 q17
               try clear hx17
               try clear c18
               try clear c18b0
               try clear c19
               try clear c19b0
               try clear c19b1
               try clear c28
               try clear p28 p28
               try clear q28 q28
               try clear hx28
               try clear qi28
               try clear p29 p29
               try clear q29 q29
               try clear hx29
               try clear qi29
               try clear p30 p30
               try clear q30 q30
               try clear hx30
               try clear qi30
               try clear c31
               try clear c32
               try clear c33
               try clear c34
               try clear c35
               try clear c36
               try clear c37
               try clear c37b0
               try clear c37b1
               try clear c39
               try clear c39b0
               try clear c39b1
               try clear c42
               try clear c43
               try clear c43b0
               try clear c43b1
               try clear c46
               try clear c53
               try clear c59
               try clear c59b0
               try clear c59b1
               try clear c60
               try clear c61
               try clear c61b0
               try clear c61b1
               try clear c64
               try clear c68
               try clear c68b0
               try clear c68b1
               try clear hcz29_0 hcz29_1 hcz29_2 hcz29_3 hcz29_4 hcz29_5 hfz29_0 hfz29_1 hfz29_2 hfz29_3 hfz29_4 hfz29_5
               try clear hcz47_0 hcz47_1 hcz47_2 hcz47_3 hcz47_4 hcz47_5 hfz47_0 hfz47_1 hfz47_2 hfz47_3 hfz47_4 hfz47_5
               try clear hcz50_0 hcz50_1 hcz50_2 hcz50_3 hcz50_4 hcz50_5 hfz50_0 hfz50_1 hfz50_2 hfz50_3 hfz50_4 hfz50_5
               try clear hcz51_0 hcz51_1 hcz51_2 hcz51_3 hcz51_4 hcz51_5 hfz51_0 hfz51_1 hfz51_2 hfz51_3 hfz51_4 hfz51_5
               try clear hcz54_0 hcz54_1 hcz54_2 hcz54_3 hcz54_4 hcz54_5 hfz54_0 hfz54_1 hfz54_2 hfz54_3 hfz54_4 hfz54_5
               try clear hcz56_0 hcz56_1 hcz56_2 hcz56_3 hcz56_4 hcz56_5 hfz56_0 hfz56_1 hfz56_2 hfz56_3 hfz56_4 hfz56_5
               try clear hcz57_0 hcz57_1 hcz57_2 hcz57_3 hcz57_4 hcz57_5 hfz57_0 hfz57_1 hfz57_2 hfz57_3 hfz57_4 hfz57_5
               try clear hcz65_0 hcz65_1 hcz65_2 hcz65_3 hcz65_4 hcz65_5 hfz65_0 hfz65_1 hfz65_2 hfz65_3 hfz65_4 hfz65_5
               try clear hcz66_0 hcz66_1 hcz66_2 hcz66_3 hcz66_4 hcz66_5 hfz66_0 hfz66_1 hfz66_2 hfz66_3 hfz66_4 hfz66_5
               try clear hx285_0
               try clear hx293_0
               try clear hx295_0
               try clear hx303_0
               try clear hx305_0
               try clear p285
               try clear p293
               try clear p295
               try clear p303
               try clear p305
               try clear q285
               try clear q293
               try clear q295
               try clear q303
               try clear q305
               obtain ⟨kq, x96_66, rfl, HA, HJ66, BK284, BK290, HB⟩ := hcut
               cases kq with
               | zero => exact absurd HA.out (by simp [impl_readInsB.j5])
               | succ kj66 =>
                have H := HA.out
                clear HA
                simp only [impl_readInsB.j5] at H
                by_cases c69 : x96_66 = true
                ·subst c69
                 rw [if_pos rfl] at H
                 by_cases c70 : 1 < (l0.length : Int)
                 ·rw [if_pos c70] at H
                  have c70b0 : decide (1 < (l0.length : Int)) = true := decide_eq_true c70
                  have c70b1 : decide (1 < l0.length) = true := decide_eq_true (by omega)
                  clear c70
                  replace H := Option.bind_eq_some_iff.mp H
                  obtain ⟨t308, A710, H⟩ := H
                  try dsimp only at H
                  have A71 := Aside0.mk A710
                  clear A710
                  by_cases c72 : 2 < (l0.length : Int)
                  ·rw [if_pos c72] at H
                   have c72b0 : decide (2 < (l0.length : Int)) = true := decide_eq_true c72
                   have c72b1 : decide (2 < l0.length) = true := decide_eq_true (by omega)
                   clear c72
                   replace H := Option.bind_eq_some_iff.mp H
                   obtain ⟨t310, A730, H⟩ := H
                   try dsimp only at H
                   have A73 := Aside0.mk A730
                   clear A730
                   by_cases c74 : 3 < (l0.length : Int)
                   ·rw [if_pos c74] at H
                    have c74b0 : decide (3 < (l0.length : Int)) = true := decide_eq_true c74
                    have c74b1 : decide (3 < l0.length) = true := decide_eq_true (by omega)
                    clear c74
                    replace H := Option.bind_eq_some_iff.mp H
                    obtain ⟨t312, A750, H⟩ := H
                    try dsimp only at H
                    have A75 := Aside0.mk A750
                    clear A750
                    simp only [Option.some.injEq, Prod.mk.injEq] at H
                    obtain ⟨rfl, rfl, rfl, rfl, rfl, rfl, rfl⟩ := H
                    try go_wp2
                    replace BK284 := Aside0.mk (blk_drew BK284.out)
                    replace BK290 := Aside0.mk (blk_drew BK290.out)
                    replace HB := Aside0.mk (below_drew1 HB.out)
                    have p307 : 0 ≤ (1 : Int) := (by omega)
                    have q307 : 1 < (l0.length : Int) := of_decide_eq_true (by first | (with_reducible assumption) | assumption)
                    obtain ⟨ad307, e307, hx307_0⟩ := Kd.at_string HR0.out 1 p307 q307
                    have hw307_0 := hx307_0
                    (try rw [show ((1 : Int)).toNat = 1 from rfl] at hw307_0)
                    (try rw [show 1 * 1 = 1 from rfl] at hw307_0)
                    (try simp only [Nat.reduceMul, Nat.reduceEqDiff, Go.Addr.add, ↓reduceIte] at hw307_0)
                    obtain rfl : ad285 = ad307 := (by injection e307)
                    (try simp only [show (1 : Int).toNat = 1 from rfl, Nat.reduceMul, Nat.reduceEqDiff, Go.Addr.add, ↓reduceIte] at hx307_0)
                    have qi307 : (1 < l0.length) = True := eq_true (by omega)
                    (try rw [show ((1 : Int)).toNat = 1 from rfl] at hx307_0)
                    replace hx307_0 := (HB.out.cell (World.block_lt_of_cell? w _ hx307_0)).trans hx307_0
                    replace p307 := eq_true p307
                    replace q307 := eq_true q307
                    have p309 : 0 ≤ (2 : Int) := (by omega)
                    have q309 : 2 < (l0.length : Int) := of_decide_eq_true (by first | (with_reducible assumption) | assumption)
                    obtain ⟨ad309, e309, hx309_0⟩ := Kd.at_string HR0.out 2 p309 q309
                    have hw309_0 := hx309_0
                    (try rw [show ((2 : Int)).toNat = 2 from rfl] at hw309_0)
                    (try rw [show 2 * 1 = 2 from rfl] at hw309_0)
                    (try simp only [Nat.reduceMul, Nat.reduceEqDiff, Go.Addr.add, ↓reduceIte] at hw309_0)
                    obtain rfl : ad285 = ad309 := (by injection e309)
                    (try simp only [show (2 : Int).toNat = 2 from rfl, Nat.reduceMul, Nat.reduceEqDiff, Go.Addr.add, ↓reduceIte] at hx309_0)
                    have qi309 : (2 < l0.length) = True := eq_true (by omega)
                    (try rw [show ((2 : Int)).toNat = 2 from rfl] at hx309_0)
                    replace hx309_0 := (HB.out.cell (World.block_lt_of_cell? w _ hx309_0)).trans hx309_0
                    replace p309 := eq_true p309
                    replace q309 := eq_true q309
                    have p311 : 0 ≤ (3 : Int) := (by omega)
                    have q311 : 3 < (l0.length : Int) := of_decide_eq_true (by first | (with_reducible assumption) | assumption)
                    obtain ⟨ad311, e311, hx311_0⟩ := Kd.at_string HR0.out 3 p311 q311
                    have hw311_0 := hx311_0
                    (try rw [show ((3 : Int)).toNat = 3 from rfl] at hw311_0)
                    (try rw [show 3 * 1 = 3 from rfl] at hw311_0)
                    (try simp only [Nat.reduceMul, Nat.reduceEqDiff, Go.Addr.add, ↓reduceIte] at hw311_0)
                    obtain rfl : ad285 = ad311 := (by injection e311)
                    (try simp only [show (3 : Int).toNat = 3 from rfl, Nat.reduceMul, Nat.reduceEqDiff, Go.Addr.add, ↓reduceIte] at hx311_0)
                    have qi311 : (3 < l0.length) = True := eq_true (by omega)
                    (try rw [show ((3 : Int)).toNat = 3 from rfl] at hx311_0)
                    replace hx311_0 := (HB.out.cell (World.block_lt_of_cell? w _ hx311_0)).trans hx311_0
                    replace p311 := eq_true p311
                    replace q311 := eq_true q311
                    refine start_ (n := 18) (S := fun w' => w'.cell? ⟨ad285.block, ad285.off + 1, none⟩ = some (.string (rdOf ByteArray.empty l0 1)) ∧ w'.cell? ⟨ad285.block, ad285.off + 2, none⟩ = some (.string (rdOf ByteArray.empty l0 2)) ∧ w'.cell? ⟨ad285.block, ad285.off + 3, none⟩ = some (.string (rdOf ByteArray.empty l0 3))) (ds := []) #[false, false, false, false, false, false, false, false, false, false, false, false, false, false, false, false, false, false] (by kernel_rfl) rfl rfl ⟨((HB.out.cell (World.block_lt_of_cell? w _ hw307_0)).trans hw307_0), ((HB.out.cell (World.block_lt_of_cell? w _ hw309_0)).trans hw309_0), ((HB.out.cell (World.block_lt_of_cell? w _ hw311_0)).trans hw311_0)⟩ (fun hHeld => ?_); refine with_tabW impl_readIns.tab21 impl_readIns.bits21 (fun HT_ HW_ => ?_)
                    generalize wc.drew = w76 at BK284 BK290 HB hx307_0 hx309_0 hx311_0 hHeld ⊢
                    refine pz 0 103 ?_
                    refine pz 1 104 ?_
                    refine pz 4 107 ?_
                    refine pz 5 108 ?_
                    refine pz 8 111 ?_
                    refine pz 9 112 ?_
                    refine tz 2 105 ?_
                    refine tz 6 109 ?_
                    refine tz 10 113 ?_
                    refine oz 3 106 fun K hK => ?_
                    refine gz Tryd.func35 #[.string (rdOf ByteArray.empty l0 1)] ?_
                    with_reducible refine (impl_readReg.calls (rdOf ByteArray.empty l0 1) t308 _ A71.out).mono ?_
                    rintro e w77 ⟨rfl, hb⟩
                    refine ⟨_, rfl, ?_⟩
                    replace BK284 := zb BK284 hb rfl
                    replace BK290 := zb BK290 hb rfl
                    replace HB := zS hb
                    try clear hb
                    refine hK.out _ _ ⟨((HB.out.cell (World.block_lt_of_cell? w _ hw307_0)).trans hw307_0), ((HB.out.cell (World.block_lt_of_cell? w _ hw309_0)).trans hw309_0), ((HB.out.cell (World.block_lt_of_cell? w _ hw311_0)).trans hw311_0)⟩ (fun hHeld => ?_)
                    clear hK K
                    refine nz ?_
                    refine oz 7 110 fun K hK => ?_
                    refine gz Tryd.func35 #[.string (rdOf ByteArray.empty l0 2)] ?_
                    with_reducible refine (impl_readReg.calls (rdOf ByteArray.empty l0 2) t310 _ A73.out).mono ?_
                    rintro e w78 ⟨rfl, hb⟩
                    refine ⟨_, rfl, ?_⟩
                    replace BK284 := zb BK284 hb rfl
                    replace BK290 := zb BK290 hb rfl
                    replace HB := zS hb
                    try clear hb
                    refine hK.out _ _ ⟨((HB.out.cell (World.block_lt_of_cell? w _ hw307_0)).trans hw307_0), ((HB.out.cell (World.block_lt_of_cell? w _ hw309_0)).trans hw309_0), ((HB.out.cell (World.block_lt_of_cell? w _ hw311_0)).trans hw311_0)⟩ (fun hHeld => ?_)
                    clear hK K
                    refine nz ?_
                    refine oz 11 114 fun K hK => ?_
                    refine gz Tryd.func37 #[.string (rdOf ByteArray.empty l0 3)] ?_
                    with_reducible refine (impl_number.calls (rdOf ByteArray.empty l0 3) t312 _ A75.out).mono ?_
                    rintro e w79 ⟨rfl, hb⟩
                    refine ⟨_, rfl, ?_⟩
                    replace BK284 := zb BK284 hb rfl
                    replace BK290 := zb BK290 hb rfl
                    replace HB := zS hb
                    try clear hb
                    refine hK.out _ _ ⟨((HB.out.cell (World.block_lt_of_cell? w _ hw307_0)).trans hw307_0), ((HB.out.cell (World.block_lt_of_cell? w _ hw309_0)).trans hw309_0), ((HB.out.cell (World.block_lt_of_cell? w _ hw311_0)).trans hw311_0)⟩ (fun hHeld => ?_)
                    clear hK K
                    refine nz ?_
                    refine pz 12 115 ?_
                    refine oN 13 fun K hK => ?_
                    have hs80 : w79.cell? ⟨gb290, 1, none⟩ = some (.int .i64 0) := (blk_cell BK290.out 1).trans rfl
                    have hfs80 := blk_frozen BK290.out 1
                    have hns80_0 := NB284_290.out
                    have hms80_0 := NB290_284.out
                    refine skip_ (w1 := ?_) (by rfl) rfl ?_ ?_
                    rotate_left
                    ·go_simp
                     rfl
                    refine hK.out _ _ ⟨((cell_far (p := ⟨gb290, _, none⟩) (by first | exact Nat.ne_of_lt (Nat.lt_of_lt_of_le (by have := World.block_lt_of_cell? _ _ hw307_0; first | rwa [add_block] at this | exact this) GW290.out) | (rw [add_block]; exact Nat.ne_of_lt (Nat.lt_of_lt_of_le (by have := World.block_lt_of_cell? _ _ hw307_0; first | rwa [add_block] at this | exact this) GW290.out)) | (show (Addr.add _ _).block ≠ _; rw [add_block]; exact Nat.ne_of_lt (Nat.lt_of_lt_of_le (by have := World.block_lt_of_cell? _ _ hw307_0; first | rwa [add_block] at this | exact this) GW290.out)) | (dsimp only; exact Nat.ne_of_lt (Nat.lt_of_lt_of_le (by have := World.block_lt_of_cell? _ _ hw307_0; first | rwa [add_block] at this | exact this) GW290.out))) _).trans (hHeld.1)), ((cell_far (p := ⟨gb290, _, none⟩) (by first | exact Nat.ne_of_lt (Nat.lt_of_lt_of_le (by have := World.block_lt_of_cell? _ _ hw309_0; first | rwa [add_block] at this | exact this) GW290.out) | (rw [add_block]; exact Nat.ne_of_lt (Nat.lt_of_lt_of_le (by have := World.block_lt_of_cell? _ _ hw309_0; first | rwa [add_block] at this | exact this) GW290.out)) | (show (Addr.add _ _).block ≠ _; rw [add_block]; exact Nat.ne_of_lt (Nat.lt_of_lt_of_le (by have := World.block_lt_of_cell? _ _ hw309_0; first | rwa [add_block] at this | exact this) GW290.out)) | (dsimp only; exact Nat.ne_of_lt (Nat.lt_of_lt_of_le (by have := World.block_lt_of_cell? _ _ hw309_0; first | rwa [add_block] at this | exact this) GW290.out))) _).trans (hHeld.2.1)), ((cell_far (p := ⟨gb290, _, none⟩) (by first | exact Nat.ne_of_lt (Nat.lt_of_lt_of_le (by have := World.block_lt_of_cell? _ _ hw311_0; first | rwa [add_block] at this | exact this) GW290.out) | (rw [add_block]; exact Nat.ne_of_lt (Nat.lt_of_lt_of_le (by have := World.block_lt_of_cell? _ _ hw311_0; first | rwa [add_block] at this | exact this) GW290.out)) | (show (Addr.add _ _).block ≠ _; rw [add_block]; exact Nat.ne_of_lt (Nat.lt_of_lt_of_le (by have := World.block_lt_of_cell? _ _ hw311_0; first | rwa [add_block] at this | exact this) GW290.out)) | (dsimp only; exact Nat.ne_of_lt (Nat.lt_of_lt_of_le (by have := World.block_lt_of_cell? _ _ hw311_0; first | rwa [add_block] at this | exact this) GW290.out))) _).trans (hHeld.2.2))⟩ (fun hHeld => ?_)
                    clear hK K
                    refine pz 14 116 ?_
                    refine oN 15 fun K hK => ?_
                    have hs81 : w79.cell? ⟨gb290, 2, none⟩ = some (.int .i64 (-1)) := (blk_cell BK290.out 2).trans rfl
                    have hfs81 := blk_frozen BK290.out 2
                    have hns81_0 := NB284_290.out
                    have hms81_0 := NB290_284.out
                    refine skip_ (w1 := ?_) (by rfl) rfl ?_ ?_
                    rotate_left
                    ·go_simp
                     rfl
                    refine hK.out _ _ ⟨((cell_far (p := ⟨gb290, _, none⟩) (by first | exact Nat.ne_of_lt (Nat.lt_of_lt_of_le (by have := World.block_lt_of_cell? _ _ hw307_0; first | rwa [add_block] at this | exact this) GW290.out) | (rw [add_block]; exact Nat.ne_of_lt (Nat.lt_of_lt_of_le (by have := World.block_lt_of_cell? _ _ hw307_0; first | rwa [add_block] at this | exact this) GW290.out)) | (show (Addr.add _ _).block ≠ _; rw [add_block]; exact Nat.ne_of_lt (Nat.lt_of_lt_of_le (by have := World.block_lt_of_cell? _ _ hw307_0; first | rwa [add_block] at this | exact this) GW290.out)) | (dsimp only; exact Nat.ne_of_lt (Nat.lt_of_lt_of_le (by have := World.block_lt_of_cell? _ _ hw307_0; first | rwa [add_block] at this | exact this) GW290.out))) _).trans (hHeld.1)), ((cell_far (p := ⟨gb290, _, none⟩) (by first | exact Nat.ne_of_lt (Nat.lt_of_lt_of_le (by have := World.block_lt_of_cell? _ _ hw309_0; first | rwa [add_block] at this | exact this) GW290.out) | (rw [add_block]; exact Nat.ne_of_lt (Nat.lt_of_lt_of_le (by have := World.block_lt_of_cell? _ _ hw309_0; first | rwa [add_block] at this | exact this) GW290.out)) | (show (Addr.add _ _).block ≠ _; rw [add_block]; exact Nat.ne_of_lt (Nat.lt_of_lt_of_le (by have := World.block_lt_of_cell? _ _ hw309_0; first | rwa [add_block] at this | exact this) GW290.out)) | (dsimp only; exact Nat.ne_of_lt (Nat.lt_of_lt_of_le (by have := World.block_lt_of_cell? _ _ hw309_0; first | rwa [add_block] at this | exact this) GW290.out))) _).trans (hHeld.2.1)), ((cell_far (p := ⟨gb290, _, none⟩) (by first | exact Nat.ne_of_lt (Nat.lt_of_lt_of_le (by have := World.block_lt_of_cell? _ _ hw311_0; first | rwa [add_block] at this | exact this) GW290.out) | (rw [add_block]; exact Nat.ne_of_lt (Nat.lt_of_lt_of_le (by have := World.block_lt_of_cell? _ _ hw311_0; first | rwa [add_block] at this | exact this) GW290.out)) | (show (Addr.add _ _).block ≠ _; rw [add_block]; exact Nat.ne_of_lt (Nat.lt_of_lt_of_le (by have := World.block_lt_of_cell? _ _ hw311_0; first | rwa [add_block] at this | exact this) GW290.out)) | (dsimp only; exact Nat.ne_of_lt (Nat.lt_of_lt_of_le (by have := World.block_lt_of_cell? _ _ hw311_0; first | rwa [add_block] at this | exact this) GW290.out))) _).trans (hHeld.2.2))⟩ (fun hHeld => ?_)
                    clear hK K
                    refine pz 16 117 ?_
                    refine oN 17 fun K hK => ?_
                    have hs82 : w79.cell? ⟨gb290, 3, none⟩ = some (.int .i64 0) := (blk_cell BK290.out 3).trans rfl
                    have hfs82 := blk_frozen BK290.out 3
                    have hns82_0 := NB284_290.out
                    have hms82_0 := NB290_284.out
                    refine skip_ (w1 := ?_) (by rfl) rfl ?_ ?_
                    rotate_left
                    ·go_simp
                     rfl
                    refine hK.out _ _ ⟨((cell_far (p := ⟨gb290, _, none⟩) (by first | exact Nat.ne_of_lt (Nat.lt_of_lt_of_le (by have := World.block_lt_of_cell? _ _ hw307_0; first | rwa [add_block] at this | exact this) GW290.out) | (rw [add_block]; exact Nat.ne_of_lt (Nat.lt_of_lt_of_le (by have := World.block_lt_of_cell? _ _ hw307_0; first | rwa [add_block] at this | exact this) GW290.out)) | (show (Addr.add _ _).block ≠ _; rw [add_block]; exact Nat.ne_of_lt (Nat.lt_of_lt_of_le (by have := World.block_lt_of_cell? _ _ hw307_0; first | rwa [add_block] at this | exact this) GW290.out)) | (dsimp only; exact Nat.ne_of_lt (Nat.lt_of_lt_of_le (by have := World.block_lt_of_cell? _ _ hw307_0; first | rwa [add_block] at this | exact this) GW290.out))) _).trans (hHeld.1)), ((cell_far (p := ⟨gb290, _, none⟩) (by first | exact Nat.ne_of_lt (Nat.lt_of_lt_of_le (by have := World.block_lt_of_cell? _ _ hw309_0; first | rwa [add_block] at this | exact this) GW290.out) | (rw [add_block]; exact Nat.ne_of_lt (Nat.lt_of_lt_of_le (by have := World.block_lt_of_cell? _ _ hw309_0; first | rwa [add_block] at this | exact this) GW290.out)) | (show (Addr.add _ _).block ≠ _; rw [add_block]; exact Nat.ne_of_lt (Nat.lt_of_lt_of_le (by have := World.block_lt_of_cell? _ _ hw309_0; first | rwa [add_block] at this | exact this) GW290.out)) | (dsimp only; exact Nat.ne_of_lt (Nat.lt_of_lt_of_le (by have := World.block_lt_of_cell? _ _ hw309_0; first | rwa [add_block] at this | exact this) GW290.out))) _).trans (hHeld.2.1)), ((cell_far (p := ⟨gb290, _, none⟩) (by first | exact Nat.ne_of_lt (Nat.lt_of_lt_of_le (by have := World.block_lt_of_cell? _ _ hw311_0; first | rwa [add_block] at this | exact this) GW290.out) | (rw [add_block]; exact Nat.ne_of_lt (Nat.lt_of_lt_of_le (by have := World.block_lt_of_cell? _ _ hw311_0; first | rwa [add_block] at this | exact this) GW290.out)) | (show (Addr.add _ _).block ≠ _; rw [add_block]; exact Nat.ne_of_lt (Nat.lt_of_lt_of_le (by have := World.block_lt_of_cell? _ _ hw311_0; first | rwa [add_block] at this | exact this) GW290.out)) | (dsimp only; exact Nat.ne_of_lt (Nat.lt_of_lt_of_le (by have := World.block_lt_of_cell? _ _ hw311_0; first | rwa [add_block] at this | exact this) GW290.out))) _).trans (hHeld.2.2))⟩ (fun hHeld => ?_)
                    clear hK K
                    refine done_ (done_of HT_.out (by kernel_rfl)) ?_
                    have hnb83 := NB290_284.out
                    have hnc83 := NB284_290.out
                    obtain ⟨hcz84_0, hcz84_1, hcz84_2, hcz84_3, hcz84_4, hcz84_5, hfz84_0, hfz84_1, hfz84_2, hfz84_3, hfz84_4, hfz84_5⟩ := zc6 BK290
                    obtain ⟨hcz85_0, hcz85_1, hcz85_2, hcz85_3, hcz85_4, hcz85_5, hfz85_0, hfz85_1, hfz85_2, hfz85_3, hfz85_4, hfz85_5⟩ := zc6 BK284
                    try go_wp2
                    refine bodyPost_ret (results_ct rfl _ _ gb284 23 #[.int .i64 ji21, .int .i64 t308, .int .i64 t310, .int .i64 t312, .int .i64 0, .int .i64 x5_11] (0, 0) _ rfl (by refine bq ?_; refine blk_put (cs := #[.int .i64 ji21, .int .i64 t308, .int .i64 t310, .int .i64 t312, .int .i64 0, .int .i64 0]) ?_ 5 _ rfl; refine bq ?_; refine blk_put (cs := #[.int .i64 ji21, .int .i64 t308, .int .i64 t310, .int .i64 t312, .int .i64 0, .int .i64 0]) ?_ 4 _ rfl; refine bq ?_; refine blk_put (cs := #[.int .i64 ji21, .int .i64 t308, .int .i64 t310, .int .i64 0, .int .i64 0, .int .i64 0]) ?_ 3 _ rfl; refine bq ?_; refine blk_put (cs := #[.int .i64 ji21, .int .i64 t308, .int .i64 0, .int .i64 0, .int .i64 0, .int .i64 0]) ?_ 2 _ rfl; refine bq ?_; refine blk_put (cs := #[.int .i64 ji21, .int .i64 0, .int .i64 0, .int .i64 0, .int .i64 0, .int .i64 0]) ?_ 1 _ rfl; refine bq ?_; refine blk_put (cs := #[.int .i64 0, .int .i64 0, .int .i64 0, .int .i64 0, .int .i64 0, .int .i64 0]) ?_ 0 _ rfl; refine fq ?_ NB284_290.out; refine fq ?_ NB284_290.out; refine fq ?_ NB284_290.out; exact bq BK284.out) Tryd.underlying23 rfl (by kernel_rfl)) rfl ?_
                    exact ⟨by first | rfl | (simp [errW_none, errW_some] <;> rfl) | (simp only [← hji21]; first | rfl | (simp [errW_none, errW_some] <;> rfl)) | (simp [*, errW_none, errW_some] <;> rfl), zB⟩
                   ·rw [if_neg c74] at H
                    exact absurd H (by simp)
                  ·rw [if_neg c72] at H
                   exact absurd H (by simp)
                 ·rw [if_neg c70] at H
                  exact absurd H (by simp)
                ·replace c69 := Bool.eq_false_iff.mpr c69
                 subst c69
                 rw [if_neg (show ¬ (false = true) by decide)] at H
                 exact absurd H (by simp)
 ·rw [if_neg c2] at H
  exact absurd H (by simp)

end Go.Proofs.YtllmbooicobmkaaDoor.Q
