/- The machine's side of this seat's laws: Go functions as Lean functions, and their contracts. By a program of this work over the kit's print. -/
import Derived.Test.YtllmbooicobmkaaDoorQ0
import Derived.Test.YtllmbooicobmkaaDoorQ7
import Derived.Test.YtllmbooicobmkaaDoorQ8
import Derived.Test.YtllmbooicobmkaaDoorQ11
import Derived.Test.YtllmbooicobmkaaDoorQ12D
namespace Go.Proofs.YtllmbooicobmkaaDoor.Q
open Go.RowKit Go.Proofs.YtllmbooicobmkaaDoorW.PrintWords Go.Proofs.YtllmbooicobmkaaDoorW.PrintLast Go.Proofs.YtllmbooicobmkaaDoorW.PrintMore
attribute [local go_sem] max2_int min2_int max_two min_two max_three min_three max_four min_four Go.Proofs.YtllmbooicobmkaaDoorN.not_i64 Go.Proofs.YtllmbooicobmkaaDoorN.isSome_setCell   -- for this text's walks alone
set_option linter.unusedVariables false
set_option linter.unusedSimpArgs false

/-! ### impl_readIns, a part of its ways -/
mutual
def impl_readInsC.j0 : Nat → List ByteArray → ByteArray → Int → Int → Bool → Option (Int × Int × Int × Int × Int × Int × Bool)
 | 0, _, _, _, _, _ => none
 | k + 1, x0, x4, x5, x6, x33 => if x33 = true then (if 0 ≤ (wrap64 (x6 - 1)) then (if (wrap64 (x6 - 1)) < (x4.size : Int) then (if (wrap64 (x6 - 1)) ≤ (x4.size : Int) then (impl_readInsC.j1 k x0 (x4.extract 0 ((wrap64 (x6 - 1)) : Int).toNat) (((bt x4 (wrap64 (x6 - 1))) - 48) % 256)) else (none)) else (none)) else (none)) else (impl_readInsC.j1 k x0 x4 x5)
def impl_readInsC.j1 : Nat → List ByteArray → ByteArray → Int → Option (Int × Int × Int × Int × Int × Int × Bool)
 | 0, _, _, _ => none
 | k + 1, x0, x4, x5 => (slices_Index_string_string.f k (impl_opWords.L) x4).bind fun t289 => ((impl_kind_reckons.f (mx t289 0)).bind fun t291 => (if t291 = true then (impl_readInsC.j2 k x0 (mx t289 0) (mx t289 0) (x0.length : Int) ((x0.length : Int) == 3) (mx t289 0) 0 (-1) 0 0 x5) else (impl_readInsC.j2 k x0 (mx t289 0) (mx t289 0) (x0.length : Int) false (mx t289 0) 0 (-1) 0 0 x5)))
def impl_readInsC.j2 : Nat → List ByteArray → Int → Int → Int → Bool → Int → Int → Int → Int → Int → Int → Option (Int × Int × Int × Int × Int × Int × Bool)
 | 0, _, _, _, _, _, _, _, _, _, _, _ => none
 | k + 1, x0, x8, x10, x11, x55, x291000, x291001, x291002, x291003, x291004, x291005 => if x55 = true then (impl_readInsC.j3 k x0 x8 x10 x11 x55 x291000 x291001 x291002 x291003 x291004 x291005) else ((impl_kind_asks.f x10).bind fun t292 => (if t292 = true then (impl_readInsC.j3 k x0 x8 x10 x11 (x11 == 4) x291000 x291001 x291002 x291003 x291004 x291005) else (impl_readInsC.j3 k x0 x8 x10 x11 false x291000 x291001 x291002 x291003 x291004 x291005)))
def impl_readInsC.j3 : Nat → List ByteArray → Int → Int → Int → Bool → Int → Int → Int → Int → Int → Int → Option (Int × Int × Int × Int × Int × Int × Bool)
 | 0, _, _, _, _, _, _, _, _, _, _, _ => none
 | k + 1, x0, x8, x10, x11, x55, x291000, x291001, x291002, x291003, x291004, x291005 => if x55 = true then (none) else (if x8 = 16 then (impl_readInsC.j4 k x0 x8 x11 (x11 == 2) x291000 x291001 x291002 x291003 x291004 x291005) else (impl_readInsC.j4 k x0 x8 x11 false x291000 x291001 x291002 x291003 x291004 x291005))
def impl_readInsC.j4 : Nat → List ByteArray → Int → Int → Bool → Int → Int → Int → Int → Int → Int → Option (Int × Int × Int × Int × Int × Int × Bool)
 | 0, _, _, _, _, _, _, _, _, _, _ => none
 | k + 1, x0, x8, x11, x84, x291000, x291001, x291002, x291003, x291004, x291005 => if x84 = true then (none) else (if x8 = 17 then (impl_readInsC.j5 k x0 x8 x11 (x11 == 4) x291000 x291001 x291002 x291003 x291004 x291005) else (impl_readInsC.j5 k x0 x8 x11 false x291000 x291001 x291002 x291003 x291004 x291005))
def impl_readInsC.j5 : Nat → List ByteArray → Int → Int → Bool → Int → Int → Int → Int → Int → Int → Option (Int × Int × Int × Int × Int × Int × Bool)
 | 0, _, _, _, _, _, _, _, _, _, _ => none
 | k + 1, x0, x8, x11, x96, x291000, x291001, x291002, x291003, x291004, x291005 => if x96 = true then (none) else (if x8 = 18 then (impl_readIns.j6 k x0 x8 x11 (x11 == 4) x291000 x291001 x291002 x291003 x291004 x291005) else (impl_readIns.j6 k x0 x8 x11 false x291000 x291001 x291002 x291003 x291004 x291005))
end
def impl_readInsC.f (k : Nat) (l0 : List ByteArray) : Option (Int × Int × Int × Int × Int × Int × Bool) := if 0 < (l0.length : Int) then (if ((rdOf ByteArray.empty l0 0).size : Int) > 1 then (if 0 ≤ (wrap64 (((rdOf ByteArray.empty l0 0).size : Int) - 1)) then (if (wrap64 (((rdOf ByteArray.empty l0 0).size : Int) - 1)) < ((rdOf ByteArray.empty l0 0).size : Int) then (if (bt (rdOf ByteArray.empty l0 0) (wrap64 (((rdOf ByteArray.empty l0 0).size : Int) - 1))) ≥ 48 then (impl_readInsC.j0 k l0 (rdOf ByteArray.empty l0 0) 0 ((rdOf ByteArray.empty l0 0).size : Int) (decide ((bt (rdOf ByteArray.empty l0 0) (wrap64 (((rdOf ByteArray.empty l0 0).size : Int) - 1))) ≤ 57))) else (impl_readInsC.j0 k l0 (rdOf ByteArray.empty l0 0) 0 ((rdOf ByteArray.empty l0 0).size : Int) false)) else (none)) else (none)) else (impl_readInsC.j0 k l0 (rdOf ByteArray.empty l0 0) 0 ((rdOf ByteArray.empty l0 0).size : Int) false)) else (none)
set_option maxHeartbeats 8000000 in
set_option maxRecDepth 100000 in
theorem impl_readInsC.calls (k : Nat) (A0 : Option Addr) (c0 : Nat) (l0 : List ByteArray) (r1 : Int) (r2 : Int) (r3 : Int) (r4 : Int) (r5 : Int) (r6 : Int) (r7 : Bool) (w : World) (hr0 : Kd.C Kd.string w A0 l0.length l0) (hc0 : l0.length ≤ c0) (h : impl_readInsC.f k l0 = some (r1, r2, r3, r4, r5, r6, r7)) (zHT : Tryd.Te w := by first | exact zHT | exact Tryd.te_below zHT zB) :
  Calls Tryd.prog 15 #[.slice A0 l0.length c0] w fun e w' => e = .returned (.tuple #[.agg #[.int .i64 r1, .int .i64 r2, .int .i64 r3, .int .i64 r4, .int .i64 r5, .int .i64 r6], .bool r7]) ∧ Below w.heap.size w w' := by
 have hu23 := Tryd.underlying23
 have HR0 := Aside0.mk hr0
 have HC0 := Aside0.mk hc0
 clear hr0 hc0
 have HB := Aside0.mk (Below.refl w.heap.size w)
 have H : (if 0 < (l0.length : Int) then (if ((rdOf ByteArray.empty l0 0).size : Int) > 1 then (if 0 ≤ (wrap64 (((rdOf ByteArray.empty l0 0).size : Int) - 1)) then (if (wrap64 (((rdOf ByteArray.empty l0 0).size : Int) - 1)) < ((rdOf ByteArray.empty l0 0).size : Int) then (if (bt (rdOf ByteArray.empty l0 0) (wrap64 (((rdOf ByteArray.empty l0 0).size : Int) - 1))) ≥ 48 then (impl_readInsC.j0 k l0 (rdOf ByteArray.empty l0 0) 0 ((rdOf ByteArray.empty l0 0).size : Int) (decide ((bt (rdOf ByteArray.empty l0 0) (wrap64 (((rdOf ByteArray.empty l0 0).size : Int) - 1))) ≤ 57))) else (impl_readInsC.j0 k l0 (rdOf ByteArray.empty l0 0) 0 ((rdOf ByteArray.empty l0 0).size : Int) false)) else (none)) else (none)) else (impl_readInsC.j0 k l0 (rdOf ByteArray.empty l0 0) 0 ((rdOf ByteArray.empty l0 0).size : Int) false)) else (none)) = some (r1, r2, r3, r4, r5, r6, r7) := h
 clear h
 by_cases c2 : 0 < (l0.length : Int)
 ·rw [if_pos c2] at H
  have c2b0 : decide (0 < (l0.length : Int)) = true := decide_eq_true c2
  have c2b1 : decide (0 < l0.length) = true := decide_eq_true (by omega)
  clear c2
  have HC3 := Aside0.mk H
  clear H
  go_enter Tryd.func15, Tryd.ntmps15
  go_upto_region 4 with (first | ((with_reducible refine gate_dst (N := 2) rfl ?_); refine be 2 #[.int .i64 0, .int .i64 0, .int .i64 0, .int .i64 0, .int .i64 0, .int .i64 0] 23 ?_; intro gb284 hg w4 hbox hb; have BK284 := Aside0.mk hbox; have GW284 := zW hg; replace HB := zS hb; have GE284 := GW284; clear hb hbox hg; have p285 : 0 ≤ (0 : Int) := (by omega); have q285 : 0 < (l0.length : Int) := of_decide_eq_true (by first | (with_reducible assumption) | assumption); obtain ⟨ad285, e285, hx285_0⟩ := Kd.at_string HR0.out 0 p285 q285; cases e285; have qi285 : (0 < l0.length) = True := eq_true (by omega); (try rw [show ((0 : Int)).toNat = 0 from rfl] at hx285_0); (try rw [Addr.add_zero'] at hx285_0); replace hx285_0 := (HB.out.cell (World.block_lt_of_cell? w _ hx285_0)).trans hx285_0; replace p285 := eq_true p285; replace q285 := eq_true q285))
  (try simp only [Act.put, List.setIfInBounds_toArray, List.set_cons_zero, List.set_cons_succ])
  go_cut [33] (fun v33 wc => ∃ (kq : Nat) (x33_2 : Bool), v33 = .bool x33_2 ∧ Aside0 (impl_readInsC.j0 kq l0 (rdOf ByteArray.empty l0 0) 0 ((rdOf ByteArray.empty l0 0).size : Int) x33_2 = some (r1, r2, r3, r4, r5, r6, r7)) ∧ Aside0 (kq ≤ k) ∧ Aside0 (wc.heap[gb284]? = some (.cells #[.int .i64 0, .int .i64 0, .int .i64 0, .int .i64 0, .int .i64 0, .int .i64 0] 23 (0, 0))) ∧ Aside0 (Below w.heap.size w wc))
  case first =>
   have H := HC3.out
   clear HC3
   by_cases c5 : ((rdOf ByteArray.empty l0 0).size : Int) > 1
   ·rw [if_pos c5] at H
    have c5b0 : decide (1 < ((rdOf ByteArray.empty l0 0).size : Int)) = true := decide_eq_true c5
    have c5b1 : decide (1 < (rdOf ByteArray.empty l0 0).size) = true := decide_eq_true (by omega)
    clear c5
    (first | rw [c5b0] | (simp only [i64_w, i32_w]; rw [c5b0]) | skip)
    obtain ⟨ji6, hji6⟩ : ∃ j_ : Int, (wrap64 (((rdOf ByteArray.empty l0 0).size : Int) - 1)) = j_ := ⟨_, rfl⟩
    replace H : (if 0 ≤ (ji6) then (if (ji6) < ((rdOf ByteArray.empty l0 0).size : Int) then (if (bt (rdOf ByteArray.empty l0 0) (ji6)) ≥ 48 then (impl_readInsC.j0 k l0 (rdOf ByteArray.empty l0 0) 0 ((rdOf ByteArray.empty l0 0).size : Int) (decide ((bt (rdOf ByteArray.empty l0 0) (ji6)) ≤ 57))) else (impl_readInsC.j0 k l0 (rdOf ByteArray.empty l0 0) 0 ((rdOf ByteArray.empty l0 0).size : Int) false)) else (none)) else (none)) = some (r1, r2, r3, r4, r5, r6, r7) := by first | (rw [hji6] at H; exact H) | (simp only [hji6] at H ⊢; exact H)
    have hji6w : (IntKind.i64.wrap (((rdOf ByteArray.empty l0 0).size : Int) - 1)) = ji6 := (i64_w _).trans hji6
    by_cases c7 : 0 ≤ (ji6)
    ·rw [if_pos c7] at H
     have c7b0 : decide (0 ≤ (ji6)) = true := decide_eq_true c7
     clear c7
     by_cases c8 : (ji6) < ((rdOf ByteArray.empty l0 0).size : Int)
     ·rw [if_pos c8] at H
      have c8b0 : decide ((ji6) < ((rdOf ByteArray.empty l0 0).size : Int)) = true := decide_eq_true c8
      clear c8
      by_cases c10 : (bt (rdOf ByteArray.empty l0 0) (ji6)) ≥ 48
      ·rw [if_pos c10] at H
       have c10b0 : decide (48 ≤ (bt (rdOf ByteArray.empty l0 0) (ji6))) = true := decide_eq_true c10
       clear c10
       have H' := Aside0.mk H
       clear H
       have p9 : 0 ≤ ((ji6) : Int) := of_decide_eq_true (by first | (with_reducible assumption) | assumption)
       have q9 : (ji6) < ((rdOf ByteArray.empty l0 0).size : Int) := of_decide_eq_true (by first | (with_reducible assumption) | assumption)
       have hx9 := bt_at (rdOf ByteArray.empty l0 0) (ji6)
       replace p9 := eq_true p9
       replace q9 := eq_true q9
       have p11 : 0 ≤ ((ji6) : Int) := of_decide_eq_true (by first | (with_reducible assumption) | assumption)
       have q11 : (ji6) < ((rdOf ByteArray.empty l0 0).size : Int) := of_decide_eq_true (by first | (with_reducible assumption) | assumption)
       have hx11 := bt_at (rdOf ByteArray.empty l0 0) (ji6)
       replace p11 := eq_true p11
       replace q11 := eq_true q11
       go_wp2
       go_meet
       case rel => exact ⟨_, (decide ((bt (rdOf ByteArray.empty l0 0) (ji6)) ≤ 57)), (by first | rfl | (simp; done) | (simp only [← hji6] <;> (first | rfl | simp)) | (simp [*]; done)), H', ⟨by first | omega | exact Nat.le_refl _⟩, ⟨by exact bq BK284.out⟩, ⟨zB⟩⟩
      ·rw [if_neg c10] at H
       have c10b0 : decide (48 ≤ (bt (rdOf ByteArray.empty l0 0) (ji6))) = false := decide_eq_false c10
       clear c10
       have H' := Aside0.mk H
       clear H
       have p9 : 0 ≤ ((ji6) : Int) := of_decide_eq_true (by first | (with_reducible assumption) | assumption)
       have q9 : (ji6) < ((rdOf ByteArray.empty l0 0).size : Int) := of_decide_eq_true (by first | (with_reducible assumption) | assumption)
       have hx9 := bt_at (rdOf ByteArray.empty l0 0) (ji6)
       replace p9 := eq_true p9
       replace q9 := eq_true q9
       go_wp2
       go_meet
       case rel => exact ⟨_, (false), (by first | rfl | (simp; done) | (simp [*]; done)), H', ⟨by first | omega | exact Nat.le_refl _⟩, ⟨by exact bq BK284.out⟩, ⟨zB⟩⟩
     ·rw [if_neg c8] at H
      exact absurd H (by simp)
    ·rw [if_neg c7] at H
     exact absurd H (by simp)
   ·rw [if_neg c5] at H
    have c5b0 : decide (1 < ((rdOf ByteArray.empty l0 0).size : Int)) = false := decide_eq_false c5
    have c5b1 : decide (1 < (rdOf ByteArray.empty l0 0).size) = false := decide_eq_false (by omega)
    clear c5
    (first | rw [c5b0] | (simp only [i64_w, i32_w]; rw [c5b0]) | skip)
    have H' := Aside0.mk H
    clear H
    go_wp2
    go_meet
    case rel => exact ⟨_, (false), (by first | rfl | (simp; done) | (simp [*]; done)), H', ⟨by first | omega | exact Nat.le_refl _⟩, ⟨by exact bq BK284.out⟩, ⟨zB⟩⟩
  case rest =>
   clear HC3
   try clear c1
   try clear p1
   try clear q1
   try clear hx1
   try clear c2
   try clear c2b0
   try clear c2b1
   try clear p2
   try clear q2
   try clear hx2
   try clear qi2
   try clear c5
   try clear c5b0
   try clear c5b1
   try clear p6
   try clear c7
   try clear c7b0
   try clear c8
   try clear c8b0
   try clear p9 p9
   try clear q9 q9
   try clear hx9
   try clear c10
   try clear c10b0
   try clear p11 p11
   try clear q11 q11
   try clear hx11
   try clear hx285_0
   try clear p285
   try clear q285
   obtain ⟨kq, x33_2, rfl, HA, HJ2, BK284, HB⟩ := hcut
   cases kq with
   | zero => exact absurd HA.out (by simp [impl_readInsC.j0])
   | succ kj2 =>
    have H := HA.out
    clear HA
    simp only [impl_readInsC.j0] at H
    have HC12 := Aside0.mk H
    clear H
    go_upto_if 33 with (fail)
    go_cut [4, 5] (fun v4 v5 wc => ∃ (kq : Nat) (x4_11 : ByteArray) (x5_11 : Int), v4 = .string x4_11 ∧ v5 = .int .i64 x5_11 ∧ Aside0 (impl_readInsC.j1 kq l0 x4_11 x5_11 = some (r1, r2, r3, r4, r5, r6, r7)) ∧ Aside0 (kq ≤ kj2) ∧ Aside0 (wc.heap[gb284]? = some (.cells #[.int .i64 0, .int .i64 0, .int .i64 0, .int .i64 0, .int .i64 0, .int .i64 0] 23 (0, 0))) ∧ Aside0 (Below w.heap.size w wc))
    case first =>
     have H := HC12.out
     clear HC12
     by_cases c13 : x33_2 = true
     ·subst c13
      rw [if_pos rfl] at H
      obtain ⟨ji14, hji14⟩ : ∃ j_ : Int, (wrap64 (((rdOf ByteArray.empty l0 0).size : Int) - 1)) = j_ := ⟨_, rfl⟩
      replace H : (if 0 ≤ (ji14) then (if (ji14) < ((rdOf ByteArray.empty l0 0).size : Int) then (if (ji14) ≤ ((rdOf ByteArray.empty l0 0).size : Int) then (impl_readInsC.j1 kj2 l0 ((rdOf ByteArray.empty l0 0).extract 0 ((ji14) : Int).toNat) (((bt (rdOf ByteArray.empty l0 0) (ji14)) - 48) % 256)) else (none)) else (none)) else (none)) = some (r1, r2, r3, r4, r5, r6, r7) := by first | (rw [hji14] at H; exact H) | (simp only [hji14] at H ⊢; exact H)
      have hji14w : (IntKind.i64.wrap (((rdOf ByteArray.empty l0 0).size : Int) - 1)) = ji14 := (i64_w _).trans hji14
      by_cases c15 : 0 ≤ (ji14)
      ·rw [if_pos c15] at H
       have c15b0 : decide (0 ≤ (ji14)) = true := decide_eq_true c15
       clear c15
       (first | rw [c15b0] | (simp only [i64_w, i32_w]; rw [c15b0]) | skip)
       by_cases c16 : (ji14) < ((rdOf ByteArray.empty l0 0).size : Int)
       ·rw [if_pos c16] at H
        have c16b0 : decide ((ji14) < ((rdOf ByteArray.empty l0 0).size : Int)) = true := decide_eq_true c16
        clear c16
        have c18b0 := eq_true (of_decide_eq_true (by first | (with_reducible assumption) | assumption) : 0 ≤ (ji14))
        by_cases c19 : (ji14) ≤ ((rdOf ByteArray.empty l0 0).size : Int)
        ·rw [if_pos c19] at H
         have c19b0 := eq_true c19
         have c19b1 : decide ((ji14) ≤ ((rdOf ByteArray.empty l0 0).size : Int)) = true := decide_eq_true c19
         clear c19
         have H' := Aside0.mk H
         clear H
         have p17 : 0 ≤ ((ji14) : Int) := of_decide_eq_true (by first | (with_reducible assumption) | assumption)
         have q17 : (ji14) < ((rdOf ByteArray.empty l0 0).size : Int) := of_decide_eq_true (by first | (with_reducible assumption) | assumption)
         have hx17 := bt_at (rdOf ByteArray.empty l0 0) (ji14)
         replace p17 := eq_true p17
         replace q17 := eq_true q17
         go_wp2
         go_meet
         case rel => exact ⟨_, ((rdOf ByteArray.empty l0 0).extract 0 ((ji14) : Int).toNat), (((bt (rdOf ByteArray.empty l0 0) (ji14)) - 48) % 256), (by first | rfl | (simp; done) | (simp only [← hji14] <;> (first | rfl | simp)) | (simp [*]; done)), (by first | rfl | (simp; done) | (simp only [← hji14] <;> (first | rfl | simp)) | (simp [*]; done)), H', ⟨by have := HJ2.out; first | omega | exact Nat.le_refl _⟩, ⟨by exact bq BK284.out⟩, ⟨zB⟩⟩
        ·rw [if_neg c19] at H
         exact absurd H (by simp)
       ·rw [if_neg c16] at H
        exact absurd H (by simp)
      ·rw [if_neg c15] at H
       exact absurd H (by simp)
     ·replace c13 := Bool.eq_false_iff.mpr c13
      subst c13
      rw [if_neg (show ¬ (false = true) by decide)] at H
      have H' := Aside0.mk H
      clear H
      go_wp2
      go_meet
      case rel => exact ⟨_, ((rdOf ByteArray.empty l0 0)), (0), (by first | rfl | (simp; done) | (simp [*]; done)), (by first | rfl | (simp; done) | (simp [*]; done)), H', ⟨by have := HJ2.out; first | omega | exact Nat.le_refl _⟩, ⟨by exact bq BK284.out⟩, ⟨zB⟩⟩
    case rest =>
     clear HC12
     try clear c1
     try clear p1 p1
     try clear q1 q1
     try clear hx1
     try clear c2
     try clear c2b0
     try clear c2b1
     try clear p2 p2
     try clear q2 q2
     try clear hx2
     try clear qi2
     try clear c5
     try clear c5b0
     try clear c5b1
     try clear p6 p6
     try clear c7
     try clear c7b0
     try clear c8
     try clear c8b0
     try clear p9 p9
     try clear q9 q9
     try clear hx9
     try clear c10
     try clear c10b0
     try clear p11 p11
     try clear q11 q11
     try clear hx11
     try clear c13
     try clear c15
     try clear c15b0
     try clear c16
     try clear c16b0
     try clear p17 p17
     try clear q17 q17
     try clear hx17
     try clear c18
     try clear c18b0
     try clear c19
     try clear c19b0
     try clear c19b1
     try clear hx285_0
     try clear p285
     try clear q285
     obtain ⟨kq, x4_11, x5_11, rfl, rfl, HA, HJ11, BK284, HB⟩ := hcut
     cases kq with
     | zero => exact absurd HA.out (by simp [impl_readInsC.j1])
     | succ kj11 =>
      have H := HA.out
      clear HA
      simp only [impl_readInsC.j1] at H
      have AC_impl_opWords := Aside0.mk (show impl_opWords.f = some impl_opWords.L from rfl)
      obtain ⟨y286, hy286⟩ : ∃ y_ : List ByteArray, y_ = (impl_opWords.L) := ⟨_, rfl⟩
      replace H : ((slices_Index_string_string.f kj11 y286 x4_11).bind fun t289 => ((impl_kind_reckons.f (mx t289 0)).bind fun t291 => (if t291 = true then (impl_readInsC.j2 kj11 l0 (mx t289 0) (mx t289 0) (l0.length : Int) ((l0.length : Int) == 3) (mx t289 0) 0 (-1) 0 0 x5_11) else (impl_readInsC.j2 kj11 l0 (mx t289 0) (mx t289 0) (l0.length : Int) false (mx t289 0) 0 (-1) 0 0 x5_11)))) = some (r1, r2, r3, r4, r5, r6, r7) := by first | (rw [hy286]; with_reducible exact H) | (have H2_ := (Option.bind_some _ _).symm.trans H; rw [hy286]; with_reducible exact H2_) | (have H2_ := (Option.bind_some _ _).symm.trans H; with_reducible exact H2_) | with_reducible exact H | (rw [hy286]; exact H) | exact H
      have Ny286 := Aside0.mk hy286
      clear hy286
      replace H := Option.bind_eq_some_iff.mp H
      obtain ⟨t289, A200, H⟩ := H
      try dsimp only at H
      have A20 := Aside0.mk A200
      clear A200
      obtain ⟨ji21, hji21⟩ : ∃ j_ : Int, (mx t289 0) = j_ := ⟨_, rfl⟩
      replace H : ((impl_kind_reckons.f (ji21)).bind fun t291 => (if t291 = true then (impl_readInsC.j2 kj11 l0 ji21 ji21 (l0.length : Int) ((l0.length : Int) == 3) ji21 0 (-1) 0 0 x5_11) else (impl_readInsC.j2 kj11 l0 ji21 ji21 (l0.length : Int) false ji21 0 (-1) 0 0 x5_11))) = some (r1, r2, r3, r4, r5, r6, r7) := by first | (rw [hji21] at H; exact H) | (simp only [hji21] at H ⊢; exact H)
      (try rw [hji21] at AC_impl_opWords)
      (try rw [hji21] at A20)
      (try (have hji21l : 0 ≤ ji21 := by (rw [← hji21]; unfold mx; (repeat' split) <;> omega)))
      (try (have hji21m : 0 ≤ ji21 := by omega))
      have hji21_ : (if t289 < 0 then 0 else t289) = ji21 := hji21
      have HC22 := Aside0.mk H
      clear H
      go_upto_region 12 with (first | ((with_reducible refine gate_callee (f := 31) rfl ?_); refine gl 44 Tryd.func31 #[] ?_; (with_reducible refine (impl_opWords.calls  impl_opWords.L _ AC_impl_opWords.out).mono ?_); rintro e w23 ⟨rfl, hb⟩; refine ⟨_, rfl, ?_⟩; replace BK284 := zb BK284 hb rfl; replace HB := zS hb; try clear hb) | ((with_reducible refine gate_dst (N := 7) rfl ?_); refine impl_opWords.var _ rfl rfl rfl rfl rfl rfl (fun _ => rfl) (fun _ => rfl) (Below.refl _ _) (Nat.le_refl _) ?_; intro ga_v287; intro v287 w24 hsl_v287 ho25 hb hg_ hnew_; clear hg_ hnew_; (first | rw [← Ny286.out] at ho25 | (simp only [Int.reduceToNat] at ho25; rw [← Ny286.out] at ho25)); have HO288 := Aside0.mk (Kd.R_lower ho25 (below_size zB)); replace BK284 := zb BK284 hb rfl; replace HB := zS hb; clear hb ho25; obtain ⟨Ao26, co26, eo26⟩ := Kd.R_slice HO288.out; subst eo26) | ((with_reducible refine gate_callee (f := 32) rfl ?_); refine gl 47 Tryd.func32 #[.slice Ao26 y286.length co26, .string x4_11] ?_; (with_reducible refine (slices_Index_string_string.calls kj11 _ _ y286 x4_11 t289 _ ?side1 ?side2 A20.out).mono ?_); (case side1 => repeat (first | exact (Kd.R_reads' HO288.out).2.2 | (with_reducible refine Kd.C_alloc ?_ _) | (with_reducible refine Kd.C_drewN ?_ _) | (with_reducible refine Kd.C_drew ?_))); (case side2 => exact (Kd.R_reads' HO288.out).2.1); rintro e w' ⟨rfl, ⟨nd, rfl⟩⟩; refine ⟨_, rfl, ?_⟩; (try (rw [drewN_self w24]; generalize hq_ : World.drewN w24 _ = w24; have n0_ : Aside0 (Kd.R Kd.string 48 w24 w.heap.size (fun _ => True) (.slice Ao26 y286.length co26) y286) := ⟨by rw [← hq_]; exact (by (with_reducible repeat (first | apply Kd.R_alloc | apply Kd.R_drewN | apply Kd.R_drew)); exact HO288.out)⟩; have n1_ : Aside0 (w24.heap[gb284]? = some (.cells #[.int .i64 0, .int .i64 0, .int .i64 0, .int .i64 0, .int .i64 0, .int .i64 0] 23 (0, 0))) := ⟨by rw [← hq_]; exact (by exact bq BK284.out)⟩; have n2_ : Aside0 (Below w.heap.size w w24) := ⟨by rw [← hq_]; exact zB⟩; clear HO288 BK284 HB hq_; have HO288 := n0_; have BK284 := n1_; have HB := n2_; clear n0_ n1_ n2_))) | ((with_reducible refine gate_dst (N := 9) rfl ?_); refine be 9 #[.int .i64 0, .int .i64 0, .int .i64 0, .int .i64 0, .int .i64 0, .int .i64 0] 23 ?_; intro gb290 hg w27 hbox hb; replace HO288 := Aside0.mk (Kd.R_below (by (with_reducible repeat (first | apply Kd.R_alloc | apply Kd.R_drewN | apply Kd.R_drew)); exact HO288.out) hb); have BK290 := Aside0.mk hbox; have GW290 := zW hg; replace HB := zS hb; have GE290 := GW290; have NB284_290 := zl BK284 hg rfl; have NB290_284 := zg BK284 hg rfl; replace BK284 := zb BK284 hb rfl; clear hb hbox hg; have hnb28 := NB290_284.out; have hnc28 := NB284_290.out; obtain ⟨hcz29_0, hcz29_1, hcz29_2, hcz29_3, hcz29_4, hcz29_5, hfz29_0, hfz29_1, hfz29_2, hfz29_3, hfz29_4, hfz29_5⟩ := zc6 BK290))
      (try simp only [Act.put, List.setIfInBounds_toArray, List.set_cons_zero, List.set_cons_succ])
      go_cut [55] (fun v55 wc => ∃ (kq : Nat) (x55_21 : Bool), v55 = .bool x55_21 ∧ Aside0 (impl_readInsC.j2 kq l0 ji21 ji21 (l0.length : Int) x55_21 ji21 0 (-1) 0 0 x5_11 = some (r1, r2, r3, r4, r5, r6, r7)) ∧ Aside0 (kq ≤ kj11) ∧ Aside0 (wc.heap[gb284]? = some (.cells #[.int .i64 0, .int .i64 0, .int .i64 0, .int .i64 0, .int .i64 0, .int .i64 0] 23 (0, 0))) ∧ Aside0 (wc.heap[gb290]? = some (.cells #[.int .i64 ji21, .int .i64 0, .int .i64 (-1), .int .i64 0, .int .i64 0, .int .i64 x5_11] 23 (0, 0))) ∧ Aside0 (Below w.heap.size w wc))
      case first =>
       have H := HC22.out
       clear HC22
       replace H := Option.bind_eq_some_iff.mp H
       obtain ⟨t291, A300, H⟩ := H
       try dsimp only at H
       have A30 := Aside0.mk A300
       clear A300
       by_cases c31 : t291 = true
       ·subst c31
        rw [if_pos rfl] at H
        have H' := Aside0.mk H
        clear H
        go_wp2_with (first | ((with_reducible refine gate_callee (f := 33) rfl ?_); refine goesL_ (some 57) rfl rfl Tryd.func33 (by kernel_rfl) rfl #[.int .i64 ji21] rfl (by (try simp only [List.map_toArray, List.map_cons, List.map_nil]); first | done | (simp only [hji21]; rfl) | rfl | (simp only [List.length_drop, List.length_take]; rfl)) ?_; (with_reducible refine (impl_kind_reckons.calls ji21 true _ A30.out).mono ?_); rintro e w' ⟨rfl, ⟨nd, rfl⟩⟩; refine ⟨_, rfl, ?_⟩))
        go_meet
        case rel => exact ⟨_, (((l0.length : Int) == 3)), (by first | rfl | (simp; done) | (simp [*]; done)), H', ⟨by have := HJ2.out; have := HJ11.out; first | omega | exact Nat.le_refl _⟩, ⟨by refine fq ?_ NB284_290.out; refine fq ?_ NB284_290.out; refine fq ?_ NB284_290.out; refine fq ?_ NB284_290.out; refine fq ?_ NB284_290.out; refine fq ?_ NB284_290.out; exact bq BK284.out⟩, ⟨by refine bq ?_; refine blk_put (cs := #[.int .i64 ji21, .int .i64 0, .int .i64 (-1), .int .i64 0, .int .i64 0, .int .i64 0]) ?_ 5 _ rfl; refine bq ?_; refine blk_put (cs := #[.int .i64 ji21, .int .i64 0, .int .i64 (-1), .int .i64 0, .int .i64 0, .int .i64 0]) ?_ 4 _ rfl; refine bq ?_; refine blk_put (cs := #[.int .i64 ji21, .int .i64 0, .int .i64 (-1), .int .i64 0, .int .i64 0, .int .i64 0]) ?_ 3 _ rfl; refine bq ?_; refine blk_put (cs := #[.int .i64 ji21, .int .i64 0, .int .i64 0, .int .i64 0, .int .i64 0, .int .i64 0]) ?_ 2 _ rfl; refine bq ?_; refine blk_put (cs := #[.int .i64 ji21, .int .i64 0, .int .i64 0, .int .i64 0, .int .i64 0, .int .i64 0]) ?_ 1 _ rfl; refine bq ?_; refine blk_put (cs := #[.int .i64 0, .int .i64 0, .int .i64 0, .int .i64 0, .int .i64 0, .int .i64 0]) ?_ 0 _ rfl; exact bq BK290.out⟩, ⟨zB⟩⟩
       ·replace c31 := Bool.eq_false_iff.mpr c31
        subst c31
        rw [if_neg (show ¬ (false = true) by decide)] at H
        have H' := Aside0.mk H
        clear H
        go_wp2_with (first | ((with_reducible refine gate_callee (f := 33) rfl ?_); refine goesL_ (some 57) rfl rfl Tryd.func33 (by kernel_rfl) rfl #[.int .i64 ji21] rfl (by (try simp only [List.map_toArray, List.map_cons, List.map_nil]); first | done | (simp only [hji21]; rfl) | rfl | (simp only [List.length_drop, List.length_take]; rfl)) ?_; (with_reducible refine (impl_kind_reckons.calls ji21 false _ A30.out).mono ?_); rintro e w' ⟨rfl, ⟨nd, rfl⟩⟩; refine ⟨_, rfl, ?_⟩))
        go_meet
        case rel => exact ⟨_, (false), (by first | rfl | (simp; done) | (simp [*]; done)), H', ⟨by have := HJ2.out; have := HJ11.out; first | omega | exact Nat.le_refl _⟩, ⟨by refine fq ?_ NB284_290.out; refine fq ?_ NB284_290.out; refine fq ?_ NB284_290.out; refine fq ?_ NB284_290.out; refine fq ?_ NB284_290.out; refine fq ?_ NB284_290.out; exact bq BK284.out⟩, ⟨by refine bq ?_; refine blk_put (cs := #[.int .i64 ji21, .int .i64 0, .int .i64 (-1), .int .i64 0, .int .i64 0, .int .i64 0]) ?_ 5 _ rfl; refine bq ?_; refine blk_put (cs := #[.int .i64 ji21, .int .i64 0, .int .i64 (-1), .int .i64 0, .int .i64 0, .int .i64 0]) ?_ 4 _ rfl; refine bq ?_; refine blk_put (cs := #[.int .i64 ji21, .int .i64 0, .int .i64 (-1), .int .i64 0, .int .i64 0, .int .i64 0]) ?_ 3 _ rfl; refine bq ?_; refine blk_put (cs := #[.int .i64 ji21, .int .i64 0, .int .i64 0, .int .i64 0, .int .i64 0, .int .i64 0]) ?_ 2 _ rfl; refine bq ?_; refine blk_put (cs := #[.int .i64 ji21, .int .i64 0, .int .i64 0, .int .i64 0, .int .i64 0, .int .i64 0]) ?_ 1 _ rfl; refine bq ?_; refine blk_put (cs := #[.int .i64 0, .int .i64 0, .int .i64 0, .int .i64 0, .int .i64 0, .int .i64 0]) ?_ 0 _ rfl; exact bq BK290.out⟩, ⟨zB⟩⟩
      case rest =>
       clear HC22
       try clear c1
       try clear p1 p1
       try clear q1 q1
       try clear hx1
       try clear c2
       try clear c2b0
       try clear c2b1
       try clear p2 p2
       try clear q2 q2
       try clear hx2
       try clear qi2
       try clear c3
       try clear c5
       try clear c5b0
       try clear c5b1
       try clear p6 p6
       try clear c7
       try clear c7b0
       try clear c8
       try clear c8b0
       try clear p9 p9
       try clear q9 q9
       try clear hx9
       try clear c10
       try clear c10b0
       try clear p11 p11
       try clear q11 q11
       try clear hx11
       try clear c13
       try clear c15
       try clear c15b0
       try clear c16
       try clear c16b0
       try clear p17 p17
       try clear q17 q17
       try clear hx17
       try clear c18
       try clear c18b0
       try clear c19
       try clear c19b0
       try clear c19b1
       try clear c28
       try clear p28
       try clear q28
       try clear hx28
       try clear qi28
       try clear c31
       try clear hcz29_0 hcz29_1 hcz29_2 hcz29_3 hcz29_4 hcz29_5 hfz29_0 hfz29_1 hfz29_2 hfz29_3 hfz29_4 hfz29_5
       try clear hx285_0
       try clear p285
       try clear q285
       obtain ⟨kq, x55_21, rfl, HA, HJ21, BK284, BK290, HB⟩ := hcut
       cases kq with
       | zero => exact absurd HA.out (by simp [impl_readInsC.j2])
       | succ kj21 =>
        have H := HA.out
        clear HA
        simp only [impl_readInsC.j2] at H
        have HC32 := Aside0.mk H
        clear H
        go_upto_if 55 with (fail)
        go_cut [55] (fun v55 wc => ∃ (kq : Nat) (x55_31 : Bool), v55 = .bool x55_31 ∧ Aside0 (impl_readInsC.j3 kq l0 ji21 ji21 (l0.length : Int) x55_31 ji21 0 (-1) 0 0 x5_11 = some (r1, r2, r3, r4, r5, r6, r7)) ∧ Aside0 (kq ≤ kj21) ∧ Aside0 (wc.heap[gb284]? = some (.cells #[.int .i64 0, .int .i64 0, .int .i64 0, .int .i64 0, .int .i64 0, .int .i64 0] 23 (0, 0))) ∧ Aside0 (wc.heap[gb290]? = some (.cells #[.int .i64 ji21, .int .i64 0, .int .i64 (-1), .int .i64 0, .int .i64 0, .int .i64 x5_11] 23 (0, 0))) ∧ Aside0 (Below w.heap.size w wc))
        case first =>
         have H := HC32.out
         clear HC32
         by_cases c33 : x55_21 = true
         ·subst c33
          rw [if_pos rfl] at H
          have H' := Aside0.mk H
          clear H
          go_wp2
          go_meet
          case rel => exact ⟨_, (true), (by first | rfl | (simp; done) | (simp [*]; done)), H', ⟨by have := HJ2.out; have := HJ11.out; have := HJ21.out; first | omega | exact Nat.le_refl _⟩, ⟨by exact bq BK284.out⟩, ⟨by exact bq BK290.out⟩, ⟨zB⟩⟩
         ·replace c33 := Bool.eq_false_iff.mpr c33
          subst c33
          rw [if_neg (show ¬ (false = true) by decide)] at H
          replace H := Option.bind_eq_some_iff.mp H
          obtain ⟨t292, A340, H⟩ := H
          try dsimp only at H
          have A34 := Aside0.mk A340
          clear A340
          by_cases c35 : t292 = true
          ·subst c35
           rw [if_pos rfl] at H
           have H' := Aside0.mk H
           clear H
           go_wp2_with (first | ((with_reducible refine gate_callee (f := 34) rfl ?_); refine goesL_ (some 63) rfl rfl Tryd.func34 (by kernel_rfl) rfl #[.int .i64 ji21] rfl (by (try simp only [List.map_toArray, List.map_cons, List.map_nil]); first | done | (simp only [hji21]; rfl) | rfl | (simp only [List.length_drop, List.length_take]; rfl)) ?_; (with_reducible refine (impl_kind_asks.calls ji21 true _ A34.out).mono ?_); rintro e w' ⟨rfl, ⟨nd, rfl⟩⟩; refine ⟨_, rfl, ?_⟩))
           go_meet
           case rel => exact ⟨_, (((l0.length : Int) == 4)), (by first | rfl | (simp; done) | (simp [*]; done)), H', ⟨by have := HJ2.out; have := HJ11.out; have := HJ21.out; first | omega | exact Nat.le_refl _⟩, ⟨by exact bq BK284.out⟩, ⟨by exact bq BK290.out⟩, ⟨zB⟩⟩
          ·replace c35 := Bool.eq_false_iff.mpr c35
           subst c35
           rw [if_neg (show ¬ (false = true) by decide)] at H
           have H' := Aside0.mk H
           clear H
           go_wp2_with (first | ((with_reducible refine gate_callee (f := 34) rfl ?_); refine goesL_ (some 63) rfl rfl Tryd.func34 (by kernel_rfl) rfl #[.int .i64 ji21] rfl (by (try simp only [List.map_toArray, List.map_cons, List.map_nil]); first | done | (simp only [hji21]; rfl) | rfl | (simp only [List.length_drop, List.length_take]; rfl)) ?_; (with_reducible refine (impl_kind_asks.calls ji21 false _ A34.out).mono ?_); rintro e w' ⟨rfl, ⟨nd, rfl⟩⟩; refine ⟨_, rfl, ?_⟩))
           go_meet
           case rel => exact ⟨_, (false), (by first | rfl | (simp; done) | (simp [*]; done)), H', ⟨by have := HJ2.out; have := HJ11.out; have := HJ21.out; first | omega | exact Nat.le_refl _⟩, ⟨by exact bq BK284.out⟩, ⟨by exact bq BK290.out⟩, ⟨zB⟩⟩
        case rest =>
         clear HC32
         try clear c1
         try clear p1 p1
         try clear q1 q1
         try clear hx1
         try clear c2
         try clear c2b0
         try clear c2b1
         try clear p2 p2
         try clear q2 q2
         try clear hx2
         try clear qi2
         try clear c3
         try clear c5
         try clear c5b0
         try clear c5b1
         try clear p6 p6
         try clear c7
         try clear c7b0
         try clear c8
         try clear c8b0
         try clear p9 p9
         try clear q9 q9
         try clear hx9
         try clear c10
         try clear c10b0
         try clear p11 p11
         try clear q11 q11
         try clear hx11
         try clear c13
         try clear c15
         try clear c15b0
         try clear c16
         try clear c16b0
         try clear p17 p17
         try clear q17 q17
         try clear hx17
         try clear c18
         try clear c18b0
         try clear c19
         try clear c19b0
         try clear c19b1
         try clear c28
         try clear p28 p28
         try clear q28 q28
         try clear hx28
         try clear qi28
         try clear c31
         try clear c32
         try clear c33
         try clear c34
         try clear c35
         try clear hcz29_0 hcz29_1 hcz29_2 hcz29_3 hcz29_4 hcz29_5 hfz29_0 hfz29_1 hfz29_2 hfz29_3 hfz29_4 hfz29_5
         try clear hx285_0
         try clear p285
         try clear q285
         obtain ⟨kq, x55_31, rfl, HA, HJ31, BK284, BK290, HB⟩ := hcut
         cases kq with
         | zero => exact absurd HA.out (by simp [impl_readInsC.j3])
         | succ kj31 =>
          have H := HA.out
          clear HA
          simp only [impl_readInsC.j3] at H
          by_cases c36 : x55_31 = true
          ·subst c36
           rw [if_pos rfl] at H
           exact absurd H (by simp)
          ·replace c36 := Bool.eq_false_iff.mpr c36
           subst c36
           rw [if_neg (show ¬ (false = true) by decide)] at H
           have HC58 := Aside0.mk H
           clear H
           go_upto_region 18 with (fail)
           go_cut [84] (fun v84 wc => ∃ (kq : Nat) (x84_57 : Bool), v84 = .bool x84_57 ∧ Aside0 (impl_readInsC.j4 kq l0 ji21 (l0.length : Int) x84_57 ji21 0 (-1) 0 0 x5_11 = some (r1, r2, r3, r4, r5, r6, r7)) ∧ Aside0 (kq ≤ kj31) ∧ Aside0 (wc.heap[gb284]? = some (.cells #[.int .i64 0, .int .i64 0, .int .i64 0, .int .i64 0, .int .i64 0, .int .i64 0] 23 (0, 0))) ∧ Aside0 (wc.heap[gb290]? = some (.cells #[.int .i64 ji21, .int .i64 0, .int .i64 (-1), .int .i64 0, .int .i64 0, .int .i64 x5_11] 23 (0, 0))) ∧ Aside0 (Below w.heap.size w wc))
           case first =>
            have H := HC58.out
            clear HC58
            by_cases c59 : ji21 = 16
            ·rw [if_pos c59] at H
             have c59b0 : (ji21 == 16) = true := beq_iff_eq.mpr c59
             have c59b1 : (ji21 != 16) = false := bne_eq_false_iff_eq.mpr c59
             clear c59
             (first | rw [c59b0] | (simp only [i64_w, i32_w]; rw [c59b0]) | skip)
             have H' := Aside0.mk H
             clear H
             go_wp2
             go_meet
             case rel => exact ⟨_, (((l0.length : Int) == 2)), (by first | rfl | (simp; done) | (simp [*]; done)), H', ⟨by have := HJ2.out; have := HJ11.out; have := HJ21.out; have := HJ31.out; first | omega | exact Nat.le_refl _⟩, ⟨by exact bq BK284.out⟩, ⟨by exact bq BK290.out⟩, ⟨zB⟩⟩
            ·rw [if_neg c59] at H
             have c59b0 : (ji21 == 16) = false := beq_eq_false_iff_ne.mpr c59
             have c59b1 : (ji21 != 16) = true := bne_iff_ne.mpr c59
             (first | rw [c59b0] | (simp only [i64_w, i32_w]; rw [c59b0]) | skip)
             have H' := Aside0.mk H
             clear H
             go_wp2
             go_meet
             case rel => exact ⟨_, (false), (by first | rfl | (simp; done) | (simp [*]; done)), H', ⟨by have := HJ2.out; have := HJ11.out; have := HJ21.out; have := HJ31.out; first | omega | exact Nat.le_refl _⟩, ⟨by exact bq BK284.out⟩, ⟨by exact bq BK290.out⟩, ⟨zB⟩⟩
           case rest =>
            clear HC58
            try clear c1
            try clear p1 p1
            try clear q1 q1
            try clear hx1
            try clear c2
            try clear c2b0
            try clear c2b1
            try clear p2 p2
            try clear q2 q2
            try clear hx2
            try clear qi2
            try clear c3
            try clear p3
            try clear q3
            try clear hx3
            try clear qi3
            try clear c4
            try clear c5
            try clear c5b0
            try clear c5b1
            try clear p6 p6
            try clear c7
            try clear c7b0
            try clear c8
            try clear c8b0
            try clear p9 p9
            try clear q9 q9
            try clear hx9
            try clear c10
            try clear c10b0
            try clear p11 p11
            try clear q11 q11
            try clear hx11
            try clear c13
            try clear c15
            try clear c15b0
            try clear c16
            try clear c16b0
            try clear p17 p17
            try clear q17 q17
            try clear hx17
            try clear c18
            try clear c18b0
            try clear c19
            try clear c19b0
            try clear c19b1
            try clear c28
            try clear p28 p28
            try clear q28 q28
            try clear hx28
            try clear qi28
            try clear p29
            try clear q29
            try clear hx29
            try clear qi29
            try clear p30
            try clear q30
            try clear hx30
            try clear qi30
            try clear c31
            try clear c32
            try clear c33
            try clear c34
            try clear c35
            try clear c36
            try clear c37
            try clear c37b0
            try clear c37b1
            try clear c39
            try clear c39b0
            try clear c39b1
            try clear c42
            try clear c43
            try clear c43b0
            try clear c43b1
            try clear c46
            try clear c53
            try clear c59
            try clear c59b0
            try clear c59b1
            try clear hcz29_0 hcz29_1 hcz29_2 hcz29_3 hcz29_4 hcz29_5 hfz29_0 hfz29_1 hfz29_2 hfz29_3 hfz29_4 hfz29_5
            try clear hcz47_0 hcz47_1 hcz47_2 hcz47_3 hcz47_4 hcz47_5 hfz47_0 hfz47_1 hfz47_2 hfz47_3 hfz47_4 hfz47_5
            try clear hcz50_0 hcz50_1 hcz50_2 hcz50_3 hcz50_4 hcz50_5 hfz50_0 hfz50_1 hfz50_2 hfz50_3 hfz50_4 hfz50_5
            try clear hcz51_0 hcz51_1 hcz51_2 hcz51_3 hcz51_4 hcz51_5 hfz51_0 hfz51_1 hfz51_2 hfz51_3 hfz51_4 hfz51_5
            try clear hcz54_0 hcz54_1 hcz54_2 hcz54_3 hcz54_4 hcz54_5 hfz54_0 hfz54_1 hfz54_2 hfz54_3 hfz54_4 hfz54_5
            try clear hcz56_0 hcz56_1 hcz56_2 hcz56_3 hcz56_4 hcz56_5 hfz56_0 hfz56_1 hfz56_2 hfz56_3 hfz56_4 hfz56_5
            try clear hcz57_0 hcz57_1 hcz57_2 hcz57_3 hcz57_4 hcz57_5 hfz57_0 hfz57_1 hfz57_2 hfz57_3 hfz57_4 hfz57_5
            try clear hx285_0
            try clear hx293_0
            try clear hx295_0
            try clear hx303_0
            try clear p285
            try clear p293
            try clear p295
            try clear p303
            try clear q285
            try clear q293
            try clear q295
            try clear q303
            obtain ⟨kq, x84_57, rfl, HA, HJ57, BK284, BK290, HB⟩ := hcut
            cases kq with
            | zero => exact absurd HA.out (by simp [impl_readInsC.j4])
            | succ kj57 =>
             have H := HA.out
             clear HA
             simp only [impl_readInsC.j4] at H
             by_cases c60 : x84_57 = true
             ·subst c60
              rw [if_pos rfl] at H
              exact absurd H (by simp)
             ·replace c60 := Bool.eq_false_iff.mpr c60
              subst c60
              rw [if_neg (show ¬ (false = true) by decide)] at H
              have HC67 := Aside0.mk H
              clear H
              go_upto_region 20 with (fail)
              go_cut [96] (fun v96 wc => ∃ (kq : Nat) (x96_66 : Bool), v96 = .bool x96_66 ∧ Aside0 (impl_readInsC.j5 kq l0 ji21 (l0.length : Int) x96_66 ji21 0 (-1) 0 0 x5_11 = some (r1, r2, r3, r4, r5, r6, r7)) ∧ Aside0 (kq ≤ kj57) ∧ Aside0 (wc.heap[gb284]? = some (.cells #[.int .i64 0, .int .i64 0, .int .i64 0, .int .i64 0, .int .i64 0, .int .i64 0] 23 (0, 0))) ∧ Aside0 (wc.heap[gb290]? = some (.cells #[.int .i64 ji21, .int .i64 0, .int .i64 (-1), .int .i64 0, .int .i64 0, .int .i64 x5_11] 23 (0, 0))) ∧ Aside0 (Below w.heap.size w wc))
              case first =>
               have H := HC67.out
               clear HC67
               by_cases c68 : ji21 = 17
               ·rw [if_pos c68] at H
                have c68b0 : (ji21 == 17) = true := beq_iff_eq.mpr c68
                have c68b1 : (ji21 != 17) = false := bne_eq_false_iff_eq.mpr c68
                clear c68
                (first | rw [c68b0] | (simp only [i64_w, i32_w]; rw [c68b0]) | skip)
                have H' := Aside0.mk H
                clear H
                go_wp2
                go_meet
                case rel => exact ⟨_, (((l0.length : Int) == 4)), (by first | rfl | (simp; done) | (simp [*]; done)), H', ⟨by have := HJ2.out; have := HJ11.out; have := HJ21.out; have := HJ31.out; have := HJ57.out; first | omega | exact Nat.le_refl _⟩, ⟨by exact bq BK284.out⟩, ⟨by exact bq BK290.out⟩, ⟨zB⟩⟩
               ·rw [if_neg c68] at H
                have c68b0 : (ji21 == 17) = false := beq_eq_false_iff_ne.mpr c68
                have c68b1 : (ji21 != 17) = true := bne_iff_ne.mpr c68
                (first | rw [c68b0] | (simp only [i64_w, i32_w]; rw [c68b0]) | skip)
                have H' := Aside0.mk H
                clear H
                go_wp2
                go_meet
                case rel => exact ⟨_, (false), (by first | rfl | (simp; done) | (simp [*]; done)), H', ⟨by have := HJ2.out; have := HJ11.out; have := HJ21.out; have := HJ31.out; have := HJ57.out; first | omega | exact Nat.le_refl _⟩, ⟨by exact bq BK284.out⟩, ⟨by exact bq BK290.out⟩, ⟨zB⟩⟩
              case rest =>
               clear HC67
               try clear c1
               try clear p1 p1
               try clear q1 q1
               try clear hx1
               try clear c2
               try clear c2b0
               try clear c2b1
               try clear p2 p2
               try clear q2 q2
               try clear hx2
               try clear qi2
               try clear c3
               try clear p3 p3
               try clear q3 q3
               try clear hx3
               try clear qi3
               try clear c4
               try clear c5
               try clear c5b0
               try clear c5b1
               try clear c6
               try clear p6 p6
               try clear c7
               try clear c7b0
               try clear c8
               try clear c8b0
               try clear p9 p9
               try clear q9 q9
               try clear hx9
               try clear c10
               try clear c10b0
               try clear p11 p11
               try clear q11 q11
               try clear hx11
               try clear c13
               try clear c15
               try clear c15b0
               try clear c16
               try clear c16b0
               try clear p17 p17
               try clear q17 q17
               try clear hx17
               try clear c18
               try clear c18b0
               try clear c19
               try clear c19b0
               try clear c19b1
               try clear c28
               try clear p28 p28
               try clear q28 q28
               try clear hx28
               try clear qi28
               try clear p29 p29
               try clear q29 q29
               try clear hx29
               try clear qi29
               try clear p30 p30
               try clear q30 q30
               try clear hx30
               try clear qi30
               try clear c31
               try clear c32
               try clear c33
               try clear c34
               try clear c35
               try clear c36
               try clear c37
               try clear c37b0
               try clear c37b1
               try clear c39
               try clear c39b0
               try clear c39b1
               try clear c42
               try clear c43
               try clear c43b0
               try clear c43b1
               try clear c46
               try clear c53
               try clear c59
               try clear c59b0
               try clear c59b1
               try clear c60
               try clear c61
               try clear c61b0
               try clear c61b1
               try clear c64
               try clear c68
               try clear c68b0
               try clear c68b1
               try clear hcz29_0 hcz29_1 hcz29_2 hcz29_3 hcz29_4 hcz29_5 hfz29_0 hfz29_1 hfz29_2 hfz29_3 hfz29_4 hfz29_5
               try clear hcz47_0 hcz47_1 hcz47_2 hcz47_3 hcz47_4 hcz47_5 hfz47_0 hfz47_1 hfz47_2 hfz47_3 hfz47_4 hfz47_5
               try clear hcz50_0 hcz50_1 hcz50_2 hcz50_3 hcz50_4 hcz50_5 hfz50_0 hfz50_1 hfz50_2 hfz50_3 hfz50_4 hfz50_5
               try clear hcz51_0 hcz51_1 hcz51_2 hcz51_3 hcz51_4 hcz51_5 hfz51_0 hfz51_1 hfz51_2 hfz51_3 hfz51_4 hfz51_5
               try clear hcz54_0 hcz54_1 hcz54_2 hcz54_3 hcz54_4 hcz54_5 hfz54_0 hfz54_1 hfz54_2 hfz54_3 hfz54_4 hfz54_5
               try clear hcz56_0 hcz56_1 hcz56_2 hcz56_3 hcz56_4 hcz56_5 hfz56_0 hfz56_1 hfz56_2 hfz56_3 hfz56_4 hfz56_5
               try clear hcz57_0 hcz57_1 hcz57_2 hcz57_3 hcz57_4 hcz57_5 hfz57_0 hfz57_1 hfz57_2 hfz57_3 hfz57_4 hfz57_5
               try clear hcz65_0 hcz65_1 hcz65_2 hcz65_3 hcz65_4 hcz65_5 hfz65_0 hfz65_1 hfz65_2 hfz65_3 hfz65_4 hfz65_5
               try clear hcz66_0 hcz66_1 hcz66_2 hcz66_3 hcz66_4 hcz66_5 hfz66_0 hfz66_1 hfz66_2 hfz66_3 hfz66_4 hfz66_5
               try clear hx285_0
               try clear hx293_0
               try clear hx295_0
               try clear hx303_0
               try clear hx305_0
               try clear p285
               try clear p293
               try clear p295
               try clear p303
               try clear p305
               try clear q285
               try clear q293
               try clear q295
               try clear q303
               try clear q305
               obtain ⟨kq, x96_66, rfl, HA, HJ66, BK284, BK290, HB⟩ := hcut
               cases kq with
               | zero => exact absurd HA.out (by simp [impl_readInsC.j5])
               | succ kj66 =>
                have H := HA.out
                clear HA
                simp only [impl_readInsC.j5] at H
                by_cases c69 : x96_66 = true
                ·subst c69
                 rw [if_pos rfl] at H
                 exact absurd H (by simp)
                ·replace c69 := Bool.eq_false_iff.mpr c69
                 subst c69
                 rw [if_neg (show ¬ (false = true) by decide)] at H
                 have HC86 := Aside0.mk H
                 clear H
                 go_upto_region 22 with (fail)
                 go_cut [118] (fun v118 wc => ∃ (kq : Nat) (x118_85 : Bool), v118 = .bool x118_85 ∧ Aside0 (impl_readIns.j6 kq l0 ji21 (l0.length : Int) x118_85 ji21 0 (-1) 0 0 x5_11 = some (r1, r2, r3, r4, r5, r6, r7)) ∧ Aside0 (kq ≤ kj66) ∧ Aside0 (wc.heap[gb284]? = some (.cells #[.int .i64 0, .int .i64 0, .int .i64 0, .int .i64 0, .int .i64 0, .int .i64 0] 23 (0, 0))) ∧ Aside0 (wc.heap[gb290]? = some (.cells #[.int .i64 ji21, .int .i64 0, .int .i64 (-1), .int .i64 0, .int .i64 0, .int .i64 x5_11] 23 (0, 0))) ∧ Aside0 (Below w.heap.size w wc))
                 case first =>
                  have H := HC86.out
                  clear HC86
                  by_cases c87 : ji21 = 18
                  ·rw [if_pos c87] at H
                   have c87b0 : (ji21 == 18) = true := beq_iff_eq.mpr c87
                   have c87b1 : (ji21 != 18) = false := bne_eq_false_iff_eq.mpr c87
                   clear c87
                   (first | rw [c87b0] | (simp only [i64_w, i32_w]; rw [c87b0]) | skip)
                   have H' := Aside0.mk H
                   clear H
                   go_wp2
                   go_meet
                   case rel => exact ⟨_, (((l0.length : Int) == 4)), (by first | rfl | (simp; done) | (simp [*]; done)), H', ⟨by have := HJ2.out; have := HJ11.out; have := HJ21.out; have := HJ31.out; have := HJ57.out; have := HJ66.out; first | omega | exact Nat.le_refl _⟩, ⟨by exact bq BK284.out⟩, ⟨by exact bq BK290.out⟩, ⟨zB⟩⟩
                  ·rw [if_neg c87] at H
                   have c87b0 : (ji21 == 18) = false := beq_eq_false_iff_ne.mpr c87
                   have c87b1 : (ji21 != 18) = true := bne_iff_ne.mpr c87
                   (first | rw [c87b0] | (simp only [i64_w, i32_w]; rw [c87b0]) | skip)
                   have H' := Aside0.mk H
                   clear H
                   go_wp2
                   go_meet
                   case rel => exact ⟨_, (false), (by first | rfl | (simp; done) | (simp [*]; done)), H', ⟨by have := HJ2.out; have := HJ11.out; have := HJ21.out; have := HJ31.out; have := HJ57.out; have := HJ66.out; first | omega | exact Nat.le_refl _⟩, ⟨by exact bq BK284.out⟩, ⟨by exact bq BK290.out⟩, ⟨zB⟩⟩
                 case rest =>
                  clear HC86
                  try clear c1
                  try clear p1 p1
                  try clear q1 q1
                  try clear hx1
                  try clear c2
                  try clear p2 p2
                  try clear q2 q2
                  try clear hx2
                  try clear qi2
                  try clear c3
                  try clear p3 p3
                  try clear q3 q3
                  try clear hx3
                  try clear qi3
                  try clear c4
                  try clear c5
                  try clear c5b0
                  try clear c5b1
                  try clear c6
                  try clear p6 p6
                  try clear c7
                  try clear c7b0
                  try clear c8
                  try clear c8b0
                  try clear p9 p9
                  try clear q9 q9
                  try clear hx9
                  try clear c10
                  try clear c10b0
                  try clear p11 p11
                  try clear q11 q11
                  try clear hx11
                  try clear c13
                  try clear c15
                  try clear c15b0
                  try clear c16
                  try clear c16b0
                  try clear p17 p17
                  try clear q17 q17
                  try clear hx17
                  try clear c18
                  try clear c18b0
                  try clear c19
                  try clear c19b0
                  try clear c19b1
                  try clear c28
                  try clear p28 p28
                  try clear q28 q28
                  try clear hx28
                  try clear qi28
                  try clear p29 p29
                  try clear q29 q29
                  try clear hx29
                  try clear qi29
                  try clear p30 p30
                  try clear q30 q30
                  try clear hx30
                  try clear qi30
                  try clear c31
                  try clear p31
                  try clear q31
                  try clear hx31
                  try clear qi31
                  try clear c32
                  try clear c33
                  try clear c34
                  try clear c35
                  try clear c36
                  try clear c37
                  try clear c37b0
                  try clear c37b1
                  try clear c39
                  try clear c39b0
                  try clear c39b1
                  try clear c42
                  try clear c43
                  try clear c43b0
                  try clear c43b1
                  try clear c46
                  try clear c53
                  try clear c59
                  try clear c59b0
                  try clear c59b1
                  try clear c60
                  try clear c61
                  try clear c61b0
                  try clear c61b1
                  try clear c64
                  try clear c68
                  try clear c68b0
                  try clear c68b1
                  try clear c69
                  try clear c70
                  try clear c70b0
                  try clear c70b1
                  try clear c72
                  try clear c72b0
                  try clear c72b1
                  try clear c74
                  try clear c74b0
                  try clear c74b1
                  try clear c83
                  try clear c87
                  try clear c87b0
                  try clear c87b1
                  try clear hcz29_0 hcz29_1 hcz29_2 hcz29_3 hcz29_4 hcz29_5 hfz29_0 hfz29_1 hfz29_2 hfz29_3 hfz29_4 hfz29_5
                  try clear hcz47_0 hcz47_1 hcz47_2 hcz47_3 hcz47_4 hcz47_5 hfz47_0 hfz47_1 hfz47_2 hfz47_3 hfz47_4 hfz47_5
                  try clear hcz50_0 hcz50_1 hcz50_2 hcz50_3 hcz50_4 hcz50_5 hfz50_0 hfz50_1 hfz50_2 hfz50_3 hfz50_4 hfz50_5
                  try clear hcz51_0 hcz51_1 hcz51_2 hcz51_3 hcz51_4 hcz51_5 hfz51_0 hfz51_1 hfz51_2 hfz51_3 hfz51_4 hfz51_5
                  try clear hcz54_0 hcz54_1 hcz54_2 hcz54_3 hcz54_4 hcz54_5 hfz54_0 hfz54_1 hfz54_2 hfz54_3 hfz54_4 hfz54_5
                  try clear hcz56_0 hcz56_1 hcz56_2 hcz56_3 hcz56_4 hcz56_5 hfz56_0 hfz56_1 hfz56_2 hfz56_3 hfz56_4 hfz56_5
                  try clear hcz57_0 hcz57_1 hcz57_2 hcz57_3 hcz57_4 hcz57_5 hfz57_0 hfz57_1 hfz57_2 hfz57_3 hfz57_4 hfz57_5
                  try clear hcz65_0 hcz65_1 hcz65_2 hcz65_3 hcz65_4 hcz65_5 hfz65_0 hfz65_1 hfz65_2 hfz65_3 hfz65_4 hfz65_5
                  try clear hcz66_0 hcz66_1 hcz66_2 hcz66_3 hcz66_4 hcz66_5 hfz66_0 hfz66_1 hfz66_2 hfz66_3 hfz66_4 hfz66_5
                  try clear hcz84_0 hcz84_1 hcz84_2 hcz84_3 hcz84_4 hcz84_5 hfz84_0 hfz84_1 hfz84_2 hfz84_3 hfz84_4 hfz84_5
                  try clear hcz85_0 hcz85_1 hcz85_2 hcz85_3 hcz85_4 hcz85_5 hfz85_0 hfz85_1 hfz85_2 hfz85_3 hfz85_4 hfz85_5
                  try clear hx285_0
                  try clear hx293_0
                  try clear hx295_0
                  try clear hx303_0
                  try clear hx305_0
                  try clear hx307_0
                  try clear hx309_0
                  try clear hx311_0
                  try clear p285
                  try clear p293
                  try clear p295
                  try clear p303
                  try clear p305
                  try clear p307
                  try clear p309
                  try clear p311
                  try clear q285
                  try clear q293
                  try clear q295
                  try clear q303
                  try clear q305
                  try clear q307
                  try clear q309
                  try clear q311
                  obtain ⟨kq, x118_85, rfl, HA, HJ85, BK284, BK290, HB⟩ := hcut
                  cases kq with
                  | zero => exact absurd HA.out (by simp [impl_readIns.j6])
                  | succ kj85 =>
                   have H := HA.out
                   clear HA
                   simp only [impl_readIns.j6] at H
                   by_cases c88 : x118_85 = true
                   ·subst c88
                    rw [if_pos rfl] at H
                    by_cases c89 : 1 < (l0.length : Int)
                    ·rw [if_pos c89] at H
                     have c89b0 : decide (1 < (l0.length : Int)) = true := decide_eq_true c89
                     have c89b1 : decide (1 < l0.length) = true := decide_eq_true (by omega)
                     clear c89
                     replace H := Option.bind_eq_some_iff.mp H
                     obtain ⟨t314, A900, H⟩ := H
                     try dsimp only at H
                     have A90 := Aside0.mk A900
                     clear A900
                     by_cases c91 : 2 < (l0.length : Int)
                     ·rw [if_pos c91] at H
                      have c91b0 : decide (2 < (l0.length : Int)) = true := decide_eq_true c91
                      have c91b1 : decide (2 < l0.length) = true := decide_eq_true (by omega)
                      clear c91
                      replace H := Option.bind_eq_some_iff.mp H
                      obtain ⟨t316, A920, H⟩ := H
                      try dsimp only at H
                      have A92 := Aside0.mk A920
                      clear A920
                      by_cases c93 : 3 < (l0.length : Int)
                      ·rw [if_pos c93] at H
                       have c93b0 : decide (3 < (l0.length : Int)) = true := decide_eq_true c93
                       have c93b1 : decide (3 < l0.length) = true := decide_eq_true (by omega)
                       clear c93
                       replace H := Option.bind_eq_some_iff.mp H
                       obtain ⟨⟨t318, t319, t320, t321, t322, t323⟩, A940, H⟩ := H
                       try dsimp only at H
                       have A94 := Aside0.mk A940
                       clear A940
                       simp only [Option.some.injEq, Prod.mk.injEq] at H
                       obtain ⟨rfl, rfl, rfl, rfl, rfl, rfl, rfl⟩ := H
                       try go_wp2
                       replace BK284 := Aside0.mk (blk_drew BK284.out)
                       replace BK290 := Aside0.mk (blk_drew BK290.out)
                       replace HB := Aside0.mk (below_drew1 HB.out)
                       have p313 : 0 ≤ (1 : Int) := (by omega)
                       have q313 : 1 < (l0.length : Int) := of_decide_eq_true (by first | (with_reducible assumption) | assumption)
                       obtain ⟨ad313, e313, hx313_0⟩ := Kd.at_string HR0.out 1 p313 q313
                       have hw313_0 := hx313_0
                       (try rw [show ((1 : Int)).toNat = 1 from rfl] at hw313_0)
                       (try rw [show 1 * 1 = 1 from rfl] at hw313_0)
                       (try simp only [Nat.reduceMul, Nat.reduceEqDiff, Go.Addr.add, ↓reduceIte] at hw313_0)
                       obtain rfl : ad285 = ad313 := (by injection e313)
                       (try simp only [show (1 : Int).toNat = 1 from rfl, Nat.reduceMul, Nat.reduceEqDiff, Go.Addr.add, ↓reduceIte] at hx313_0)
                       have qi313 : (1 < l0.length) = True := eq_true (by omega)
                       (try rw [show ((1 : Int)).toNat = 1 from rfl] at hx313_0)
                       replace hx313_0 := (HB.out.cell (World.block_lt_of_cell? w _ hx313_0)).trans hx313_0
                       replace p313 := eq_true p313
                       replace q313 := eq_true q313
                       have p315 : 0 ≤ (2 : Int) := (by omega)
                       have q315 : 2 < (l0.length : Int) := of_decide_eq_true (by first | (with_reducible assumption) | assumption)
                       obtain ⟨ad315, e315, hx315_0⟩ := Kd.at_string HR0.out 2 p315 q315
                       have hw315_0 := hx315_0
                       (try rw [show ((2 : Int)).toNat = 2 from rfl] at hw315_0)
                       (try rw [show 2 * 1 = 2 from rfl] at hw315_0)
                       (try simp only [Nat.reduceMul, Nat.reduceEqDiff, Go.Addr.add, ↓reduceIte] at hw315_0)
                       obtain rfl : ad285 = ad315 := (by injection e315)
                       (try simp only [show (2 : Int).toNat = 2 from rfl, Nat.reduceMul, Nat.reduceEqDiff, Go.Addr.add, ↓reduceIte] at hx315_0)
                       have qi315 : (2 < l0.length) = True := eq_true (by omega)
                       (try rw [show ((2 : Int)).toNat = 2 from rfl] at hx315_0)
                       replace hx315_0 := (HB.out.cell (World.block_lt_of_cell? w _ hx315_0)).trans hx315_0
                       replace p315 := eq_true p315
                       replace q315 := eq_true q315
                       refine start_ (n := 12) (S := fun w' => w'.cell? ⟨ad285.block, ad285.off + 1, none⟩ = some (.string (rdOf ByteArray.empty l0 1)) ∧ w'.cell? ⟨ad285.block, ad285.off + 2, none⟩ = some (.string (rdOf ByteArray.empty l0 2))) (ds := []) #[false, false, false, false, false, false, false, false, false, false, false, false] (by kernel_rfl) rfl rfl ⟨((HB.out.cell (World.block_lt_of_cell? w _ hw313_0)).trans hw313_0), ((HB.out.cell (World.block_lt_of_cell? w _ hw315_0)).trans hw315_0)⟩ (fun hHeld => ?_); refine with_tabW impl_readIns.tab23 impl_readIns.bits23 (fun HT_ HW_ => ?_)
                       generalize wc.drew = w95 at BK284 BK290 HB hx313_0 hx315_0 hHeld ⊢
                       refine pz 0 125 ?_
                       refine pz 1 126 ?_
                       refine pz 4 129 ?_
                       refine pz 5 130 ?_
                       refine tz 2 127 ?_
                       refine tz 6 131 ?_
                       refine oz 3 128 fun K hK => ?_
                       refine gz Tryd.func35 #[.string (rdOf ByteArray.empty l0 1)] ?_
                       with_reducible refine (impl_readReg.calls (rdOf ByteArray.empty l0 1) t314 _ A90.out).mono ?_
                       rintro e w96 ⟨rfl, hb⟩
                       refine ⟨_, rfl, ?_⟩
                       replace BK284 := zb BK284 hb rfl
                       replace BK290 := zb BK290 hb rfl
                       replace HB := zS hb
                       try clear hb
                       refine hK.out _ _ ⟨((HB.out.cell (World.block_lt_of_cell? w _ hw313_0)).trans hw313_0), ((HB.out.cell (World.block_lt_of_cell? w _ hw315_0)).trans hw315_0)⟩ (fun hHeld => ?_)
                       clear hK K
                       refine nz ?_
                       refine oz 7 132 fun K hK => ?_
                       refine gz Tryd.func37 #[.string (rdOf ByteArray.empty l0 2)] ?_
                       with_reducible refine (impl_number.calls (rdOf ByteArray.empty l0 2) t316 _ A92.out).mono ?_
                       rintro e w97 ⟨rfl, hb⟩
                       refine ⟨_, rfl, ?_⟩
                       replace BK284 := zb BK284 hb rfl
                       replace BK290 := zb BK290 hb rfl
                       replace HB := zS hb
                       try clear hb
                       refine hK.out _ _ ⟨((HB.out.cell (World.block_lt_of_cell? w _ hw313_0)).trans hw313_0), ((HB.out.cell (World.block_lt_of_cell? w _ hw315_0)).trans hw315_0)⟩ (fun hHeld => ?_)
                       clear hK K
                       refine nz ?_
                       refine pz 8 133 ?_
                       refine oN 9 fun K hK => ?_
                       have hs98 : w97.cell? ⟨gb290, 1, none⟩ = some (.int .i64 0) := (blk_cell BK290.out 1).trans rfl
                       have hfs98 := blk_frozen BK290.out 1
                       have hns98_0 := NB284_290.out
                       have hms98_0 := NB290_284.out
                       refine skip_ (w1 := ?_) (by rfl) rfl ?_ ?_
                       rotate_left
                       ·go_simp
                        rfl
                       refine hK.out _ _ ⟨((cell_far (p := ⟨gb290, _, none⟩) (by first | exact Nat.ne_of_lt (Nat.lt_of_lt_of_le (by have := World.block_lt_of_cell? _ _ hw313_0; first | rwa [add_block] at this | exact this) GW290.out) | (rw [add_block]; exact Nat.ne_of_lt (Nat.lt_of_lt_of_le (by have := World.block_lt_of_cell? _ _ hw313_0; first | rwa [add_block] at this | exact this) GW290.out)) | (show (Addr.add _ _).block ≠ _; rw [add_block]; exact Nat.ne_of_lt (Nat.lt_of_lt_of_le (by have := World.block_lt_of_cell? _ _ hw313_0; first | rwa [add_block] at this | exact this) GW290.out)) | (dsimp only; exact Nat.ne_of_lt (Nat.lt_of_lt_of_le (by have := World.block_lt_of_cell? _ _ hw313_0; first | rwa [add_block] at this | exact this) GW290.out))) _).trans (hHeld.1)), ((cell_far (p := ⟨gb290, _, none⟩) (by first | exact Nat.ne_of_lt (Nat.lt_of_lt_of_le (by have := World.block_lt_of_cell? _ _ hw315_0; first | rwa [add_block] at this | exact this) GW290.out) | (rw [add_block]; exact Nat.ne_of_lt (Nat.lt_of_lt_of_le (by have := World.block_lt_of_cell? _ _ hw315_0; first | rwa [add_block] at this | exact this) GW290.out)) | (show (Addr.add _ _).block ≠ _; rw [add_block]; exact Nat.ne_of_lt (Nat.lt_of_lt_of_le (by have := World.block_lt_of_cell? _ _ hw315_0; first | rwa [add_block] at this | exact this) GW290.out)) | (dsimp only; exact Nat.ne_of_lt (Nat.lt_of_lt_of_le (by have := World.block_lt_of_cell? _ _ hw315_0; first | rwa [add_block] at this | exact this) GW290.out))) _).trans (hHeld.2))⟩ (fun hHeld => ?_)
                       clear hK K
                       refine pz 10 134 ?_
                       refine oN 11 fun K hK => ?_
                       have hs99 : w97.cell? ⟨gb290, 3, none⟩ = some (.int .i64 0) := (blk_cell BK290.out 3).trans rfl
                       have hfs99 := blk_frozen BK290.out 3
                       have hns99_0 := NB284_290.out
                       have hms99_0 := NB290_284.out
                       refine skip_ (w1 := ?_) (by rfl) rfl ?_ ?_
                       rotate_left
                       ·go_simp
                        rfl
                       refine hK.out _ _ ⟨((cell_far (p := ⟨gb290, _, none⟩) (by first | exact Nat.ne_of_lt (Nat.lt_of_lt_of_le (by have := World.block_lt_of_cell? _ _ hw313_0; first | rwa [add_block] at this | exact this) GW290.out) | (rw [add_block]; exact Nat.ne_of_lt (Nat.lt_of_lt_of_le (by have := World.block_lt_of_cell? _ _ hw313_0; first | rwa [add_block] at this | exact this) GW290.out)) | (show (Addr.add _ _).block ≠ _; rw [add_block]; exact Nat.ne_of_lt (Nat.lt_of_lt_of_le (by have := World.block_lt_of_cell? _ _ hw313_0; first | rwa [add_block] at this | exact this) GW290.out)) | (dsimp only; exact Nat.ne_of_lt (Nat.lt_of_lt_of_le (by have := World.block_lt_of_cell? _ _ hw313_0; first | rwa [add_block] at this | exact this) GW290.out))) _).trans (hHeld.1)), ((cell_far (p := ⟨gb290, _, none⟩) (by first | exact Nat.ne_of_lt (Nat.lt_of_lt_of_le (by have := World.block_lt_of_cell? _ _ hw315_0; first | rwa [add_block] at this | exact this) GW290.out) | (rw [add_block]; exact Nat.ne_of_lt (Nat.lt_of_lt_of_le (by have := World.block_lt_of_cell? _ _ hw315_0; first | rwa [add_block] at this | exact this) GW290.out)) | (show (Addr.add _ _).block ≠ _; rw [add_block]; exact Nat.ne_of_lt (Nat.lt_of_lt_of_le (by have := World.block_lt_of_cell? _ _ hw315_0; first | rwa [add_block] at this | exact this) GW290.out)) | (dsimp only; exact Nat.ne_of_lt (Nat.lt_of_lt_of_le (by have := World.block_lt_of_cell? _ _ hw315_0; first | rwa [add_block] at this | exact this) GW290.out))) _).trans (hHeld.2))⟩ (fun hHeld => ?_)
                       clear hK K
                       refine done_ (done_of HT_.out (by kernel_rfl)) ?_
                       have p317 : 0 ≤ (3 : Int) := (by omega)
                       have q317 : 3 < (l0.length : Int) := of_decide_eq_true (by first | (with_reducible assumption) | assumption)
                       obtain ⟨ad317, e317, hx317_0⟩ := Kd.at_string HR0.out 3 p317 q317
                       obtain rfl : ad285 = ad317 := (by injection e317)
                       (try simp only [show (3 : Int).toNat = 3 from rfl, Nat.reduceMul, Nat.reduceEqDiff, Go.Addr.add, ↓reduceIte] at hx317_0)
                       have qi317 : (3 < l0.length) = True := eq_true (by omega)
                       (try rw [show ((3 : Int)).toNat = 3 from rfl] at hx317_0)
                       have hn317_0 : ad285.block ≠ gb290 := Nat.ne_of_lt (Nat.lt_of_lt_of_le (by have := World.block_lt_of_cell? _ _ hx317_0; first | rwa [add_block] at this | exact this) GW290.out)
                       have hn317_1 : ad285.block ≠ gb290 := Nat.ne_of_lt (Nat.lt_of_lt_of_le (by have := World.block_lt_of_cell? _ _ hx317_0; first | rwa [add_block] at this | exact this) GW290.out)
                       replace hx317_0 := (HB.out.cell (World.block_lt_of_cell? w _ hx317_0)).trans hx317_0
                       replace hx317_0 := (cell_far (p := ⟨gb290, 1, none⟩) (by first | (rw [add_block]; exact hn317_0) | (show (Addr.add _ _).block ≠ _; rw [add_block]; exact hn317_0) | exact hn317_0) (.int .i64 t314)).trans hx317_0
                       replace hx317_0 := (cell_far (p := ⟨gb290, 3, none⟩) (by first | (rw [add_block]; exact hn317_1) | (show (Addr.add _ _).block ≠ _; rw [add_block]; exact hn317_1) | exact hn317_1) (.int .i64 t316)).trans hx317_0
                       clear hn317_0
                       clear hn317_1
                       replace p317 := eq_true p317
                       replace q317 := eq_true q317
                       try go_wp2_with (first | ((with_reducible refine gate_callee (f := 36) rfl ?_); refine gl 138 Tryd.func36 #[.pointer (some ⟨gb290, 0, none⟩), .string (rdOf ByteArray.empty l0 3)] ?_; (with_reducible refine (impl_Ins_setValue.calls gb290 ji21 t314 (-1) t316 0 x5_11 (rdOf ByteArray.empty l0 3) t318 t319 t320 t321 t322 t323 w _ ?side1 ?side2 A94.out).mono ?_); (case side1 => exact ⟨(by refine bq ?_; refine blk_put (cs := #[.int .i64 ji21, .int .i64 t314, .int .i64 (-1), .int .i64 0, .int .i64 0, .int .i64 x5_11]) ?_ 3 _ rfl; refine bq ?_; refine blk_put (cs := #[.int .i64 ji21, .int .i64 0, .int .i64 (-1), .int .i64 0, .int .i64 0, .int .i64 x5_11]) ?_ 1 _ rfl; exact bq BK290.out), GE290.out⟩); (case side2 => repeat (first | (with_reducible first | exact HB.out | apply below_alloc | apply pw_below_drewN | apply below_drew1 | refine below_set ?_ GE290.out | refine below_set ?_ GE284.out) | exact HB.out)); rintro e w100 ⟨rfl, hi, hb, hk⟩; refine ⟨_, rfl, ?_⟩; replace BK284 := Aside0.mk (KeepBut.blk hk (g' := gb284) (o := .cells #[.int .i64 0, .int .i64 0, .int .i64 0, .int .i64 0, .int .i64 0, .int .i64 0] 23 (0, 0)) (by refine fq ?_ NB284_290.out; refine fq ?_ NB284_290.out; exact bq BK284.out) NB284_290.out (by simp)); replace HB := Aside0.mk hb; replace BK290 := Aside0.mk (hi.1); (try clear hb); (try clear hb2); (try clear hk); (try clear hi); have hnb101 := NB290_284.out; have hnc101 := NB284_290.out; obtain ⟨hcz102_0, hcz102_1, hcz102_2, hcz102_3, hcz102_4, hcz102_5, hfz102_0, hfz102_1, hfz102_2, hfz102_3, hfz102_4, hfz102_5⟩ := zc6 BK290; obtain ⟨hcz103_0, hcz103_1, hcz103_2, hcz103_3, hcz103_4, hcz103_5, hfz103_0, hfz103_1, hfz103_2, hfz103_3, hfz103_4, hfz103_5⟩ := zc6 BK284))
                       refine bodyPost_ret (results_ct rfl _ _ gb284 23 #[.int .i64 t318, .int .i64 t319, .int .i64 t320, .int .i64 t321, .int .i64 t322, .int .i64 t323] (0, 0) _ rfl (by refine bq ?_; refine blk_put (cs := #[.int .i64 t318, .int .i64 t319, .int .i64 t320, .int .i64 t321, .int .i64 t322, .int .i64 0]) ?_ 5 _ rfl; refine bq ?_; refine blk_put (cs := #[.int .i64 t318, .int .i64 t319, .int .i64 t320, .int .i64 t321, .int .i64 0, .int .i64 0]) ?_ 4 _ rfl; refine bq ?_; refine blk_put (cs := #[.int .i64 t318, .int .i64 t319, .int .i64 t320, .int .i64 0, .int .i64 0, .int .i64 0]) ?_ 3 _ rfl; refine bq ?_; refine blk_put (cs := #[.int .i64 t318, .int .i64 t319, .int .i64 0, .int .i64 0, .int .i64 0, .int .i64 0]) ?_ 2 _ rfl; refine bq ?_; refine blk_put (cs := #[.int .i64 t318, .int .i64 0, .int .i64 0, .int .i64 0, .int .i64 0, .int .i64 0]) ?_ 1 _ rfl; refine bq ?_; refine blk_put (cs := #[.int .i64 0, .int .i64 0, .int .i64 0, .int .i64 0, .int .i64 0, .int .i64 0]) ?_ 0 _ rfl; exact bq BK284.out) Tryd.underlying23 rfl (by kernel_rfl)) rfl ?_
                       exact ⟨by first | rfl | (simp [errW_none, errW_some] <;> rfl) | (simp only [← hji21]; first | rfl | (simp [errW_none, errW_some] <;> rfl)) | (simp [*, errW_none, errW_some] <;> rfl), zB⟩
                      ·rw [if_neg c93] at H
                       exact absurd H (by simp)
                     ·rw [if_neg c91] at H
                      exact absurd H (by simp)
                    ·rw [if_neg c89] at H
                     exact absurd H (by simp)
                   ·replace c88 := Bool.eq_false_iff.mpr c88
                    subst c88
                    rw [if_neg (show ¬ (false = true) by decide)] at H
                    have HC104 := Aside0.mk H
                    clear H
                    go_upto_region 25 with (fail)
                    go_cut [139] (fun v139 wc => ∃ (kq : Nat) (x139_103 : Bool), v139 = .bool x139_103 ∧ Aside0 (impl_readIns.j7 kq l0 ji21 (l0.length : Int) x139_103 ji21 0 (-1) 0 0 x5_11 = some (r1, r2, r3, r4, r5, r6, r7)) ∧ Aside0 (kq ≤ kj85) ∧ Aside0 (wc.heap[gb284]? = some (.cells #[.int .i64 0, .int .i64 0, .int .i64 0, .int .i64 0, .int .i64 0, .int .i64 0] 23 (0, 0))) ∧ Aside0 (wc.heap[gb290]? = some (.cells #[.int .i64 ji21, .int .i64 0, .int .i64 (-1), .int .i64 0, .int .i64 0, .int .i64 x5_11] 23 (0, 0))) ∧ Aside0 (Below w.heap.size w wc))
                    case first =>
                     have H := HC104.out
                     clear HC104
                     by_cases c105 : ji21 = 19
                     ·rw [if_pos c105] at H
                      have c105b0 : (ji21 == 19) = true := beq_iff_eq.mpr c105
                      have c105b1 : (ji21 != 19) = false := bne_eq_false_iff_eq.mpr c105
                      clear c105
                      (first | rw [c105b0] | (simp only [i64_w, i32_w]; rw [c105b0]) | skip)
                      have H' := Aside0.mk H
                      clear H
                      go_wp2
                      go_meet
                      case rel => exact ⟨_, (((l0.length : Int) == 2)), (by first | rfl | (simp; done) | (simp [*]; done)), H', ⟨by have := HJ2.out; have := HJ11.out; have := HJ21.out; have := HJ31.out; have := HJ57.out; have := HJ66.out; have := HJ85.out; first | omega | exact Nat.le_refl _⟩, ⟨by exact bq BK284.out⟩, ⟨by exact bq BK290.out⟩, ⟨zB⟩⟩
                     ·rw [if_neg c105] at H
                      have c105b0 : (ji21 == 19) = false := beq_eq_false_iff_ne.mpr c105
                      have c105b1 : (ji21 != 19) = true := bne_iff_ne.mpr c105
                      (first | rw [c105b0] | (simp only [i64_w, i32_w]; rw [c105b0]) | skip)
                      have H' := Aside0.mk H
                      clear H
                      go_wp2
                      go_meet
                      case rel => exact ⟨_, (false), (by first | rfl | (simp; done) | (simp [*]; done)), H', ⟨by have := HJ2.out; have := HJ11.out; have := HJ21.out; have := HJ31.out; have := HJ57.out; have := HJ66.out; have := HJ85.out; first | omega | exact Nat.le_refl _⟩, ⟨by exact bq BK284.out⟩, ⟨by exact bq BK290.out⟩, ⟨zB⟩⟩
                    case rest =>
                     clear HC104
                     try clear c1
                     try clear p1 p1
                     try clear q1 q1
                     try clear hx1
                     try clear c2
                     try clear p2 p2
                     try clear q2 q2
                     try clear hx2
                     try clear qi2
                     try clear c3
                     try clear p3 p3
                     try clear q3 q3
                     try clear hx3
                     try clear qi3
                     try clear c4
                     try clear c5
                     try clear c5b0
                     try clear c5b1
                     try clear c6
                     try clear p6 p6
                     try clear c7
                     try clear c7b0
                     try clear c8
                     try clear c8b0
                     try clear c9
                     try clear p9 p9
                     try clear q9 q9
                     try clear hx9
                     try clear c10
                     try clear c10b0
                     try clear p11 p11
                     try clear q11 q11
                     try clear hx11
                     try clear c13
                     try clear c15
                     try clear c15b0
                     try clear c16
                     try clear c16b0
                     try clear p17 p17
                     try clear q17 q17
                     try clear hx17
                     try clear c18
                     try clear c18b0
                     try clear c19
                     try clear c19b0
                     try clear c19b1
                     try clear c28
                     try clear p28 p28
                     try clear q28 q28
                     try clear hx28
                     try clear qi28
                     try clear p29 p29
                     try clear q29 q29
                     try clear hx29
                     try clear qi29
                     try clear p30 p30
                     try clear q30 q30
                     try clear hx30
                     try clear qi30
                     try clear c31
                     try clear p31 p31
                     try clear q31 q31
                     try clear hx31
                     try clear qi31
                     try clear c32
                     try clear c33
                     try clear c34
                     try clear c35
                     try clear c36
                     try clear c37
                     try clear c37b0
                     try clear c37b1
                     try clear c39
                     try clear c39b0
                     try clear c39b1
                     try clear c42
                     try clear c43
                     try clear c43b0
                     try clear c43b1
                     try clear c46
                     try clear c53
                     try clear c59
                     try clear c59b0
                     try clear c59b1
                     try clear c60
                     try clear c61
                     try clear c61b0
                     try clear c61b1
                     try clear c64
                     try clear c68
                     try clear c68b0
                     try clear c68b1
                     try clear c69
                     try clear c70
                     try clear c70b0
                     try clear c70b1
                     try clear c72
                     try clear c72b0
                     try clear c72b1
                     try clear c74
                     try clear c74b0
                     try clear c74b1
                     try clear c83
                     try clear c87
                     try clear c87b0
                     try clear c87b1
                     try clear c88
                     try clear c89
                     try clear c89b0
                     try clear c89b1
                     try clear c91
                     try clear c91b0
                     try clear c91b1
                     try clear c93
                     try clear c93b0
                     try clear c93b1
                     try clear c101
                     try clear c105
                     try clear c105b0
                     try clear c105b1
                     try clear hcz102_0 hcz102_1 hcz102_2 hcz102_3 hcz102_4 hcz102_5 hfz102_0 hfz102_1 hfz102_2 hfz102_3 hfz102_4 hfz102_5
                     try clear hcz103_0 hcz103_1 hcz103_2 hcz103_3 hcz103_4 hcz103_5 hfz103_0 hfz103_1 hfz103_2 hfz103_3 hfz103_4 hfz103_5
                     try clear hcz29_0 hcz29_1 hcz29_2 hcz29_3 hcz29_4 hcz29_5 hfz29_0 hfz29_1 hfz29_2 hfz29_3 hfz29_4 hfz29_5
                     try clear hcz47_0 hcz47_1 hcz47_2 hcz47_3 hcz47_4 hcz47_5 hfz47_0 hfz47_1 hfz47_2 hfz47_3 hfz47_4 hfz47_5
                     try clear hcz50_0 hcz50_1 hcz50_2 hcz50_3 hcz50_4 hcz50_5 hfz50_0 hfz50_1 hfz50_2 hfz50_3 hfz50_4 hfz50_5
                     try clear hcz51_0 hcz51_1 hcz51_2 hcz51_3 hcz51_4 hcz51_5 hfz51_0 hfz51_1 hfz51_2 hfz51_3 hfz51_4 hfz51_5
                     try clear hcz54_0 hcz54_1 hcz54_2 hcz54_3 hcz54_4 hcz54_5 hfz54_0 hfz54_1 hfz54_2 hfz54_3 hfz54_4 hfz54_5
                     try clear hcz56_0 hcz56_1 hcz56_2 hcz56_3 hcz56_4 hcz56_5 hfz56_0 hfz56_1 hfz56_2 hfz56_3 hfz56_4 hfz56_5
                     try clear hcz57_0 hcz57_1 hcz57_2 hcz57_3 hcz57_4 hcz57_5 hfz57_0 hfz57_1 hfz57_2 hfz57_3 hfz57_4 hfz57_5
                     try clear hcz65_0 hcz65_1 hcz65_2 hcz65_3 hcz65_4 hcz65_5 hfz65_0 hfz65_1 hfz65_2 hfz65_3 hfz65_4 hfz65_5
                     try clear hcz66_0 hcz66_1 hcz66_2 hcz66_3 hcz66_4 hcz66_5 hfz66_0 hfz66_1 hfz66_2 hfz66_3 hfz66_4 hfz66_5
                     try clear hcz84_0 hcz84_1 hcz84_2 hcz84_3 hcz84_4 hcz84_5 hfz84_0 hfz84_1 hfz84_2 hfz84_3 hfz84_4 hfz84_5
                     try clear hcz85_0 hcz85_1 hcz85_2 hcz85_3 hcz85_4 hcz85_5 hfz85_0 hfz85_1 hfz85_2 hfz85_3 hfz85_4 hfz85_5
                     try clear hx285_0
                     try clear hx293_0
                     try clear hx295_0
                     try clear hx303_0
                     try clear hx305_0
                     try clear hx307_0
                     try clear hx309_0
                     try clear hx311_0
                     try clear hx313_0
                     try clear hx315_0
                     try clear hx317_0
                     try clear p285
                     try clear p293
                     try clear p295
                     try clear p303
                     try clear p305
                     try clear p307
                     try clear p309
                     try clear p311
                     try clear p313
                     try clear p315
                     try clear p317
                     try clear q285
                     try clear q293
                     try clear q295
                     try clear q303
                     try clear q305
                     try clear q307
                     try clear q309
                     try clear q311
                     try clear q313
                     try clear q315
                     try clear q317
                     obtain ⟨kq, x139_103, rfl, HA, HJ103, BK284, BK290, HB⟩ := hcut
                     cases kq with
                     | zero => exact absurd HA.out (by simp [impl_readIns.j7])
                     | succ kj103 =>
                      have H := HA.out
                      clear HA
                      simp only [impl_readIns.j7] at H
                      by_cases c106 : x139_103 = true
                      ·subst c106
                       rw [if_pos rfl] at H
                       have AC_impl_callWords := Aside0.mk (show impl_callWords.f = some impl_callWords.L from rfl)
                       obtain ⟨y324, hy324⟩ : ∃ y_ : List ByteArray, y_ = (impl_callWords.L) := ⟨_, rfl⟩
                       replace H : (if 1 < (l0.length : Int) then ((slices_Index_string_string.f kj103 y324 (rdOf ByteArray.empty l0 1)).bind fun t328 => (some (ji21, 0, (-1), 0, mx t328 0, x5_11, true))) else (none)) = some (r1, r2, r3, r4, r5, r6, r7) := by first | (rw [hy324]; with_reducible exact H) | (have H2_ := (Option.bind_some _ _).symm.trans H; rw [hy324]; with_reducible exact H2_) | (have H2_ := (Option.bind_some _ _).symm.trans H; with_reducible exact H2_) | with_reducible exact H | (rw [hy324]; exact H) | exact H
                       have Ny324 := Aside0.mk hy324
                       clear hy324
                       by_cases c107 : 1 < (l0.length : Int)
                       ·rw [if_pos c107] at H
                        have c107b0 : decide (1 < (l0.length : Int)) = true := decide_eq_true c107
                        have c107b1 : decide (1 < l0.length) = true := decide_eq_true (by omega)
                        clear c107
                        replace H := Option.bind_eq_some_iff.mp H
                        obtain ⟨t328, A1080, H⟩ := H
                        try dsimp only at H
                        have A108 := Aside0.mk A1080
                        clear A1080
                        obtain ⟨ji109, hji109⟩ : ∃ j_ : Int, (mx t328 0) = j_ := ⟨_, rfl⟩
                        replace H : (some (ji21, 0, (-1), 0, ji109, x5_11, true)) = some (r1, r2, r3, r4, r5, r6, r7) := by first | (rw [hji109] at H; exact H) | (simp only [hji109] at H ⊢; exact H)
                        (try rw [hji109] at AC_impl_callWords)
                        (try rw [hji109] at A108)
                        (try (have hji109l : 0 ≤ ji109 := by (rw [← hji109]; unfold mx; (repeat' split) <;> omega)))
                        (try (have hji109m : 0 ≤ ji109 := by omega))
                        have hji109_ : (if t328 < 0 then 0 else t328) = ji109 := hji109
                        simp only [Option.some.injEq, Prod.mk.injEq] at H
                        obtain ⟨rfl, rfl, rfl, rfl, rfl, rfl, rfl⟩ := H
                        try go_wp2_with (first | ((with_reducible refine gate_callee (f := 38) rfl ?_); refine gl 146 Tryd.func38 #[] ?_; (with_reducible refine (impl_callWords.calls  impl_callWords.L _ AC_impl_callWords.out).mono ?_); rintro e w110 ⟨rfl, hb⟩; refine ⟨_, rfl, ?_⟩; replace BK284 := zb BK284 hb rfl; replace BK290 := zb BK290 hb rfl; replace HB := zS hb; try clear hb) | ((with_reducible refine gate_dst (N := 12) rfl ?_); refine impl_callWords.var _ rfl rfl rfl rfl rfl rfl (fun _ => rfl) (fun _ => rfl) (Below.refl _ _) (Nat.le_refl _) ?_; intro ga_v325; intro v325 w111 hsl_v325 ho112 hb hg_ hnew_; clear hg_ hnew_; (first | rw [← Ny324.out] at ho112 | (simp only [Int.reduceToNat] at ho112; rw [← Ny324.out] at ho112)); have HO326 := Aside0.mk (Kd.R_lower ho112 (below_size zB)); replace BK284 := zb BK284 hb rfl; replace BK290 := zb BK290 hb rfl; replace HB := zS hb; clear hb ho112))
                        replace HO326 := Aside0.mk (Kd.R_drew HO326.out)
                        replace BK284 := Aside0.mk (blk_drew BK284.out)
                        replace BK290 := Aside0.mk (blk_drew BK290.out)
                        replace HB := Aside0.mk (below_drew1 HB.out)
                        have p327 : 0 ≤ (1 : Int) := (by omega)
                        have q327 : 1 < (l0.length : Int) := of_decide_eq_true (by first | (with_reducible assumption) | assumption)
                        obtain ⟨ad327, e327, hx327_0⟩ := Kd.at_string HR0.out 1 p327 q327
                        have hw327_0 := hx327_0
                        (try rw [show ((1 : Int)).toNat = 1 from rfl] at hw327_0)
                        (try rw [show 1 * 1 = 1 from rfl] at hw327_0)
                        (try simp only [Nat.reduceMul, Nat.reduceEqDiff, Go.Addr.add, ↓reduceIte] at hw327_0)
                        obtain rfl : ad285 = ad327 := (by injection e327)
                        (try simp only [show (1 : Int).toNat = 1 from rfl, Nat.reduceMul, Nat.reduceEqDiff, Go.Addr.add, ↓reduceIte] at hx327_0)
                        have qi327 : (1 < l0.length) = True := eq_true (by omega)
                        (try rw [show ((1 : Int)).toNat = 1 from rfl] at hx327_0)
                        replace hx327_0 := (HB.out.cell (World.block_lt_of_cell? w _ hx327_0)).trans hx327_0
                        replace p327 := eq_true p327
                        replace q327 := eq_true q327
                        obtain ⟨Ao114, co114, eo114⟩ := Kd.R_slice HO326.out
                        (first | subst eo114 | (injection eo114 with f1_ f2_ f3_; have f4_ := f1_.symm; have f5_ := f3_.symm; clear f1_ f2_ f3_; subst f4_; subst f5_))
                        refine start_ (n := 8) (S := fun w' => w'.cell? ⟨ad285.block, ad285.off + 1, none⟩ = some (.string (rdOf ByteArray.empty l0 1))) (ds := []) #[false, false, false, false, false, false, false, false] (by kernel_rfl) rfl rfl (((HB.out.cell (World.block_lt_of_cell? w _ hw327_0)).trans hw327_0)) (fun hHeld => ?_); refine with_tabW impl_readIns.tab27 impl_readIns.bits27 (fun HT_ HW_ => ?_)
                        generalize w111.drew = w113 at HO326 BK284 BK290 HB hx327_0 hHeld ⊢
                        refine pz 0 147 ?_
                        refine pz 1 148 ?_
                        refine pz 2 149 ?_
                        refine take_ (i := 3) (N := some 150) (v := ?_) (a' := ?_) #[true, true, true, true, false, false, false, false] rfl rfl (take_ofW HT_.out HW_.out (by kernel_rfl)) (fun _ _ _ h => h) (Or.inl ⟨by rfl, ?_⟩) hHeld ?_ ?_
                        rotate_left
                        ·intro w' s0
                         go_simp
                         with_reducible rfl
                        rotate_left
                        ·simp only [Act.put, List.setIfInBounds_toArray, List.set_cons_zero, List.set_cons_succ, i64_w, i32_w]
                         rfl
                        refine oz 4 151 fun K hK => ?_
                        refine gz Tryd.func32 #[.slice Ao114 y324.length co114, .string (rdOf ByteArray.empty l0 1)] ?_
                        with_reducible refine (slices_Index_string_string.calls kj103 _ _ y324 (rdOf ByteArray.empty l0 1) t328 _ ?side1 ?side2 A108.out).mono ?_
                        (case side1 => repeat (first | exact (Kd.R_reads' HO326.out).2.2 | (with_reducible refine Kd.C_alloc ?_ _) | (with_reducible refine Kd.C_drewN ?_ _) | (with_reducible refine Kd.C_drew ?_)))
                        (case side2 => exact (Kd.R_reads' HO326.out).2.1)
                        rintro e w' ⟨rfl, ⟨nd, rfl⟩⟩
                        refine ⟨_, rfl, ?_⟩
                        refine hK.out _ _ (((HB.out.cell (World.block_lt_of_cell? w _ hw327_0)).trans hw327_0)) (fun hHeld => ?_)
                        clear hK K
                        refine nz ?_
                        refine pz 5 152 ?_
                        refine pz 6 153 ?_
                        refine oN 7 fun K hK => ?_
                        have hs115 : w113.cell? ⟨gb290, 4, none⟩ = some (.int .i64 0) := (blk_cell BK290.out 4).trans rfl
                        have hfs115 := blk_frozen BK290.out 4
                        have hns115_0 := NB284_290.out
                        have hms115_0 := NB290_284.out
                        refine skip_ (w1 := ?_) (by rfl) rfl ?_ ?_
                        rotate_left
                        ·go_simp
                         rfl
                        refine hK.out _ _ (((cell_far (p := ⟨gb290, _, none⟩) (by first | exact Nat.ne_of_lt (Nat.lt_of_lt_of_le (by have := World.block_lt_of_cell? _ _ hw327_0; first | rwa [add_block] at this | exact this) GW290.out) | (rw [add_block]; exact Nat.ne_of_lt (Nat.lt_of_lt_of_le (by have := World.block_lt_of_cell? _ _ hw327_0; first | rwa [add_block] at this | exact this) GW290.out)) | (show (Addr.add _ _).block ≠ _; rw [add_block]; exact Nat.ne_of_lt (Nat.lt_of_lt_of_le (by have := World.block_lt_of_cell? _ _ hw327_0; first | rwa [add_block] at this | exact this) GW290.out)) | (dsimp only; exact Nat.ne_of_lt (Nat.lt_of_lt_of_le (by have := World.block_lt_of_cell? _ _ hw327_0; first | rwa [add_block] at this | exact this) GW290.out))) _).trans (hHeld))) (fun hHeld => ?_)
                        clear hK K
                        refine done_ (done_of HT_.out (by kernel_rfl)) ?_
                        have hnb116 := NB290_284.out
                        have hnc116 := NB284_290.out
                        obtain ⟨hcz117_0, hcz117_1, hcz117_2, hcz117_3, hcz117_4, hcz117_5, hfz117_0, hfz117_1, hfz117_2, hfz117_3, hfz117_4, hfz117_5⟩ := zc6 BK290
                        obtain ⟨hcz118_0, hcz118_1, hcz118_2, hcz118_3, hcz118_4, hcz118_5, hfz118_0, hfz118_1, hfz118_2, hfz118_3, hfz118_4, hfz118_5⟩ := zc6 BK284
                        try go_wp2
                        refine bodyPost_ret (results_ct rfl _ _ gb284 23 #[.int .i64 ji21, .int .i64 0, .int .i64 (-1), .int .i64 0, .int .i64 ji109, .int .i64 x5_11] (0, 0) _ rfl (by refine bq ?_; refine blk_put (cs := #[.int .i64 ji21, .int .i64 0, .int .i64 (-1), .int .i64 0, .int .i64 ji109, .int .i64 0]) ?_ 5 _ rfl; refine bq ?_; refine blk_put (cs := #[.int .i64 ji21, .int .i64 0, .int .i64 (-1), .int .i64 0, .int .i64 0, .int .i64 0]) ?_ 4 _ rfl; refine bq ?_; refine blk_put (cs := #[.int .i64 ji21, .int .i64 0, .int .i64 (-1), .int .i64 0, .int .i64 0, .int .i64 0]) ?_ 3 _ rfl; refine bq ?_; refine blk_put (cs := #[.int .i64 ji21, .int .i64 0, .int .i64 0, .int .i64 0, .int .i64 0, .int .i64 0]) ?_ 2 _ rfl; refine bq ?_; refine blk_put (cs := #[.int .i64 ji21, .int .i64 0, .int .i64 0, .int .i64 0, .int .i64 0, .int .i64 0]) ?_ 1 _ rfl; refine bq ?_; refine blk_put (cs := #[.int .i64 0, .int .i64 0, .int .i64 0, .int .i64 0, .int .i64 0, .int .i64 0]) ?_ 0 _ rfl; refine fq ?_ NB284_290.out; exact bq BK284.out) Tryd.underlying23 rfl (by kernel_rfl)) rfl ?_
                        exact ⟨by first | rfl | (simp [errW_none, errW_some] <;> rfl) | (simp only [← hji21, ← hji109]; first | rfl | (simp [errW_none, errW_some] <;> rfl)) | (simp [*, errW_none, errW_some] <;> rfl), zB⟩
                       ·rw [if_neg c107] at H
                        exact absurd H (by simp)
                      ·replace c106 := Bool.eq_false_iff.mpr c106
                       subst c106
                       rw [if_neg (show ¬ (false = true) by decide)] at H
                       by_cases c119 : ji21 = 20
                       ·rw [if_pos c119] at H
                        have c119b0 : (ji21 == 20) = true := beq_iff_eq.mpr c119
                        have c119b1 : (ji21 != 20) = false := bne_eq_false_iff_eq.mpr c119
                        clear c119
                        by_cases c120 : (l0.length : Int) = 1
                        ·rw [if_pos c120] at H
                         have c120b0 : ((l0.length : Int) == 1) = true := beq_iff_eq.mpr c120
                         have c120b1 : ((l0.length : Int) != 1) = false := bne_eq_false_iff_eq.mpr c120
                         clear c120
                         simp only [Option.some.injEq, Prod.mk.injEq] at H
                         obtain ⟨rfl, rfl, rfl, rfl, rfl, rfl, rfl⟩ := H
                         have hnb121 := NB290_284.out
                         have hnc121 := NB284_290.out
                         obtain ⟨hcz122_0, hcz122_1, hcz122_2, hcz122_3, hcz122_4, hcz122_5, hfz122_0, hfz122_1, hfz122_2, hfz122_3, hfz122_4, hfz122_5⟩ := zc6 BK290
                         obtain ⟨hcz123_0, hcz123_1, hcz123_2, hcz123_3, hcz123_4, hcz123_5, hfz123_0, hfz123_1, hfz123_2, hfz123_3, hfz123_4, hfz123_5⟩ := zc6 BK284
                         go_wp2
                         refine bodyPost_ret (results_ct rfl _ _ gb284 23 #[.int .i64 ji21, .int .i64 0, .int .i64 (-1), .int .i64 0, .int .i64 0, .int .i64 x5_11] (0, 0) _ rfl (by refine bq ?_; refine blk_put (cs := #[.int .i64 ji21, .int .i64 0, .int .i64 (-1), .int .i64 0, .int .i64 0, .int .i64 0]) ?_ 5 _ rfl; refine bq ?_; refine blk_put (cs := #[.int .i64 ji21, .int .i64 0, .int .i64 (-1), .int .i64 0, .int .i64 0, .int .i64 0]) ?_ 4 _ rfl; refine bq ?_; refine blk_put (cs := #[.int .i64 ji21, .int .i64 0, .int .i64 (-1), .int .i64 0, .int .i64 0, .int .i64 0]) ?_ 3 _ rfl; refine bq ?_; refine blk_put (cs := #[.int .i64 ji21, .int .i64 0, .int .i64 0, .int .i64 0, .int .i64 0, .int .i64 0]) ?_ 2 _ rfl; refine bq ?_; refine blk_put (cs := #[.int .i64 ji21, .int .i64 0, .int .i64 0, .int .i64 0, .int .i64 0, .int .i64 0]) ?_ 1 _ rfl; refine bq ?_; refine blk_put (cs := #[.int .i64 0, .int .i64 0, .int .i64 0, .int .i64 0, .int .i64 0, .int .i64 0]) ?_ 0 _ rfl; exact bq BK284.out) Tryd.underlying23 rfl (by kernel_rfl)) rfl ?_
                         exact ⟨by first | rfl | (simp [errW_none, errW_some] <;> rfl) | (simp only [← hji21]; first | rfl | (simp [errW_none, errW_some] <;> rfl)) | (simp [*, errW_none, errW_some] <;> rfl), zB⟩
                        ·rw [if_neg c120] at H
                         have c120b0 : ((l0.length : Int) == 1) = false := beq_eq_false_iff_ne.mpr c120
                         have c120b1 : ((l0.length : Int) != 1) = true := bne_iff_ne.mpr c120
                         simp only [Option.some.injEq, Prod.mk.injEq] at H
                         obtain ⟨rfl, rfl, rfl, rfl, rfl, rfl, rfl⟩ := H
                         have hnb124 := NB284_290.out
                         have hnc124 := NB290_284.out
                         obtain ⟨hcz125_0, hcz125_1, hcz125_2, hcz125_3, hcz125_4, hcz125_5, hfz125_0, hfz125_1, hfz125_2, hfz125_3, hfz125_4, hfz125_5⟩ := zc6 BK284
                         go_wp2
                         refine bodyPost_ret (results_ct rfl _ _ gb284 23 #[.int .i64 0, .int .i64 0, .int .i64 0, .int .i64 0, .int .i64 0, .int .i64 0] (0, 0) _ rfl (by refine bq ?_; refine blk_put (cs := #[.int .i64 0, .int .i64 0, .int .i64 0, .int .i64 0, .int .i64 0, .int .i64 0]) ?_ 5 _ rfl; refine bq ?_; refine blk_put (cs := #[.int .i64 0, .int .i64 0, .int .i64 0, .int .i64 0, .int .i64 0, .int .i64 0]) ?_ 4 _ rfl; refine bq ?_; refine blk_put (cs := #[.int .i64 0, .int .i64 0, .int .i64 0, .int .i64 0, .int .i64 0, .int .i64 0]) ?_ 3 _ rfl; refine bq ?_; refine blk_put (cs := #[.int .i64 0, .int .i64 0, .int .i64 0, .int .i64 0, .int .i64 0, .int .i64 0]) ?_ 2 _ rfl; refine bq ?_; refine blk_put (cs := #[.int .i64 0, .int .i64 0, .int .i64 0, .int .i64 0, .int .i64 0, .int .i64 0]) ?_ 1 _ rfl; refine bq ?_; refine blk_put (cs := #[.int .i64 0, .int .i64 0, .int .i64 0, .int .i64 0, .int .i64 0, .int .i64 0]) ?_ 0 _ rfl; exact bq BK284.out) Tryd.underlying23 rfl (by kernel_rfl)) rfl ?_
                         exact ⟨by first | rfl | (simp [errW_none, errW_some] <;> rfl) | (simp only [← hji21]; first | rfl | (simp [errW_none, errW_some] <;> rfl)) | (simp [*, errW_none, errW_some] <;> rfl), zB⟩
                       ·rw [if_neg c119] at H
                        have c119b0 : (ji21 == 20) = false := beq_eq_false_iff_ne.mpr c119
                        have c119b1 : (ji21 != 20) = true := bne_iff_ne.mpr c119
                        simp only [Option.some.injEq, Prod.mk.injEq] at H
                        obtain ⟨rfl, rfl, rfl, rfl, rfl, rfl, rfl⟩ := H
                        have hnb126 := NB284_290.out
                        have hnc126 := NB290_284.out
                        obtain ⟨hcz127_0, hcz127_1, hcz127_2, hcz127_3, hcz127_4, hcz127_5, hfz127_0, hfz127_1, hfz127_2, hfz127_3, hfz127_4, hfz127_5⟩ := zc6 BK284
                        go_wp2
                        refine bodyPost_ret (results_ct rfl _ _ gb284 23 #[.int .i64 0, .int .i64 0, .int .i64 0, .int .i64 0, .int .i64 0, .int .i64 0] (0, 0) _ rfl (by refine bq ?_; refine blk_put (cs := #[.int .i64 0, .int .i64 0, .int .i64 0, .int .i64 0, .int .i64 0, .int .i64 0]) ?_ 5 _ rfl; refine bq ?_; refine blk_put (cs := #[.int .i64 0, .int .i64 0, .int .i64 0, .int .i64 0, .int .i64 0, .int .i64 0]) ?_ 4 _ rfl; refine bq ?_; refine blk_put (cs := #[.int .i64 0, .int .i64 0, .int .i64 0, .int .i64 0, .int .i64 0, .int .i64 0]) ?_ 3 _ rfl; refine bq ?_; refine blk_put (cs := #[.int .i64 0, .int .i64 0, .int .i64 0, .int .i64 0, .int .i64 0, .int .i64 0]) ?_ 2 _ rfl; refine bq ?_; refine blk_put (cs := #[.int .i64 0, .int .i64 0, .int .i64 0, .int .i64 0, .int .i64 0, .int .i64 0]) ?_ 1 _ rfl; refine bq ?_; refine blk_put (cs := #[.int .i64 0, .int .i64 0, .int .i64 0, .int .i64 0, .int .i64 0, .int .i64 0]) ?_ 0 _ rfl; exact bq BK284.out) Tryd.underlying23 rfl (by kernel_rfl)) rfl ?_
                        exact ⟨by first | rfl | (simp [errW_none, errW_some] <;> rfl) | (simp only [← hji21]; first | rfl | (simp [errW_none, errW_some] <;> rfl)) | (simp [*, errW_none, errW_some] <;> rfl), zB⟩
 ·rw [if_neg c2] at H
  exact absurd H (by simp)

end Go.Proofs.YtllmbooicobmkaaDoor.Q
