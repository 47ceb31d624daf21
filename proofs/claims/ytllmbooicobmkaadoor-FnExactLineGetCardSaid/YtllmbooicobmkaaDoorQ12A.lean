/- The machine's side of this seat's laws: Go functions as Lean functions, and their contracts. By a program of this work over the kit's print. -/
import Derived.Test.YtllmbooicobmkaaDoorQ0
import Derived.Test.YtllmbooicobmkaaDoorQ7
import Derived.Test.YtllmbooicobmkaaDoorQ8
import Derived.Test.YtllmbooicobmkaaDoorQ11
import Derived.Test.YtllmbooicobmkaaDoorQ12D
namespace Go.Proofs.YtllmbooicobmkaaDoor.Q
open Go.RowKit Go.Proofs.YtllmbooicobmkaaDoorW.PrintWords Go.Proofs.YtllmbooicobmkaaDoorW.PrintLast Go.Proofs.YtllmbooicobmkaaDoorW.PrintMore
attribute [local go_sem] max2_int min2_int max_two min_two max_three min_three max_four min_four Go.Proofs.YtllmbooicobmkaaDoorN.not_i64 Go.Proofs.YtllmbooicobmkaaDoorN.isSome_setCell   -- for this text's walks alone
set_option linter.unusedVariables false
set_option linter.unusedSimpArgs false

/-! ### impl_readIns, a part of its ways -/
mutual
def impl_readInsA.j0 : Nat → List ByteArray → ByteArray → Int → Int → Bool → Option (Int × Int × Int × Int × Int × Int × Bool)
 | 0, _, _, _, _, _ => none
 | k + 1, x0, x4, x5, x6, x33 => if x33 = true then (if 0 ≤ (wrap64 (x6 - 1)) then (if (wrap64 (x6 - 1)) < (x4.size : Int) then (if (wrap64 (x6 - 1)) ≤ (x4.size : Int) then (impl_readInsA.j1 k x0 (x4.extract 0 ((wrap64 (x6 - 1)) : Int).toNat) (((bt x4 (wrap64 (x6 - 1))) - 48) % 256)) else (none)) else (none)) else (none)) else (impl_readInsA.j1 k x0 x4 x5)
def impl_readInsA.j1 : Nat → List ByteArray → ByteArray → Int → Option (Int × Int × Int × Int × Int × Int × Bool)
 | 0, _, _, _ => none
 | k + 1, x0, x4, x5 => (slices_Index_string_string.f k (impl_opWords.L) x4).bind fun t289 => ((impl_kind_reckons.f (mx t289 0)).bind fun t291 => (if t291 = true then (impl_readInsA.j2 k x0 (mx t289 0) (mx t289 0) (x0.length : Int) ((x0.length : Int) == 3) (mx t289 0) 0 (-1) 0 0 x5) else (impl_readInsA.j2 k x0 (mx t289 0) (mx t289 0) (x0.length : Int) false (mx t289 0) 0 (-1) 0 0 x5)))
def impl_readInsA.j2 : Nat → List ByteArray → Int → Int → Int → Bool → Int → Int → Int → Int → Int → Int → Option (Int × Int × Int × Int × Int × Int × Bool)
 | 0, _, _, _, _, _, _, _, _, _, _, _ => none
 | k + 1, x0, x8, x10, x11, x55, x291000, x291001, x291002, x291003, x291004, x291005 => if x55 = true then (impl_readInsA.j3 k x0 x8 x10 x11 x55 x291000 x291001 x291002 x291003 x291004 x291005) else ((impl_kind_asks.f x10).bind fun t292 => (if t292 = true then (impl_readInsA.j3 k x0 x8 x10 x11 (x11 == 4) x291000 x291001 x291002 x291003 x291004 x291005) else (impl_readInsA.j3 k x0 x8 x10 x11 false x291000 x291001 x291002 x291003 x291004 x291005)))
def impl_readInsA.j3 : Nat → List ByteArray → Int → Int → Int → Bool → Int → Int → Int → Int → Int → Int → Option (Int × Int × Int × Int × Int × Int × Bool)
 | 0, _, _, _, _, _, _, _, _, _, _, _ => none
 | k + 1, x0, x8, x10, x11, x55, x291000, x291001, x291002, x291003, x291004, x291005 => if x55 = true then (if 1 < (x0.length : Int) then ((impl_readReg.f (rdOf ByteArray.empty x0 1)).bind fun t294 => (if 2 < (x0.length : Int) then ((impl_Ins_setValue.f x291000 t294 x291002 x291003 x291004 x291005 (rdOf ByteArray.empty x0 2)).bind fun bt296 => ((impl_kind_asks.f x10).bind fun t302 => (if t302 = true then (if 3 < (x0.length : Int) then ((impl_number.f (rdOf ByteArray.empty x0 3)).bind fun t304 => (some (bt296.1, bt296.2.1, bt296.2.2.1, t304, bt296.2.2.2.2.1, bt296.2.2.2.2.2, true))) else (none)) else (some (bt296.1, bt296.2.1, bt296.2.2.1, bt296.2.2.2.1, bt296.2.2.2.2.1, bt296.2.2.2.2.2, true))))) else (none))) else (none)) else (none)
end
def impl_readInsA.f (k : Nat) (l0 : List ByteArray) : Option (Int × Int × Int × Int × Int × Int × Bool) := if 0 < (l0.length : Int) then (if ((rdOf ByteArray.empty l0 0).size : Int) > 1 then (if 0 ≤ (wrap64 (((rdOf ByteArray.empty l0 0).size : Int) - 1)) then (if (wrap64 (((rdOf ByteArray.empty l0 0).size : Int) - 1)) < ((rdOf ByteArray.empty l0 0).size : Int) then (if (bt (rdOf ByteArray.empty l0 0) (wrap64 (((rdOf ByteArray.empty l0 0).size : Int) - 1))) ≥ 48 then (impl_readInsA.j0 k l0 (rdOf ByteArray.empty l0 0) 0 ((rdOf ByteArray.empty l0 0).size : Int) (decide ((bt (rdOf ByteArray.empty l0 0) (wrap64 (((rdOf ByteArray.empty l0 0).size : Int) - 1))) ≤ 57))) else (impl_readInsA.j0 k l0 (rdOf ByteArray.empty l0 0) 0 ((rdOf ByteArray.empty l0 0).size : Int) false)) else (none)) else (none)) else (impl_readInsA.j0 k l0 (rdOf ByteArray.empty l0 0) 0 ((rdOf ByteArray.empty l0 0).size : Int) false)) else (none)
set_option maxHeartbeats 8000000 in
set_option maxRecDepth 100000 in
theorem impl_readInsA.calls (k : Nat) (A0 : Option Addr) (c0 : Nat) (l0 : List ByteArray) (r1 : Int) (r2 : Int) (r3 : Int) (r4 : Int) (r5 : Int) (r6 : Int) (r7 : Bool) (w : World) (hr0 : Kd.C Kd.string w A0 l0.length l0) (hc0 : l0.length ≤ c0) (h : impl_readInsA.f k l0 = some (r1, r2, r3, r4, r5, r6, r7)) (zHT : Tryd.Te w := by first | exact zHT | exact Tryd.te_below zHT zB) :
  Calls Tryd.prog 15 #[.slice A0 l0.length c0] w fun e w' => e = .returned (.tuple #[.agg #[.int .i64 r1, .int .i64 r2, .int .i64 r3, .int .i64 r4, .int .i64 r5, .int .i64 r6], .bool r7]) ∧ Below w.heap.size w w' := by
 have hu23 := Tryd.underlying23
 have HR0 := Aside0.mk hr0
 have HC0 := Aside0.mk hc0
 clear hr0 hc0
 have HB := Aside0.mk (Below.refl w.heap.size w)
 have H : (if 0 < (l0.length : Int) then (if ((rdOf ByteArray.empty l0 0).size : Int) > 1 then (if 0 ≤ (wrap64 (((rdOf ByteArray.empty l0 0).size : Int) - 1)) then (if (wrap64 (((rdOf ByteArray.empty l0 0).size : Int) - 1)) < ((rdOf ByteArray.empty l0 0).size : Int) then (if (bt (rdOf ByteArray.empty l0 0) (wrap64 (((rdOf ByteArray.empty l0 0).size : Int) - 1))) ≥ 48 then (impl_readInsA.j0 k l0 (rdOf ByteArray.empty l0 0) 0 ((rdOf ByteArray.empty l0 0).size : Int) (decide ((bt (rdOf ByteArray.empty l0 0) (wrap64 (((rdOf ByteArray.empty l0 0).size : Int) - 1))) ≤ 57))) else (impl_readInsA.j0 k l0 (rdOf ByteArray.empty l0 0) 0 ((rdOf ByteArray.empty l0 0).size : Int) false)) else (none)) else (none)) else (impl_readInsA.j0 k l0 (rdOf ByteArray.empty l0 0) 0 ((rdOf ByteArray.empty l0 0).size : Int) false)) else (none)) = some (r1, r2, r3, r4, r5, r6, r7) := h
 clear h
 by_cases c2 : 0 < (l0.length : Int)
 ·rw [if_pos c2] at H
  have c2b0 : decide (0 < (l0.length : Int)) = true := decide_eq_true c2
  have c2b1 : decide (0 < l0.length) = true := decide_eq_true (by omega)
  clear c2
  have HC3 := Aside0.mk H
  clear H
  go_enter Tryd.func15, Tryd.ntmps15
  go_upto_region 4 with (first | ((with_reducible refine gate_dst (N := 2) rfl ?_); refine be 2 #[.int .i64 0, .int .i64 0, .int .i64 0, .int .i64 0, .int .i64 0, .int .i64 0] 23 ?_; intro gb284 hg w4 hbox hb; have BK284 := Aside0.mk hbox; have GW284 := zW hg; replace HB := zS hb; have GE284 := GW284; clear hb hbox hg; have p285 : 0 ≤ (0 : Int) := (by omega); have q285 : 0 < (l0.length : Int) := of_decide_eq_true (by first | (with_reducible assumption) | assumption); obtain ⟨ad285, e285, hx285_0⟩ := Kd.at_string HR0.out 0 p285 q285; cases e285; have qi285 : (0 < l0.length) = True := eq_true (by omega); (try rw [show ((0 : Int)).toNat = 0 from rfl] at hx285_0); (try rw [Addr.add_zero'] at hx285_0); replace hx285_0 := (HB.out.cell (World.block_lt_of_cell? w _ hx285_0)).trans hx285_0; replace p285 := eq_true p285; replace q285 := eq_true q285))
  (try simp only [Act.put, List.setIfInBounds_toArray, List.set_cons_zero, List.set_cons_succ])
  go_cut [33] (fun v33 wc => ∃ (kq : Nat) (x33_2 : Bool), v33 = .bool x33_2 ∧ Aside0 (impl_readInsA.j0 kq l0 (rdOf ByteArray.empty l0 0) 0 ((rdOf ByteArray.empty l0 0).size : Int) x33_2 = some (r1, r2, r3, r4, r5, r6, r7)) ∧ Aside0 (kq ≤ k) ∧ Aside0 (wc.heap[gb284]? = some (.cells #[.int .i64 0, .int .i64 0, .int .i64 0, .int .i64 0, .int .i64 0, .int .i64 0] 23 (0, 0))) ∧ Aside0 (Below w.heap.size w wc))
  case first =>
   have H := HC3.out
   clear HC3
   by_cases c5 : ((rdOf ByteArray.empty l0 0).size : Int) > 1
   ·rw [if_pos c5] at H
    have c5b0 : decide (1 < ((rdOf ByteArray.empty l0 0).size : Int)) = true := decide_eq_true c5
    have c5b1 : decide (1 < (rdOf ByteArray.empty l0 0).size) = true := decide_eq_true (by omega)
    clear c5
    (first | rw [c5b0] | (simp only [i64_w, i32_w]; rw [c5b0]) | skip)
    obtain ⟨ji6, hji6⟩ : ∃ j_ : Int, (wrap64 (((rdOf ByteArray.empty l0 0).size : Int) - 1)) = j_ := ⟨_, rfl⟩
    replace H : (if 0 ≤ (ji6) then (if (ji6) < ((rdOf ByteArray.empty l0 0).size : Int) then (if (bt (rdOf ByteArray.empty l0 0) (ji6)) ≥ 48 then (impl_readInsA.j0 k l0 (rdOf ByteArray.empty l0 0) 0 ((rdOf ByteArray.empty l0 0).size : Int) (decide ((bt (rdOf ByteArray.empty l0 0) (ji6)) ≤ 57))) else (impl_readInsA.j0 k l0 (rdOf ByteArray.empty l0 0) 0 ((rdOf ByteArray.empty l0 0).size : Int) false)) else (none)) else (none)) = some (r1, r2, r3, r4, r5, r6, r7) := by first | (rw [hji6] at H; exact H) | (simp only [hji6] at H ⊢; exact H)
    have hji6w : (IntKind.i64.wrap (((rdOf ByteArray.empty l0 0).size : Int) - 1)) = ji6 := (i64_w _).trans hji6
    by_cases c7 : 0 ≤ (ji6)
    ·rw [if_pos c7] at H
     have c7b0 : decide (0 ≤ (ji6)) = true := decide_eq_true c7
     clear c7
     by_cases c8 : (ji6) < ((rdOf ByteArray.empty l0 0).size : Int)
     ·rw [if_pos c8] at H
      have c8b0 : decide ((ji6) < ((rdOf ByteArray.empty l0 0).size : Int)) = true := decide_eq_true c8
      clear c8
      by_cases c10 : (bt (rdOf ByteArray.empty l0 0) (ji6)) ≥ 48
      ·rw [if_pos c10] at H
       have c10b0 : decide (48 ≤ (bt (rdOf ByteArray.empty l0 0) (ji6))) = true := decide_eq_true c10
       clear c10
       have H' := Aside0.mk H
       clear H
       have p9 : 0 ≤ ((ji6) : Int) := of_decide_eq_true (by first | (with_reducible assumption) | assumption)
       have q9 : (ji6) < ((rdOf ByteArray.empty l0 0).size : Int) := of_decide_eq_true (by first | (with_reducible assumption) | assumption)
       have hx9 := bt_at (rdOf ByteArray.empty l0 0) (ji6)
       replace p9 := eq_true p9
       replace q9 := eq_true q9
       have p11 : 0 ≤ ((ji6) : Int) := of_decide_eq_true (by first | (with_reducible assumption) | assumption)
       have q11 : (ji6) < ((rdOf ByteArray.empty l0 0).size : Int) := of_decide_eq_true (by first | (with_reducible assumption) | assumption)
       have hx11 := bt_at (rdOf ByteArray.empty l0 0) (ji6)
       replace p11 := eq_true p11
       replace q11 := eq_true q11
       go_wp2
       go_meet
       case rel => exact ⟨_, (decide ((bt (rdOf ByteArray.empty l0 0) (ji6)) ≤ 57)), (by first | rfl | (simp; done) | (simp only [← hji6] <;> (first | rfl | simp)) | (simp [*]; done)), H', ⟨by first | omega | exact Nat.le_refl _⟩, ⟨by exact bq BK284.out⟩, ⟨zB⟩⟩
      ·rw [if_neg c10] at H
       have c10b0 : decide (48 ≤ (bt (rdOf ByteArray.empty l0 0) (ji6))) = false := decide_eq_false c10
       clear c10
       have H' := Aside0.mk H
       clear H
       have p9 : 0 ≤ ((ji6) : Int) := of_decide_eq_true (by first | (with_reducible assumption) | assumption)
       have q9 : (ji6) < ((rdOf ByteArray.empty l0 0).size : Int) := of_decide_eq_true (by first | (with_reducible assumption) | assumption)
       have hx9 := bt_at (rdOf ByteArray.empty l0 0) (ji6)
       replace p9 := eq_true p9
       replace q9 := eq_true q9
       go_wp2
       go_meet
       case rel => exact ⟨_, (false), (by first | rfl | (simp; done) | (simp [*]; done)), H', ⟨by first | omega | exact Nat.le_refl _⟩, ⟨by exact bq BK284.out⟩, ⟨zB⟩⟩
     ·rw [if_neg c8] at H
      exact absurd H (by simp)
    ·rw [if_neg c7] at H
     exact absurd H (by simp)
   ·rw [if_neg c5] at H
    have c5b0 : decide (1 < ((rdOf ByteArray.empty l0 0).size : Int)) = false := decide_eq_false c5
    have c5b1 : decide (1 < (rdOf ByteArray.empty l0 0).size) = false := decide_eq_false (by omega)
    clear c5
    (first | rw [c5b0] | (simp only [i64_w, i32_w]; rw [c5b0]) | skip)
    have H' := Aside0.mk H
    clear H
    go_wp2
    go_meet
    case rel => exact ⟨_, (false), (by first | rfl | (simp; done) | (simp [*]; done)), H', ⟨by first | omega | exact Nat.le_refl _⟩, ⟨by exact bq BK284.out⟩, ⟨zB⟩⟩
  case rest =>
   clear HC3
   try clear c1
   try clear p1
   try clear q1
   try clear hx1
   try clear c2
   try clear c2b0
   try clear c2b1
   try clear p2
   try clear q2
   try clear hx2
   try clear qi2
   try clear c5
   try clear c5b0
   try clear c5b1
   try clear p6
   try clear c7
   try clear c7b0
   try clear c8
   try clear c8b0
   try clear p9 p9
   try clear q9 q9
   try clear hx9
   try clear c10
   try clear c10b0
   try clear p11 p11
   try clear q11 q11
   try clear hx11
   try clear hx285_0
   try clear p285
   try clear q285
   obtain ⟨kq, x33_2, rfl, HA, HJ2, BK284, HB⟩ := hcut
   cases kq with
   | zero => exact absurd HA.out (by simp [impl_readInsA.j0])
   | succ kj2 =>
    have H := HA.out
    clear HA
    simp only [impl_readInsA.j0] at H
    have HC12 := Aside0.mk H
    clear H
    go_upto_if 33 with (fail)
    go_cut [4, 5] (fun v4 v5 wc => ∃ (kq : Nat) (x4_11 : ByteArray) (x5_11 : Int), v4 = .string x4_11 ∧ v5 = .int .i64 x5_11 ∧ Aside0 (impl_readInsA.j1 kq l0 x4_11 x5_11 = some (r1, r2, r3, r4, r5, r6, r7)) ∧ Aside0 (kq ≤ kj2) ∧ Aside0 (wc.heap[gb284]? = some (.cells #[.int .i64 0, .int .i64 0, .int .i64 0, .int .i64 0, .int .i64 0, .int .i64 0] 23 (0, 0))) ∧ Aside0 (Below w.heap.size w wc))
    case first =>
     have H := HC12.out
     clear HC12
     by_cases c13 : x33_2 = true
     ·subst c13
      rw [if_pos rfl] at H
      obtain ⟨ji14, hji14⟩ : ∃ j_ : Int, (wrap64 (((rdOf ByteArray.empty l0 0).size : Int) - 1)) = j_ := ⟨_, rfl⟩
      replace H : (if 0 ≤ (ji14) then (if (ji14) < ((rdOf ByteArray.empty l0 0).size : Int) then (if (ji14) ≤ ((rdOf ByteArray.empty l0 0).size : Int) then (impl_readInsA.j1 kj2 l0 ((rdOf ByteArray.empty l0 0).extract 0 ((ji14) : Int).toNat) (((bt (rdOf ByteArray.empty l0 0) (ji14)) - 48) % 256)) else (none)) else (none)) else (none)) = some (r1, r2, r3, r4, r5, r6, r7) := by first | (rw [hji14] at H; exact H) | (simp only [hji14] at H ⊢; exact H)
      have hji14w : (IntKind.i64.wrap (((rdOf ByteArray.empty l0 0).size : Int) - 1)) = ji14 := (i64_w _).trans hji14
      by_cases c15 : 0 ≤ (ji14)
      ·rw [if_pos c15] at H
       have c15b0 : decide (0 ≤ (ji14)) = true := decide_eq_true c15
       clear c15
       (first | rw [c15b0] | (simp only [i64_w, i32_w]; rw [c15b0]) | skip)
       by_cases c16 : (ji14) < ((rdOf ByteArray.empty l0 0).size : Int)
       ·rw [if_pos c16] at H
        have c16b0 : decide ((ji14) < ((rdOf ByteArray.empty l0 0).size : Int)) = true := decide_eq_true c16
        clear c16
        have c18b0 := eq_true (of_decide_eq_true (by first | (with_reducible assumption) | assumption) : 0 ≤ (ji14))
        by_cases c19 : (ji14) ≤ ((rdOf ByteArray.empty l0 0).size : Int)
        ·rw [if_pos c19] at H
         have c19b0 := eq_true c19
         have c19b1 : decide ((ji14) ≤ ((rdOf ByteArray.empty l0 0).size : Int)) = true := decide_eq_true c19
         clear c19
         have H' := Aside0.mk H
         clear H
         have p17 : 0 ≤ ((ji14) : Int) := of_decide_eq_true (by first | (with_reducible assumption) | assumption)
         have q17 : (ji14) < ((rdOf ByteArray.empty l0 0).size : Int) := of_decide_eq_true (by first | (with_reducible assumption) | assumption)
         have hx17 := bt_at (rdOf ByteArray.empty l0 0) (ji14)
         replace p17 := eq_true p17
         replace q17 := eq_true q17
         go_wp2
         go_meet
         case rel => exact ⟨_, ((rdOf ByteArray.empty l0 0).extract 0 ((ji14) : Int).toNat), (((bt (rdOf ByteArray.empty l0 0) (ji14)) - 48) % 256), (by first | rfl | (simp; done) | (simp only [← hji14] <;> (first | rfl | simp)) | (simp [*]; done)), (by first | rfl | (simp; done) | (simp only [← hji14] <;> (first | rfl | simp)) | (simp [*]; done)), H', ⟨by have := HJ2.out; first | omega | exact Nat.le_refl _⟩, ⟨by exact bq BK284.out⟩, ⟨zB⟩⟩
        ·rw [if_neg c19] at H
         exact absurd H (by simp)
       ·rw [if_neg c16] at H
        exact absurd H (by simp)
      ·rw [if_neg c15] at H
       exact absurd H (by simp)
     ·replace c13 := Bool.eq_false_iff.mpr c13
      subst c13
      rw [if_neg (show ¬ (false = true) by decide)] at H
      have H' := Aside0.mk H
      clear H
      go_wp2
      go_meet
      case rel => exact ⟨_, ((rdOf ByteArray.empty l0 0)), (0), (by first | rfl | (simp; done) | (simp [*]; done)), (by first | rfl | (simp; done) | (simp [*]; done)), H', ⟨by have := HJ2.out; first | omega | exact Nat.le_refl _⟩, ⟨by exact bq BK284.out⟩, ⟨zB⟩⟩
    case rest =>
     clear HC12
     try clear c1
     try clear p1 p1
     try clear q1 q1
     try clear hx1
     try clear c2
     try clear c2b0
     try clear c2b1
     try clear p2 p2
     try clear q2 q2
     try clear hx2
     try clear qi2
     try clear c5
     try clear c5b0
     try clear c5b1
     try clear p6 p6
     try clear c7
     try clear c7b0
     try clear c8
     try clear c8b0
     try clear p9 p9
     try clear q9 q9
     try clear hx9
     try clear c10
     try clear c10b0
     try clear p11 p11
     try clear q11 q11
     try clear hx11
     try clear c13
     try clear c15
     try clear c15b0
     try clear c16
     try clear c16b0
     try clear p17 p17
     try clear q17 q17
     try clear hx17
     try clear c18
     try clear c18b0
     try clear c19
     try clear c19b0
     try clear c19b1
     try clear hx285_0
     try clear p285
     try clear q285
     obtain ⟨kq, x4_11, x5_11, rfl, rfl, HA, HJ11, BK284, HB⟩ := hcut
     cases kq with
     | zero => exact absurd HA.out (by simp [impl_readInsA.j1])
     | succ kj11 =>
      have H := HA.out
      clear HA
      simp only [impl_readInsA.j1] at H
      have AC_impl_opWords := Aside0.mk (show impl_opWords.f = some impl_opWords.L from rfl)
      obtain ⟨y286, hy286⟩ : ∃ y_ : List ByteArray, y_ = (impl_opWords.L) := ⟨_, rfl⟩
      replace H : ((slices_Index_string_string.f kj11 y286 x4_11).bind fun t289 => ((impl_kind_reckons.f (mx t289 0)).bind fun t291 => (if t291 = true then (impl_readInsA.j2 kj11 l0 (mx t289 0) (mx t289 0) (l0.length : Int) ((l0.length : Int) == 3) (mx t289 0) 0 (-1) 0 0 x5_11) else (impl_readInsA.j2 kj11 l0 (mx t289 0) (mx t289 0) (l0.length : Int) false (mx t289 0) 0 (-1) 0 0 x5_11)))) = some (r1, r2, r3, r4, r5, r6, r7) := by first | (rw [hy286]; with_reducible exact H) | (have H2_ := (Option.bind_some _ _).symm.trans H; rw [hy286]; with_reducible exact H2_) | (have H2_ := (Option.bind_some _ _).symm.trans H; with_reducible exact H2_) | with_reducible exact H | (rw [hy286]; exact H) | exact H
      have Ny286 := Aside0.mk hy286
      clear hy286
      replace H := Option.bind_eq_some_iff.mp H
      obtain ⟨t289, A200, H⟩ := H
      try dsimp only at H
      have A20 := Aside0.mk A200
      clear A200
      obtain ⟨ji21, hji21⟩ : ∃ j_ : Int, (mx t289 0) = j_ := ⟨_, rfl⟩
      replace H : ((impl_kind_reckons.f (ji21)).bind fun t291 => (if t291 = true then (impl_readInsA.j2 kj11 l0 ji21 ji21 (l0.length : Int) ((l0.length : Int) == 3) ji21 0 (-1) 0 0 x5_11) else (impl_readInsA.j2 kj11 l0 ji21 ji21 (l0.length : Int) false ji21 0 (-1) 0 0 x5_11))) = some (r1, r2, r3, r4, r5, r6, r7) := by first | (rw [hji21] at H; exact H) | (simp only [hji21] at H ⊢; exact H)
      (try rw [hji21] at AC_impl_opWords)
      (try rw [hji21] at A20)
      (try (have hji21l : 0 ≤ ji21 := by (rw [← hji21]; unfold mx; (repeat' split) <;> omega)))
      (try (have hji21m : 0 ≤ ji21 := by omega))
      have hji21_ : (if t289 < 0 then 0 else t289) = ji21 := hji21
      have HC22 := Aside0.mk H
      clear H
      go_upto_region 12 with (first | ((with_reducible refine gate_callee (f := 31) rfl ?_); refine gl 44 Tryd.func31 #[] ?_; (with_reducible refine (impl_opWords.calls  impl_opWords.L _ AC_impl_opWords.out).mono ?_); rintro e w23 ⟨rfl, hb⟩; refine ⟨_, rfl, ?_⟩; replace BK284 := zb BK284 hb rfl; replace HB := zS hb; try clear hb) | ((with_reducible refine gate_dst (N := 7) rfl ?_); refine impl_opWords.var _ rfl rfl rfl rfl rfl rfl (fun _ => rfl) (fun _ => rfl) (Below.refl _ _) (Nat.le_refl _) ?_; intro ga_v287; intro v287 w24 hsl_v287 ho25 hb hg_ hnew_; clear hg_ hnew_; (first | rw [← Ny286.out] at ho25 | (simp only [Int.reduceToNat] at ho25; rw [← Ny286.out] at ho25)); have HO288 := Aside0.mk (Kd.R_lower ho25 (below_size zB)); replace BK284 := zb BK284 hb rfl; replace HB := zS hb; clear hb ho25; obtain ⟨Ao26, co26, eo26⟩ := Kd.R_slice HO288.out; subst eo26) | ((with_reducible refine gate_callee (f := 32) rfl ?_); refine gl 47 Tryd.func32 #[.slice Ao26 y286.length co26, .string x4_11] ?_; (with_reducible refine (slices_Index_string_string.calls kj11 _ _ y286 x4_11 t289 _ ?side1 ?side2 A20.out).mono ?_); (case side1 => repeat (first | exact (Kd.R_reads' HO288.out).2.2 | (with_reducible refine Kd.C_alloc ?_ _) | (with_reducible refine Kd.C_drewN ?_ _) | (with_reducible refine Kd.C_drew ?_))); (case side2 => exact (Kd.R_reads' HO288.out).2.1); rintro e w' ⟨rfl, ⟨nd, rfl⟩⟩; refine ⟨_, rfl, ?_⟩; (try (rw [drewN_self w24]; generalize hq_ : World.drewN w24 _ = w24; have n0_ : Aside0 (Kd.R Kd.string 48 w24 w.heap.size (fun _ => True) (.slice Ao26 y286.length co26) y286) := ⟨by rw [← hq_]; exact (by (with_reducible repeat (first | apply Kd.R_alloc | apply Kd.R_drewN | apply Kd.R_drew)); exact HO288.out)⟩; have n1_ : Aside0 (w24.heap[gb284]? = some (.cells #[.int .i64 0, .int .i64 0, .int .i64 0, .int .i64 0, .int .i64 0, .int .i64 0] 23 (0, 0))) := ⟨by rw [← hq_]; exact (by exact bq BK284.out)⟩; have n2_ : Aside0 (Below w.heap.size w w24) := ⟨by rw [← hq_]; exact zB⟩; clear HO288 BK284 HB hq_; have HO288 := n0_; have BK284 := n1_; have HB := n2_; clear n0_ n1_ n2_))) | ((with_reducible refine gate_dst (N := 9) rfl ?_); refine be 9 #[.int .i64 0, .int .i64 0, .int .i64 0, .int .i64 0, .int .i64 0, .int .i64 0] 23 ?_; intro gb290 hg w27 hbox hb; replace HO288 := Aside0.mk (Kd.R_below (by (with_reducible repeat (first | apply Kd.R_alloc | apply Kd.R_drewN | apply Kd.R_drew)); exact HO288.out) hb); have BK290 := Aside0.mk hbox; have GW290 := zW hg; replace HB := zS hb; have GE290 := GW290; have NB284_290 := zl BK284 hg rfl; have NB290_284 := zg BK284 hg rfl; replace BK284 := zb BK284 hb rfl; clear hb hbox hg; have hnb28 := NB290_284.out; have hnc28 := NB284_290.out; obtain ⟨hcz29_0, hcz29_1, hcz29_2, hcz29_3, hcz29_4, hcz29_5, hfz29_0, hfz29_1, hfz29_2, hfz29_3, hfz29_4, hfz29_5⟩ := zc6 BK290))
      (try simp only [Act.put, List.setIfInBounds_toArray, List.set_cons_zero, List.set_cons_succ])
      go_cut [55] (fun v55 wc => ∃ (kq : Nat) (x55_21 : Bool), v55 = .bool x55_21 ∧ Aside0 (impl_readInsA.j2 kq l0 ji21 ji21 (l0.length : Int) x55_21 ji21 0 (-1) 0 0 x5_11 = some (r1, r2, r3, r4, r5, r6, r7)) ∧ Aside0 (kq ≤ kj11) ∧ Aside0 (wc.heap[gb284]? = some (.cells #[.int .i64 0, .int .i64 0, .int .i64 0, .int .i64 0, .int .i64 0, .int .i64 0] 23 (0, 0))) ∧ Aside0 (wc.heap[gb290]? = some (.cells #[.int .i64 ji21, .int .i64 0, .int .i64 (-1), .int .i64 0, .int .i64 0, .int .i64 x5_11] 23 (0, 0))) ∧ Aside0 (Below w.heap.size w wc))
      case first =>
       have H := HC22.out
       clear HC22
       replace H := Option.bind_eq_some_iff.mp H
       obtain ⟨t291, A300, H⟩ := H
       try dsimp only at H
       have A30 := Aside0.mk A300
       clear A300
       by_cases c31 : t291 = true
       ·subst c31
        rw [if_pos rfl] at H
        have H' := Aside0.mk H
        clear H
        go_wp2_with (first | ((with_reducible refine gate_callee (f := 33) rfl ?_); refine goesL_ (some 57) rfl rfl Tryd.func33 (by kernel_rfl) rfl #[.int .i64 ji21] rfl (by (try simp only [List.map_toArray, List.map_cons, List.map_nil]); first | done | (simp only [hji21]; rfl) | rfl | (simp only [List.length_drop, List.length_take]; rfl)) ?_; (with_reducible refine (impl_kind_reckons.calls ji21 true _ A30.out).mono ?_); rintro e w' ⟨rfl, ⟨nd, rfl⟩⟩; refine ⟨_, rfl, ?_⟩))
        go_meet
        case rel => exact ⟨_, (((l0.length : Int) == 3)), (by first | rfl | (simp; done) | (simp [*]; done)), H', ⟨by have := HJ2.out; have := HJ11.out; first | omega | exact Nat.le_refl _⟩, ⟨by refine fq ?_ NB284_290.out; refine fq ?_ NB284_290.out; refine fq ?_ NB284_290.out; refine fq ?_ NB284_290.out; refine fq ?_ NB284_290.out; refine fq ?_ NB284_290.out; exact bq BK284.out⟩, ⟨by refine bq ?_; refine blk_put (cs := #[.int .i64 ji21, .int .i64 0, .int .i64 (-1), .int .i64 0, .int .i64 0, .int .i64 0]) ?_ 5 _ rfl; refine bq ?_; refine blk_put (cs := #[.int .i64 ji21, .int .i64 0, .int .i64 (-1), .int .i64 0, .int .i64 0, .int .i64 0]) ?_ 4 _ rfl; refine bq ?_; refine blk_put (cs := #[.int .i64 ji21, .int .i64 0, .int .i64 (-1), .int .i64 0, .int .i64 0, .int .i64 0]) ?_ 3 _ rfl; refine bq ?_; refine blk_put (cs := #[.int .i64 ji21, .int .i64 0, .int .i64 0, .int .i64 0, .int .i64 0, .int .i64 0]) ?_ 2 _ rfl; refine bq ?_; refine blk_put (cs := #[.int .i64 ji21, .int .i64 0, .int .i64 0, .int .i64 0, .int .i64 0, .int .i64 0]) ?_ 1 _ rfl; refine bq ?_; refine blk_put (cs := #[.int .i64 0, .int .i64 0, .int .i64 0, .int .i64 0, .int .i64 0, .int .i64 0]) ?_ 0 _ rfl; exact bq BK290.out⟩, ⟨zB⟩⟩
       ·replace c31 := Bool.eq_false_iff.mpr c31
        subst c31
        rw [if_neg (show ¬ (false = true) by decide)] at H
        have H' := Aside0.mk H
        clear H
        go_wp2_with (first | ((with_reducible refine gate_callee (f := 33) rfl ?_); refine goesL_ (some 57) rfl rfl Tryd.func33 (by kernel_rfl) rfl #[.int .i64 ji21] rfl (by (try simp only [List.map_toArray, List.map_cons, List.map_nil]); first | done | (simp only [hji21]; rfl) | rfl | (simp only [List.length_drop, List.length_take]; rfl)) ?_; (with_reducible refine (impl_kind_reckons.calls ji21 false _ A30.out).mono ?_); rintro e w' ⟨rfl, ⟨nd, rfl⟩⟩; refine ⟨_, rfl, ?_⟩))
        go_meet
        case rel => exact ⟨_, (false), (by first | rfl | (simp; done) | (simp [*]; done)), H', ⟨by have := HJ2.out; have := HJ11.out; first | omega | exact Nat.le_refl _⟩, ⟨by refine fq ?_ NB284_290.out; refine fq ?_ NB284_290.out; refine fq ?_ NB284_290.out; refine fq ?_ NB284_290.out; refine fq ?_ NB284_290.out; refine fq ?_ NB284_290.out; exact bq BK284.out⟩, ⟨by refine bq ?_; refine blk_put (cs := #[.int .i64 ji21, .int .i64 0, .int .i64 (-1), .int .i64 0, .int .i64 0, .int .i64 0]) ?_ 5 _ rfl; refine bq ?_; refine blk_put (cs := #[.int .i64 ji21, .int .i64 0, .int .i64 (-1), .int .i64 0, .int .i64 0, .int .i64 0]) ?_ 4 _ rfl; refine bq ?_; refine blk_put (cs := #[.int .i64 ji21, .int .i64 0, .int .i64 (-1), .int .i64 0, .int .i64 0, .int .i64 0]) ?_ 3 _ rfl; refine bq ?_; refine blk_put (cs := #[.int .i64 ji21, .int .i64 0, .int .i64 0, .int .i64 0, .int .i64 0, .int .i64 0]) ?_ 2 _ rfl; refine bq ?_; refine blk_put (cs := #[.int .i64 ji21, .int .i64 0, .int .i64 0, .int .i64 0, .int .i64 0, .int .i64 0]) ?_ 1 _ rfl; refine bq ?_; refine blk_put (cs := #[.int .i64 0, .int .i64 0, .int .i64 0, .int .i64 0, .int .i64 0, .int .i64 0]) ?_ 0 _ rfl; exact bq BK290.out⟩, ⟨zB⟩⟩
      case rest =>
       clear HC22
       try clear c1
       try clear p1 p1
       try clear q1 q1
       try clear hx1
       try clear c2
       try clear c2b0
       try clear c2b1
       try clear p2 p2
       try clear q2 q2
       try clear hx2
       try clear qi2
       try clear c3
       try clear c5
       try clear c5b0
       try clear c5b1
       try clear p6 p6
       try clear c7
       try clear c7b0
       try clear c8
       try clear c8b0
       try clear p9 p9
       try clear q9 q9
       try clear hx9
       try clear c10
       try clear c10b0
       try clear p11 p11
       try clear q11 q11
       try clear hx11
       try clear c13
       try clear c15
       try clear c15b0
       try clear c16
       try clear c16b0
       try clear p17 p17
       try clear q17 q17
       try clear hx17
       try clear c18
       try clear c18b0
       try clear c19
       try clear c19b0
       try clear c19b1
       try clear c28
       try clear p28
       try clear q28
       try clear hx28
       try clear qi28
       try clear c31
       try clear hcz29_0 hcz29_1 hcz29_2 hcz29_3 hcz29_4 hcz29_5 hfz29_0 hfz29_1 hfz29_2 hfz29_3 hfz29_4 hfz29_5
       try clear hx285_0
       try clear p285
       try clear q285
       obtain ⟨kq, x55_21, rfl, HA, HJ21, BK284, BK290, HB⟩ := hcut
       cases kq with
       | zero => exact absurd HA.out (by simp [impl_readInsA.j2])
       | succ kj21 =>
        have H := HA.out
        clear HA
        simp only [impl_readInsA.j2] at H
        have HC32 := Aside0.mk H
        clear H
        go_upto_if 55 with (fail)
        go_cut [55] (fun v55 wc => ∃ (kq : Nat) (x55_31 : Bool), v55 = .bool x55_31 ∧ Aside0 (impl_readInsA.j3 kq l0 ji21 ji21 (l0.length : Int) x55_31 ji21 0 (-1) 0 0 x5_11 = some (r1, r2, r3, r4, r5, r6, r7)) ∧ Aside0 (kq ≤ kj21) ∧ Aside0 (wc.heap[gb284]? = some (.cells #[.int .i64 0, .int .i64 0, .int .i64 0, .int .i64 0, .int .i64 0, .int .i64 0] 23 (0, 0))) ∧ Aside0 (wc.heap[gb290]? = some (.cells #[.int .i64 ji21, .int .i64 0, .int .i64 (-1), .int .i64 0, .int .i64 0, .int .i64 x5_11] 23 (0, 0))) ∧ Aside0 (Below w.heap.size w wc))
        case first =>
         have H := HC32.out
         clear HC32
         by_cases c33 : x55_21 = true
         ·subst c33
          rw [if_pos rfl] at H
          have H' := Aside0.mk H
          clear H
          go_wp2
          go_meet
          case rel => exact ⟨_, (true), (by first | rfl | (simp; done) | (simp [*]; done)), H', ⟨by have := HJ2.out; have := HJ11.out; have := HJ21.out; first | omega | exact Nat.le_refl _⟩, ⟨by exact bq BK284.out⟩, ⟨by exact bq BK290.out⟩, ⟨zB⟩⟩
         ·replace c33 := Bool.eq_false_iff.mpr c33
          subst c33
          rw [if_neg (show ¬ (false = true) by decide)] at H
          replace H := Option.bind_eq_some_iff.mp H
          obtain ⟨t292, A340, H⟩ := H
          try dsimp only at H
          have A34 := Aside0.mk A340
          clear A340
          by_cases c35 : t292 = true
          ·subst c35
           rw [if_pos rfl] at H
           have H' := Aside0.mk H
           clear H
           go_wp2_with (first | ((with_reducible refine gate_callee (f := 34) rfl ?_); refine goesL_ (some 63) rfl rfl Tryd.func34 (by kernel_rfl) rfl #[.int .i64 ji21] rfl (by (try simp only [List.map_toArray, List.map_cons, List.map_nil]); first | done | (simp only [hji21]; rfl) | rfl | (simp only [List.length_drop, List.length_take]; rfl)) ?_; (with_reducible refine (impl_kind_asks.calls ji21 true _ A34.out).mono ?_); rintro e w' ⟨rfl, ⟨nd, rfl⟩⟩; refine ⟨_, rfl, ?_⟩))
           go_meet
           case rel => exact ⟨_, (((l0.length : Int) == 4)), (by first | rfl | (simp; done) | (simp [*]; done)), H', ⟨by have := HJ2.out; have := HJ11.out; have := HJ21.out; first | omega | exact Nat.le_refl _⟩, ⟨by exact bq BK284.out⟩, ⟨by exact bq BK290.out⟩, ⟨zB⟩⟩
          ·replace c35 := Bool.eq_false_iff.mpr c35
           subst c35
           rw [if_neg (show ¬ (false = true) by decide)] at H
           have H' := Aside0.mk H
           clear H
           go_wp2_with (first | ((with_reducible refine gate_callee (f := 34) rfl ?_); refine goesL_ (some 63) rfl rfl Tryd.func34 (by kernel_rfl) rfl #[.int .i64 ji21] rfl (by (try simp only [List.map_toArray, List.map_cons, List.map_nil]); first | done | (simp only [hji21]; rfl) | rfl | (simp only [List.length_drop, List.length_take]; rfl)) ?_; (with_reducible refine (impl_kind_asks.calls ji21 false _ A34.out).mono ?_); rintro e w' ⟨rfl, ⟨nd, rfl⟩⟩; refine ⟨_, rfl, ?_⟩))
           go_meet
           case rel => exact ⟨_, (false), (by first | rfl | (simp; done) | (simp [*]; done)), H', ⟨by have := HJ2.out; have := HJ11.out; have := HJ21.out; first | omega | exact Nat.le_refl _⟩, ⟨by exact bq BK284.out⟩, ⟨by exact bq BK290.out⟩, ⟨zB⟩⟩
        case rest =>
         clear HC32
         try clear c1
         try clear p1 p1
         try clear q1 q1
         try clear hx1
         try clear c2
         try clear c2b0
         try clear c2b1
         try clear p2 p2
         try clear q2 q2
         try clear hx2
         try clear qi2
         try clear c3
         try clear c5
         try clear c5b0
         try clear c5b1
         try clear p6 p6
         try clear c7
         try clear c7b0
         try clear c8
         try clear c8b0
         try clear p9 p9
         try clear q9 q9
         try clear hx9
         try clear c10
         try clear c10b0
         try clear p11 p11
         try clear q11 q11
         try clear hx11
         try clear c13
         try clear c15
         try clear c15b0
         try clear c16
         try clear c16b0
         try clear p17 p17
         try clear q17 q17
         try clear hx17
         try clear c18
         try clear c18b0
         try clear c19
         try clear c19b0
         try clear c19b1
         try clear c28
         try clear p28 p28
         try clear q28 q28
         try clear hx28
         try clear qi28
         try clear c31
         try clear c32
         try clear c33
         try clear c34
         try clear c35
         try clear hcz29_0 hcz29_1 hcz29_2 hcz29_3 hcz29_4 hcz29_5 hfz29_0 hfz29_1 hfz29_2 hfz29_3 hfz29_4 hfz29_5
         try clear hx285_0
         try clear p285
         try clear q285
         obtain ⟨kq, x55_31, rfl, HA, HJ31, BK284, BK290, HB⟩ := hcut
         cases kq with
         | zero => exact absurd HA.out (by simp [impl_readInsA.j3])
         | succ kj31 =>
          have H := HA.out
          clear HA
          simp only [impl_readInsA.j3] at H
          by_cases c36 : x55_31 = true
          ·subst c36
           rw [if_pos rfl] at H
           by_cases c37 : 1 < (l0.length : Int)
           ·rw [if_pos c37] at H
            have c37b0 : decide (1 < (l0.length : Int)) = true := decide_eq_true c37
            have c37b1 : decide (1 < l0.length) = true := decide_eq_true (by omega)
            clear c37
            replace H := Option.bind_eq_some_iff.mp H
            obtain ⟨t294, A380, H⟩ := H
            try dsimp only at H
            have A38 := Aside0.mk A380
            clear A380
            by_cases c39 : 2 < (l0.length : Int)
            ·rw [if_pos c39] at H
             have c39b0 : decide (2 < (l0.length : Int)) = true := decide_eq_true c39
             have c39b1 : decide (2 < l0.length) = true := decide_eq_true (by omega)
             clear c39
             replace H := Option.bind_eq_some_iff.mp H
             obtain ⟨⟨t296, t297, t298, t299, t300, t301⟩, A400, H⟩ := H
             try dsimp only at H
             have A40 := Aside0.mk A400
             clear A400
             replace H := Option.bind_eq_some_iff.mp H
             obtain ⟨t302, A410, H⟩ := H
             try dsimp only at H
             have A41 := Aside0.mk A410
             clear A410
             by_cases c42 : t302 = true
             ·subst c42
              rw [if_pos rfl] at H
              by_cases c43 : 3 < (l0.length : Int)
              ·rw [if_pos c43] at H
               have c43b0 : decide (3 < (l0.length : Int)) = true := decide_eq_true c43
               have c43b1 : decide (3 < l0.length) = true := decide_eq_true (by omega)
               clear c43
               replace H := Option.bind_eq_some_iff.mp H
               obtain ⟨t304, A440, H⟩ := H
               try dsimp only at H
               have A44 := Aside0.mk A440
               clear A440
               simp only [Option.some.injEq, Prod.mk.injEq] at H
               obtain ⟨rfl, rfl, rfl, rfl, rfl, rfl, rfl⟩ := H
               have p293 : 0 ≤ (1 : Int) := (by omega)
               have q293 : 1 < (l0.length : Int) := of_decide_eq_true (by first | (with_reducible assumption) | assumption)
               obtain ⟨ad293, e293, hx293_0⟩ := Kd.at_string HR0.out 1 p293 q293
               obtain rfl : ad285 = ad293 := (by injection e293)
               (try simp only [show (1 : Int).toNat = 1 from rfl, Nat.reduceMul, Nat.reduceEqDiff, Go.Addr.add, ↓reduceIte] at hx293_0)
               have qi293 : (1 < l0.length) = True := eq_true (by omega)
               (try rw [show ((1 : Int)).toNat = 1 from rfl] at hx293_0)
               replace hx293_0 := (HB.out.cell (World.block_lt_of_cell? w _ hx293_0)).trans hx293_0
               replace p293 := eq_true p293
               replace q293 := eq_true q293
               go_wp2_with (first | ((with_reducible refine gate_callee (f := 35) rfl ?_); refine gl 71 Tryd.func35 #[.string (rdOf ByteArray.empty l0 1)] ?_; (with_reducible refine (impl_readReg.calls (rdOf ByteArray.empty l0 1) t294 _ A38.out).mono ?_); rintro e w45 ⟨rfl, hb⟩; refine ⟨_, rfl, ?_⟩; replace BK284 := zb BK284 hb rfl; replace BK290 := zb BK290 hb rfl; replace HB := zS hb; try clear hb; have hnb46 := NB290_284.out; have hnc46 := NB284_290.out; obtain ⟨hcz47_0, hcz47_1, hcz47_2, hcz47_3, hcz47_4, hcz47_5, hfz47_0, hfz47_1, hfz47_2, hfz47_3, hfz47_4, hfz47_5⟩ := zc6 BK290; have p295 : 0 ≤ (2 : Int) := (by omega); have q295 : 2 < (l0.length : Int) := of_decide_eq_true (by first | (with_reducible assumption) | assumption); obtain ⟨ad295, e295, hx295_0⟩ := Kd.at_string HR0.out 2 p295 q295; obtain rfl : ad285 = ad295 := (by injection e295); (try simp only [show (2 : Int).toNat = 2 from rfl, Nat.reduceMul, Nat.reduceEqDiff, Go.Addr.add, ↓reduceIte] at hx295_0); have qi295 : (2 < l0.length) = True := eq_true (by omega); (try rw [show ((2 : Int)).toNat = 2 from rfl] at hx295_0); have hn295_0 : ad285.block ≠ gb290 := Nat.ne_of_lt (Nat.lt_of_lt_of_le (by have := World.block_lt_of_cell? _ _ hx295_0; first | rwa [add_block] at this | exact this) GW290.out); replace hx295_0 := (HB.out.cell (World.block_lt_of_cell? w _ hx295_0)).trans hx295_0; replace hx295_0 := (cell_far (p := ⟨gb290, 1, none⟩) (by first | (rw [add_block]; exact hn295_0) | (show (Addr.add _ _).block ≠ _; rw [add_block]; exact hn295_0) | exact hn295_0) (.int .i64 t294)).trans hx295_0; clear hn295_0; replace p295 := eq_true p295; replace q295 := eq_true q295) | ((with_reducible refine gate_callee (f := 36) rfl ?_); refine gl 76 Tryd.func36 #[.pointer (some ⟨gb290, 0, none⟩), .string (rdOf ByteArray.empty l0 2)] ?_; (with_reducible refine (impl_Ins_setValue.calls gb290 ji21 t294 (-1) 0 0 x5_11 (rdOf ByteArray.empty l0 2) t296 t297 t298 t299 t300 t301 w _ ?side1 ?side2 A40.out).mono ?_); (case side1 => exact ⟨(by refine bq ?_; refine blk_put (cs := #[.int .i64 ji21, .int .i64 0, .int .i64 (-1), .int .i64 0, .int .i64 0, .int .i64 x5_11]) ?_ 1 _ rfl; exact bq BK290.out), GE290.out⟩); (case side2 => repeat (first | (with_reducible first | exact HB.out | apply below_alloc | apply pw_below_drewN | apply below_drew1 | refine below_set ?_ GE290.out | refine below_set ?_ GE284.out) | exact HB.out)); rintro e w48 ⟨rfl, hi, hb, hk⟩; refine ⟨_, rfl, ?_⟩; replace BK284 := Aside0.mk (KeepBut.blk hk (g' := gb284) (o := .cells #[.int .i64 0, .int .i64 0, .int .i64 0, .int .i64 0, .int .i64 0, .int .i64 0] 23 (0, 0)) (by refine fq ?_ NB284_290.out; exact bq BK284.out) NB284_290.out (by simp)); replace HB := Aside0.mk hb; replace BK290 := Aside0.mk (hi.1); (try clear hb); (try clear hb2); (try clear hk); (try clear hi)) | ((with_reducible refine gate_callee (f := 34) rfl ?_); refine goesL_ (some 78) rfl rfl Tryd.func34 (by kernel_rfl) rfl #[.int .i64 ji21] rfl (by (try simp only [List.map_toArray, List.map_cons, List.map_nil]); first | done | (simp only [hji21]; rfl) | rfl | (simp only [List.length_drop, List.length_take]; rfl)) ?_; (with_reducible refine (impl_kind_asks.calls ji21 true _ A41.out).mono ?_); rintro e w' ⟨rfl, ⟨nd, rfl⟩⟩; refine ⟨_, rfl, ?_⟩; (try (rw [drewN_self w48]; generalize hq_ : World.drewN w48 _ = w48; have n0_ : Aside0 (w48.heap[gb284]? = some (.cells #[.int .i64 0, .int .i64 0, .int .i64 0, .int .i64 0, .int .i64 0, .int .i64 0] 23 (0, 0))) := ⟨by rw [← hq_]; exact (by exact bq BK284.out)⟩; have n1_ : Aside0 (w48.heap[gb290]? = some (.cells #[.int .i64 t296, .int .i64 t297, .int .i64 t298, .int .i64 t299, .int .i64 t300, .int .i64 t301] 23 (0, 0))) := ⟨by rw [← hq_]; exact (by exact bq BK290.out)⟩; have n2_ : Aside0 (Below w.heap.size w w48) := ⟨by rw [← hq_]; exact zB⟩; clear BK284 BK290 HB hq_; have BK284 := n0_; have BK290 := n1_; have HB := n2_; clear n0_ n1_ n2_)); have p303 : 0 ≤ (3 : Int) := (by omega); have q303 : 3 < (l0.length : Int) := of_decide_eq_true (by first | (with_reducible assumption) | assumption); obtain ⟨ad303, e303, hx303_0⟩ := Kd.at_string HR0.out 3 p303 q303; obtain rfl : ad285 = ad303 := (by injection e303); (try simp only [show (3 : Int).toNat = 3 from rfl, Nat.reduceMul, Nat.reduceEqDiff, Go.Addr.add, ↓reduceIte] at hx303_0); have qi303 : (3 < l0.length) = True := eq_true (by omega); (try rw [show ((3 : Int)).toNat = 3 from rfl] at hx303_0); replace hx303_0 := (HB.out.cell (World.block_lt_of_cell? w _ hx303_0)).trans hx303_0; replace p303 := eq_true p303; replace q303 := eq_true q303) | ((with_reducible refine gate_callee (f := 37) rfl ?_); refine gl 82 Tryd.func37 #[.string (rdOf ByteArray.empty l0 3)] ?_; (with_reducible refine (impl_number.calls (rdOf ByteArray.empty l0 3) t304 _ A44.out).mono ?_); rintro e w49 ⟨rfl, hb⟩; refine ⟨_, rfl, ?_⟩; replace BK284 := zb BK284 hb rfl; replace BK290 := zb BK290 hb rfl; replace HB := zS hb; try clear hb; obtain ⟨hcz50_0, hcz50_1, hcz50_2, hcz50_3, hcz50_4, hcz50_5, hfz50_0, hfz50_1, hfz50_2, hfz50_3, hfz50_4, hfz50_5⟩ := zc6 BK290; obtain ⟨hcz51_0, hcz51_1, hcz51_2, hcz51_3, hcz51_4, hcz51_5, hfz51_0, hfz51_1, hfz51_2, hfz51_3, hfz51_4, hfz51_5⟩ := zc6 BK284))
               refine bodyPost_ret (results_ct rfl _ _ gb284 23 #[.int .i64 t296, .int .i64 t297, .int .i64 t298, .int .i64 t304, .int .i64 t300, .int .i64 t301] (0, 0) _ rfl (by refine bq ?_; refine blk_put (cs := #[.int .i64 t296, .int .i64 t297, .int .i64 t298, .int .i64 t304, .int .i64 t300, .int .i64 0]) ?_ 5 _ rfl; refine bq ?_; refine blk_put (cs := #[.int .i64 t296, .int .i64 t297, .int .i64 t298, .int .i64 t304, .int .i64 0, .int .i64 0]) ?_ 4 _ rfl; refine bq ?_; refine blk_put (cs := #[.int .i64 t296, .int .i64 t297, .int .i64 t298, .int .i64 0, .int .i64 0, .int .i64 0]) ?_ 3 _ rfl; refine bq ?_; refine blk_put (cs := #[.int .i64 t296, .int .i64 t297, .int .i64 0, .int .i64 0, .int .i64 0, .int .i64 0]) ?_ 2 _ rfl; refine bq ?_; refine blk_put (cs := #[.int .i64 t296, .int .i64 0, .int .i64 0, .int .i64 0, .int .i64 0, .int .i64 0]) ?_ 1 _ rfl; refine bq ?_; refine blk_put (cs := #[.int .i64 0, .int .i64 0, .int .i64 0, .int .i64 0, .int .i64 0, .int .i64 0]) ?_ 0 _ rfl; refine fq ?_ NB284_290.out; exact bq BK284.out) Tryd.underlying23 rfl (by kernel_rfl)) rfl ?_
               exact ⟨by first | rfl | (simp [errW_none, errW_some] <;> rfl) | (simp only [← hji21]; first | rfl | (simp [errW_none, errW_some] <;> rfl)) | (simp [*, errW_none, errW_some] <;> rfl), zB⟩
              ·rw [if_neg c43] at H
               exact absurd H (by simp)
             ·replace c42 := Bool.eq_false_iff.mpr c42
              subst c42
              rw [if_neg (show ¬ (false = true) by decide)] at H
              simp only [Option.some.injEq, Prod.mk.injEq] at H
              obtain ⟨rfl, rfl, rfl, rfl, rfl, rfl, rfl⟩ := H
              have p293 : 0 ≤ (1 : Int) := (by omega)
              have q293 : 1 < (l0.length : Int) := of_decide_eq_true (by first | (with_reducible assumption) | assumption)
              obtain ⟨ad293, e293, hx293_0⟩ := Kd.at_string HR0.out 1 p293 q293
              obtain rfl : ad285 = ad293 := (by injection e293)
              (try simp only [show (1 : Int).toNat = 1 from rfl, Nat.reduceMul, Nat.reduceEqDiff, Go.Addr.add, ↓reduceIte] at hx293_0)
              have qi293 : (1 < l0.length) = True := eq_true (by omega)
              (try rw [show ((1 : Int)).toNat = 1 from rfl] at hx293_0)
              replace hx293_0 := (HB.out.cell (World.block_lt_of_cell? w _ hx293_0)).trans hx293_0
              replace p293 := eq_true p293
              replace q293 := eq_true q293
              go_wp2_with (first | ((with_reducible refine gate_callee (f := 35) rfl ?_); refine gl 71 Tryd.func35 #[.string (rdOf ByteArray.empty l0 1)] ?_; (with_reducible refine (impl_readReg.calls (rdOf ByteArray.empty l0 1) t294 _ A38.out).mono ?_); rintro e w52 ⟨rfl, hb⟩; refine ⟨_, rfl, ?_⟩; replace BK284 := zb BK284 hb rfl; replace BK290 := zb BK290 hb rfl; replace HB := zS hb; try clear hb; have hnb53 := NB290_284.out; have hnc53 := NB284_290.out; obtain ⟨hcz54_0, hcz54_1, hcz54_2, hcz54_3, hcz54_4, hcz54_5, hfz54_0, hfz54_1, hfz54_2, hfz54_3, hfz54_4, hfz54_5⟩ := zc6 BK290; have p295 : 0 ≤ (2 : Int) := (by omega); have q295 : 2 < (l0.length : Int) := of_decide_eq_true (by first | (with_reducible assumption) | assumption); obtain ⟨ad295, e295, hx295_0⟩ := Kd.at_string HR0.out 2 p295 q295; obtain rfl : ad285 = ad295 := (by injection e295); (try simp only [show (2 : Int).toNat = 2 from rfl, Nat.reduceMul, Nat.reduceEqDiff, Go.Addr.add, ↓reduceIte] at hx295_0); have qi295 : (2 < l0.length) = True := eq_true (by omega); (try rw [show ((2 : Int)).toNat = 2 from rfl] at hx295_0); have hn295_0 : ad285.block ≠ gb290 := Nat.ne_of_lt (Nat.lt_of_lt_of_le (by have := World.block_lt_of_cell? _ _ hx295_0; first | rwa [add_block] at this | exact this) GW290.out); replace hx295_0 := (HB.out.cell (World.block_lt_of_cell? w _ hx295_0)).trans hx295_0; replace hx295_0 := (cell_far (p := ⟨gb290, 1, none⟩) (by first | (rw [add_block]; exact hn295_0) | (show (Addr.add _ _).block ≠ _; rw [add_block]; exact hn295_0) | exact hn295_0) (.int .i64 t294)).trans hx295_0; clear hn295_0; replace p295 := eq_true p295; replace q295 := eq_true q295) | ((with_reducible refine gate_callee (f := 36) rfl ?_); refine gl 76 Tryd.func36 #[.pointer (some ⟨gb290, 0, none⟩), .string (rdOf ByteArray.empty l0 2)] ?_; (with_reducible refine (impl_Ins_setValue.calls gb290 ji21 t294 (-1) 0 0 x5_11 (rdOf ByteArray.empty l0 2) t296 t297 t298 t299 t300 t301 w _ ?side1 ?side2 A40.out).mono ?_); (case side1 => exact ⟨(by refine bq ?_; refine blk_put (cs := #[.int .i64 ji21, .int .i64 0, .int .i64 (-1), .int .i64 0, .int .i64 0, .int .i64 x5_11]) ?_ 1 _ rfl; exact bq BK290.out), GE290.out⟩); (case side2 => repeat (first | (with_reducible first | exact HB.out | apply below_alloc | apply pw_below_drewN | apply below_drew1 | refine below_set ?_ GE290.out | refine below_set ?_ GE284.out) | exact HB.out)); rintro e w55 ⟨rfl, hi, hb, hk⟩; refine ⟨_, rfl, ?_⟩; replace BK284 := Aside0.mk (KeepBut.blk hk (g' := gb284) (o := .cells #[.int .i64 0, .int .i64 0, .int .i64 0, .int .i64 0, .int .i64 0, .int .i64 0] 23 (0, 0)) (by refine fq ?_ NB284_290.out; exact bq BK284.out) NB284_290.out (by simp)); replace HB := Aside0.mk hb; replace BK290 := Aside0.mk (hi.1); (try clear hb); (try clear hb2); (try clear hk); (try clear hi)) | ((with_reducible refine gate_callee (f := 34) rfl ?_); refine goesL_ (some 78) rfl rfl Tryd.func34 (by kernel_rfl) rfl #[.int .i64 ji21] rfl (by (try simp only [List.map_toArray, List.map_cons, List.map_nil]); first | done | (simp only [hji21]; rfl) | rfl | (simp only [List.length_drop, List.length_take]; rfl)) ?_; (with_reducible refine (impl_kind_asks.calls ji21 false _ A41.out).mono ?_); rintro e w' ⟨rfl, ⟨nd, rfl⟩⟩; refine ⟨_, rfl, ?_⟩; (try (rw [drewN_self w55]; generalize hq_ : World.drewN w55 _ = w55; have n0_ : Aside0 (w55.heap[gb284]? = some (.cells #[.int .i64 0, .int .i64 0, .int .i64 0, .int .i64 0, .int .i64 0, .int .i64 0] 23 (0, 0))) := ⟨by rw [← hq_]; exact (by exact bq BK284.out)⟩; have n1_ : Aside0 (w55.heap[gb290]? = some (.cells #[.int .i64 t296, .int .i64 t297, .int .i64 t298, .int .i64 t299, .int .i64 t300, .int .i64 t301] 23 (0, 0))) := ⟨by rw [← hq_]; exact (by exact bq BK290.out)⟩; have n2_ : Aside0 (Below w.heap.size w w55) := ⟨by rw [← hq_]; exact zB⟩; clear BK284 BK290 HB hq_; have BK284 := n0_; have BK290 := n1_; have HB := n2_; clear n0_ n1_ n2_)); obtain ⟨hcz56_0, hcz56_1, hcz56_2, hcz56_3, hcz56_4, hcz56_5, hfz56_0, hfz56_1, hfz56_2, hfz56_3, hfz56_4, hfz56_5⟩ := zc6 BK290; obtain ⟨hcz57_0, hcz57_1, hcz57_2, hcz57_3, hcz57_4, hcz57_5, hfz57_0, hfz57_1, hfz57_2, hfz57_3, hfz57_4, hfz57_5⟩ := zc6 BK284))
              refine bodyPost_ret (results_ct rfl _ _ gb284 23 #[.int .i64 t296, .int .i64 t297, .int .i64 t298, .int .i64 t299, .int .i64 t300, .int .i64 t301] (0, 0) _ rfl (by refine bq ?_; refine blk_put (cs := #[.int .i64 t296, .int .i64 t297, .int .i64 t298, .int .i64 t299, .int .i64 t300, .int .i64 0]) ?_ 5 _ rfl; refine bq ?_; refine blk_put (cs := #[.int .i64 t296, .int .i64 t297, .int .i64 t298, .int .i64 t299, .int .i64 0, .int .i64 0]) ?_ 4 _ rfl; refine bq ?_; refine blk_put (cs := #[.int .i64 t296, .int .i64 t297, .int .i64 t298, .int .i64 0, .int .i64 0, .int .i64 0]) ?_ 3 _ rfl; refine bq ?_; refine blk_put (cs := #[.int .i64 t296, .int .i64 t297, .int .i64 0, .int .i64 0, .int .i64 0, .int .i64 0]) ?_ 2 _ rfl; refine bq ?_; refine blk_put (cs := #[.int .i64 t296, .int .i64 0, .int .i64 0, .int .i64 0, .int .i64 0, .int .i64 0]) ?_ 1 _ rfl; refine bq ?_; refine blk_put (cs := #[.int .i64 0, .int .i64 0, .int .i64 0, .int .i64 0, .int .i64 0, .int .i64 0]) ?_ 0 _ rfl; exact bq BK284.out) Tryd.underlying23 rfl (by kernel_rfl)) rfl ?_
              exact ⟨by first | rfl | (simp [errW_none, errW_some] <;> rfl) | (simp only [← hji21]; first | rfl | (simp [errW_none, errW_some] <;> rfl)) | (simp [*, errW_none, errW_some] <;> rfl), zB⟩
            ·rw [if_neg c39] at H
             exact absurd H (by simp)
           ·rw [if_neg c37] at H
            exact absurd H (by simp)
          ·replace c36 := Bool.eq_false_iff.mpr c36
           subst c36
           rw [if_neg (show ¬ (false = true) by decide)] at H
           exact absurd H (by simp)
 ·rw [if_neg c2] at H
  exact absurd H (by simp)

end Go.Proofs.YtllmbooicobmkaaDoor.Q
