/- The machine's side of this seat's laws: Go functions as Lean functions, and their contracts. By a program of this work over the kit's print. -/
import Derived.Test.YtjalmkoeekbfbaaQ0
import Derived.Test.YtjalmkoeekbfbaaQ2
namespace Go.Proofs.Ytjalmkoeekbfbaa.Q
open Go.RowKit Go.Proofs.YtjalmkoeekbfbaaW.PrintWords Go.Proofs.YtjalmkoeekbfbaaW.PrintLast Go.Proofs.YtjalmkoeekbfbaaW.PrintMore
attribute [local go_sem] max2_int min2_int max_two min_two max_three min_three max_four min_four Go.Proofs.YtjalmkoeekbfbaaN.not_i64 Go.Proofs.YtjalmkoeekbfbaaN.isSome_setCell   -- for this text's walks alone
set_option linter.unusedVariables false
set_option linter.unusedSimpArgs false

/-! ### spec_l3Ok: function 24 -/
mutual
def spec_l3Ok.j0 : Nat → Bool → Int → Int → Int → List Int → List ByteArray → Option (Bool)
 | 0, _, _, _, _, _, _ => none
 | k + 1, x20, x117000, x117001, x117002, x117003, x117004 => if x20 = true then (some false) else (spec_l3Ok.l0 k 0 x117000 x117001 x117002 x117003 x117004)
def spec_l3Ok.l0 : Nat → Int → Int → Int → Int → List Int → List ByteArray → Option (Bool)
 | 0, _, _, _, _, _, _ => none
 | k + 1, x3, x117000, x117001, x117002, x117003, x117004 => if x3 < (x117003.length : Int) then (if 0 ≤ x3 then (if x3 < (x117004.length : Int) then (if ((rdOf ByteArray.empty x117004 x3).size : Int) = x117001 then ((spec_l1In.f (rd x117003 x3) 0 4294967295).bind fun t120 => (if t120 = true then (if x117000 = 1 then (spec_l3Ok.j2 k x3 ((rd x117003 x3) != x3) x117000 x117001 x117002 x117003 x117004) else (spec_l3Ok.j2 k x3 false x117000 x117001 x117002 x117003 x117004)) else (spec_l3Ok.j2 k x3 true x117000 x117001 x117002 x117003 x117004))) else (spec_l3Ok.j2 k x3 true x117000 x117001 x117002 x117003 x117004)) else (none)) else (none)) else (some true)
def spec_l3Ok.j2 : Nat → Int → Bool → Int → Int → Int → List Int → List ByteArray → Option (Bool)
 | 0, _, _, _, _, _, _, _ => none
 | k + 1, x3, x60, x117000, x117001, x117002, x117003, x117004 => if x60 = true then (some false) else (spec_l3Ok.l1 k x3 0 x117000 x117001 x117002 x117003 x117004)
def spec_l3Ok.l1 : Nat → Int → Int → Int → Int → Int → List Int → List ByteArray → Option (Bool)
 | 0, _, _, _, _, _, _, _ => none
 | k + 1, x3, x4, x117000, x117001, x117002, x117003, x117004 => if x4 < x3 then (if 0 ≤ x4 then (if x4 < (x117003.length : Int) then (if 0 ≤ x3 then (if x3 < (x117003.length : Int) then (if (rd x117003 x4) = (rd x117003 x3) then (some false) else (spec_l3Ok.l1 k x3 (wrap64 (x4 + 1)) x117000 x117001 x117002 x117003 x117004)) else (none)) else (none)) else (none)) else (none)) else (spec_l3Ok.l0 k (wrap64 (x3 + 1)) x117000 x117001 x117002 x117003 x117004)
end
def spec_l3Ok.f (k : Nat) (a0_0 : Int) (a0_1 : Int) (a0_2 : Int) (l0_3 : List Int) (l0_4 : List ByteArray) : Option (Bool) := (spec_l3Shape.f a0_0 a0_1 a0_2 l0_3 l0_4).bind fun t117 => (if t117 = true then (if a0_0 = 1 then (spec_l3Ok.j0 k ((l0_3.length : Int) != a0_2) a0_0 a0_1 a0_2 l0_3 l0_4) else (spec_l3Ok.j0 k false a0_0 a0_1 a0_2 l0_3 l0_4)) else (spec_l3Ok.j0 k true a0_0 a0_1 a0_2 l0_3 l0_4))


def spec_l3Ok.T6 : Bool × List (List Nat × List Nat) := (true, [([], []), ([0], [0]), ([], []), ([1, 2], [1, 2]), ([3], [3]), ([4], [4]), ([], []), ([6], [6]), ([5, 7], [5, 7]), ([8], [8]), ([9], [9]), ([10, 9], [9, 10]), ([9], [9]), ([11, 12, 9], [9, 11, 12]), ([13, 9], [9, 13]), ([9, 9], [9]), ([14, 15, 15, 9], [9, 14, 15]), ([16, 9], [9, 16]), ([9, 17], [9, 17]), ([18, 16], [18]), ([19], [19]), ([20, 19], [19, 20]), ([21, 19], [19, 21]), ([22, 19, 19], [19, 22]), ([23], [23]), ([24, 23], [23, 24]), ([23], [23]), ([25, 26, 23], [23, 25, 26]), ([27, 23], [23, 27]), ([23], [23]), ([28, 29, 23], [23, 28, 29]), ([23, 30, 19], [19, 23, 30]), ([19, 31], [19, 31])])
def spec_l3Ok.B6 : List Nat := [0, 1, 0, 7, 15, 31, 0, 64, 255, 511, 1023, 2047, 1023, 8191, 16383, 1023, 65535, 131071, 262143, 524287, 1048575, 2097151, 4194303, 8388607, 16777215, 33554431, 16777215, 134217727, 268435455, 16777215, 1073741823, 2147483647, 4294967295]
theorem spec_l3Ok.tab6 : rtab .any (opsOf Try.f24 6) = spec_l3Ok.T6 := by kernel_rfl
theorem spec_l3Ok.bits6 : waitsOk spec_l3Ok.T6.2 spec_l3Ok.B6 = true := by kernel_rfl
def spec_l3Ok.T11 : Bool × List (List Nat × List Nat) := (true, [([], []), ([0], [0]), ([], []), ([1, 2], [1, 2]), ([3], [3]), ([], []), ([5], [5]), ([], []), ([6, 7], [6, 7]), ([8], [8]), ([4, 9], [4, 9])])
def spec_l3Ok.B11 : List Nat := [0, 1, 0, 7, 15, 0, 32, 0, 224, 480, 1023]
theorem spec_l3Ok.tab11 : rtab .any (opsOf Try.f24 11) = spec_l3Ok.T11 := by kernel_rfl
theorem spec_l3Ok.bits11 : waitsOk spec_l3Ok.T11.2 spec_l3Ok.B11 = true := by kernel_rfl
set_option maxHeartbeats 8000000 in
set_option maxRecDepth 100000 in
theorem spec_l3Ok.calls (k : Nat) (a0_0 : Int) (a0_1 : Int) (a0_2 : Int) (A0_3 : Option Addr) (c0_3 : Nat) (l0_3 : List Int) (A0_4 : Option Addr) (c0_4 : Nat) (l0_4 : List ByteArray) (r : Bool) (w : World) (hr0_3 : Kd.C (Kd.int .i64) w A0_3 l0_3.length l0_3) (hc0_3 : l0_3.length ≤ c0_3) (hr0_4 : Kd.C Kd.string w A0_4 l0_4.length l0_4) (hc0_4 : l0_4.length ≤ c0_4) (h : spec_l3Ok.f k a0_0 a0_1 a0_2 l0_3 l0_4 = some r) :
  Calls Try.prog 24 #[.agg #[.int .i64 a0_0, .int .i64 a0_1, .int .i64 a0_2, .slice A0_3 l0_3.length c0_3, .slice A0_4 l0_4.length c0_4]] w fun e w' => e = .returned (.bool r) ∧ Below w.heap.size w w' := by
 have hu54 := Try.underlying54
 have HR0_3 := Aside0.mk hr0_3
 have HC0_3 := Aside0.mk hc0_3
 clear hr0_3 hc0_3
 have HR0_4 := Aside0.mk hr0_4
 have HC0_4 := Aside0.mk hc0_4
 clear hr0_4 hc0_4
 have HB := Aside0.mk (Below.refl w.heap.size w)
 have H : ((spec_l3Shape.f a0_0 a0_1 a0_2 l0_3 l0_4).bind fun t117 => (if t117 = true then (if a0_0 = 1 then (spec_l3Ok.j0 k ((l0_3.length : Int) != a0_2) a0_0 a0_1 a0_2 l0_3 l0_4) else (spec_l3Ok.j0 k false a0_0 a0_1 a0_2 l0_3 l0_4)) else (spec_l3Ok.j0 k true a0_0 a0_1 a0_2 l0_3 l0_4))) = some r := h
 clear h
 have HC2 := Aside0.mk H
 clear H
 go_enter Try.func24, Try.ntmps24
 go_upto_region 1 with (first | ((with_reducible refine gate_dst (N := 1) rfl ?_); (try (refine gate_guard (by rfl) ?_; dsimp only)); refine be 1 #[.int .i64 a0_0, .int .i64 a0_1, .int .i64 a0_2, .slice A0_3 l0_3.length c0_3, .slice A0_4 l0_4.length c0_4] 54 ?_; intro gb116 hg w3 hbox hb; have BK116 := Aside0.mk hbox; have GW116 := zW hg; replace HB := zS hb; have GE116 := GW116; clear hb hbox hg))
 (try simp only [Act.put, List.setIfInBounds_toArray, List.set_cons_zero, List.set_cons_succ])
 go_cut [20] (fun v20 wc => ∃ (kq : Nat) (x20_1 : Bool), v20 = .bool x20_1 ∧ Aside0 (spec_l3Ok.j0 kq x20_1 a0_0 a0_1 a0_2 l0_3 l0_4 = some r) ∧ Aside0 (kq ≤ k) ∧ Aside0 (wc.heap[gb116]? = some (.cells #[.int .i64 a0_0, .int .i64 a0_1, .int .i64 a0_2, (.slice A0_3 l0_3.length c0_3), (.slice A0_4 l0_4.length c0_4)] 54 (0, 0))) ∧ Aside0 (Below w.heap.size w wc))
 case first =>
  have H := HC2.out
  clear HC2
  replace H := Option.bind_eq_some_iff.mp H
  obtain ⟨t117, A40, H⟩ := H
  try dsimp only at H
  have A4 := Aside0.mk A40
  clear A40
  by_cases c5 : t117 = true
  ·subst c5
   rw [if_pos rfl] at H
   by_cases c6 : a0_0 = 1
   ·rw [if_pos c6] at H
    have c6b0 : (a0_0 == 1) = true := beq_iff_eq.mpr c6
    have c6b1 : (a0_0 != 1) = false := bne_eq_false_iff_eq.mpr c6
    clear c6
    (first | rw [c6b0] | (simp only [i64_w, i32_w]; rw [c6b0]) | skip)
    have H' := Aside0.mk H
    clear H
    obtain ⟨hcz7_0, hcz7_1, hcz7_2, hcz7_3, hcz7_4, hfz7_0, hfz7_1, hfz7_2, hfz7_3, hfz7_4⟩ := zc5 BK116
    go_wp2_with (first | ((with_reducible refine gate_callee (f := 42) rfl ?_); refine gl 6 Try.func42 #[.agg #[.int .i64 a0_0, .int .i64 a0_1, .int .i64 a0_2, .slice A0_3 l0_3.length c0_3, .slice A0_4 l0_4.length c0_4]] ?_; (with_reducible refine (spec_l3Shape.calls a0_0 a0_1 a0_2 _ _ l0_3 _ _ l0_4 true _ ?side1 ?side2 ?side3 ?side4 A4.out).mono ?_); (case side1 => repeat (first | exact (Kd.C_below HR0_3.out HB.out) | (with_reducible refine Kd.C_alloc ?_ _) | (with_reducible refine Kd.C_drewN ?_ _) | (with_reducible refine Kd.C_drew ?_))); (case side2 => exact HC0_3.out); (case side3 => repeat (first | exact (Kd.C_below HR0_4.out HB.out) | (with_reducible refine Kd.C_alloc ?_ _) | (with_reducible refine Kd.C_drewN ?_ _) | (with_reducible refine Kd.C_drew ?_))); (case side4 => exact HC0_4.out); rintro e w8 ⟨rfl, hb⟩; refine ⟨_, rfl, ?_⟩; replace BK116 := zb BK116 hb rfl; replace HB := zS hb; try clear hb; obtain ⟨hcz9_0, hcz9_1, hcz9_2, hcz9_3, hcz9_4, hfz9_0, hfz9_1, hfz9_2, hfz9_3, hfz9_4⟩ := zc5 BK116))
    go_meet
    case rel => exact ⟨_, (((l0_3.length : Int) != a0_2)), (by first | rfl | (simp; done) | (simp [*]; done)), H', ⟨by first | omega | exact Nat.le_refl _⟩, ⟨by exact bq BK116.out⟩, ⟨zB⟩⟩
   ·rw [if_neg c6] at H
    have c6b0 : (a0_0 == 1) = false := beq_eq_false_iff_ne.mpr c6
    have c6b1 : (a0_0 != 1) = true := bne_iff_ne.mpr c6
    (first | rw [c6b0] | (simp only [i64_w, i32_w]; rw [c6b0]) | skip)
    have H' := Aside0.mk H
    clear H
    obtain ⟨hcz10_0, hcz10_1, hcz10_2, hcz10_3, hcz10_4, hfz10_0, hfz10_1, hfz10_2, hfz10_3, hfz10_4⟩ := zc5 BK116
    go_wp2_with (first | ((with_reducible refine gate_callee (f := 42) rfl ?_); refine gl 6 Try.func42 #[.agg #[.int .i64 a0_0, .int .i64 a0_1, .int .i64 a0_2, .slice A0_3 l0_3.length c0_3, .slice A0_4 l0_4.length c0_4]] ?_; (with_reducible refine (spec_l3Shape.calls a0_0 a0_1 a0_2 _ _ l0_3 _ _ l0_4 true _ ?side1 ?side2 ?side3 ?side4 A4.out).mono ?_); (case side1 => repeat (first | exact (Kd.C_below HR0_3.out HB.out) | (with_reducible refine Kd.C_alloc ?_ _) | (with_reducible refine Kd.C_drewN ?_ _) | (with_reducible refine Kd.C_drew ?_))); (case side2 => exact HC0_3.out); (case side3 => repeat (first | exact (Kd.C_below HR0_4.out HB.out) | (with_reducible refine Kd.C_alloc ?_ _) | (with_reducible refine Kd.C_drewN ?_ _) | (with_reducible refine Kd.C_drew ?_))); (case side4 => exact HC0_4.out); rintro e w11 ⟨rfl, hb⟩; refine ⟨_, rfl, ?_⟩; replace BK116 := zb BK116 hb rfl; replace HB := zS hb; try clear hb; obtain ⟨hcz12_0, hcz12_1, hcz12_2, hcz12_3, hcz12_4, hfz12_0, hfz12_1, hfz12_2, hfz12_3, hfz12_4⟩ := zc5 BK116))
    go_meet
    case rel => exact ⟨_, (false), (by first | rfl | (simp; done) | (simp [*]; done)), H', ⟨by first | omega | exact Nat.le_refl _⟩, ⟨by exact bq BK116.out⟩, ⟨zB⟩⟩
  ·replace c5 := Bool.eq_false_iff.mpr c5
   subst c5
   rw [if_neg (show ¬ (false = true) by decide)] at H
   have H' := Aside0.mk H
   clear H
   obtain ⟨hcz13_0, hcz13_1, hcz13_2, hcz13_3, hcz13_4, hfz13_0, hfz13_1, hfz13_2, hfz13_3, hfz13_4⟩ := zc5 BK116
   go_wp2_with (first | ((with_reducible refine gate_callee (f := 42) rfl ?_); refine gl 6 Try.func42 #[.agg #[.int .i64 a0_0, .int .i64 a0_1, .int .i64 a0_2, .slice A0_3 l0_3.length c0_3, .slice A0_4 l0_4.length c0_4]] ?_; (with_reducible refine (spec_l3Shape.calls a0_0 a0_1 a0_2 _ _ l0_3 _ _ l0_4 false _ ?side1 ?side2 ?side3 ?side4 A4.out).mono ?_); (case side1 => repeat (first | exact (Kd.C_below HR0_3.out HB.out) | (with_reducible refine Kd.C_alloc ?_ _) | (with_reducible refine Kd.C_drewN ?_ _) | (with_reducible refine Kd.C_drew ?_))); (case side2 => exact HC0_3.out); (case side3 => repeat (first | exact (Kd.C_below HR0_4.out HB.out) | (with_reducible refine Kd.C_alloc ?_ _) | (with_reducible refine Kd.C_drewN ?_ _) | (with_reducible refine Kd.C_drew ?_))); (case side4 => exact HC0_4.out); rintro e w14 ⟨rfl, hb⟩; refine ⟨_, rfl, ?_⟩; replace BK116 := zb BK116 hb rfl; replace HB := zS hb; try clear hb))
   go_meet
   case rel => exact ⟨_, (true), (by first | rfl | (simp; done) | (simp [*]; done)), H', ⟨by first | omega | exact Nat.le_refl _⟩, ⟨by exact bq BK116.out⟩, ⟨zB⟩⟩
 case rest =>
  clear HC2
  try clear c2
  try clear p2
  try clear c4
  try clear c5
  try clear c6
  try clear c6b0
  try clear c6b1
  try clear hcz10_0 hcz10_1 hcz10_2 hcz10_3 hcz10_4 hfz10_0 hfz10_1 hfz10_2 hfz10_3 hfz10_4
  try clear hcz12_0 hcz12_1 hcz12_2 hcz12_3 hcz12_4 hfz12_0 hfz12_1 hfz12_2 hfz12_3 hfz12_4
  try clear hcz13_0 hcz13_1 hcz13_2 hcz13_3 hcz13_4 hfz13_0 hfz13_1 hfz13_2 hfz13_3 hfz13_4
  try clear hcz7_0 hcz7_1 hcz7_2 hcz7_3 hcz7_4 hfz7_0 hfz7_1 hfz7_2 hfz7_3 hfz7_4
  try clear hcz9_0 hcz9_1 hcz9_2 hcz9_3 hcz9_4 hfz9_0 hfz9_1 hfz9_2 hfz9_3 hfz9_4
  obtain ⟨kq, x20_1, rfl, HA, HJ1, BK116, HB⟩ := hcut
  cases kq with
  | zero => exact absurd HA.out (by simp [spec_l3Ok.j0])
  | succ kj1 =>
   have H := HA.out
   clear HA
   simp only [spec_l3Ok.j0] at H
   by_cases c15 : x20_1 = true
   ·subst c15
    rw [if_pos rfl] at H
    obtain rfl := Option.some.inj H
    go_wp2
    go_ret
    exact ⟨zR, zB⟩
   ·replace c15 := Bool.eq_false_iff.mpr c15
    subst c15
    rw [if_neg (show ¬ (false = true) by decide)] at H
    have H' := Aside0.mk H
    clear H
    go_wp2
    go_loopg [3] kj1 (fun kq v3 w' => ∃ (x3_2 : Int), v3 = .int .i64 x3_2 ∧ Aside0 (spec_l3Ok.l0 kq x3_2 a0_0 a0_1 a0_2 l0_3 l0_4 = some r) ∧ Aside0 (kq ≤ kj1) ∧ Aside0 (w'.heap[gb116]? = some (.cells #[.int .i64 a0_0, .int .i64 a0_1, .int .i64 a0_2, (.slice A0_3 l0_3.length c0_3), (.slice A0_4 l0_4.length c0_4)] 54 (0, 0))) ∧ Aside0 (Below w.heap.size w w'))
    case atStart => exact ⟨(0), (by first | rfl | (simp; done) | (simp [*]; done)), H', ⟨Nat.le_refl _⟩, ⟨by exact bq BK116.out⟩, ⟨zB⟩⟩
    case round =>
     clear H'
     try clear c1
     try clear c2
     try clear p2 p2
     try clear c4
     try clear c5
     try clear c6
     try clear c6b0
     try clear c6b1
     try clear c15
     try clear hcz10_0 hcz10_1 hcz10_2 hcz10_3 hcz10_4 hfz10_0 hfz10_1 hfz10_2 hfz10_3 hfz10_4
     try clear hcz12_0 hcz12_1 hcz12_2 hcz12_3 hcz12_4 hfz12_0 hfz12_1 hfz12_2 hfz12_3 hfz12_4
     try clear hcz13_0 hcz13_1 hcz13_2 hcz13_3 hcz13_4 hfz13_0 hfz13_1 hfz13_2 hfz13_3 hfz13_4
     try clear hcz7_0 hcz7_1 hcz7_2 hcz7_3 hcz7_4 hfz7_0 hfz7_1 hfz7_2 hfz7_3 hfz7_4
     try clear hcz9_0 hcz9_1 hcz9_2 hcz9_3 hcz9_4 hfz9_0 hfz9_1 hfz9_2 hfz9_3 hfz9_4
     obtain ⟨x3_2, rfl, HA, HK2, BK116, HB⟩ := hrel
     cases gk with
     | zero => exact absurd HA.out (by simp [spec_l3Ok.l0])
     | succ k2 =>
      have H := HA.out
      clear HA
      simp only [spec_l3Ok.l0] at H
      by_cases c16 : x3_2 < (l0_3.length : Int)
      ·rw [if_pos c16] at H
       have c16b0 : decide (x3_2 < (l0_3.length : Int)) = true := decide_eq_true c16
       clear c16
       have HC17 := Aside0.mk H
       clear H
       obtain ⟨hcz18_0, hcz18_1, hcz18_2, hcz18_3, hcz18_4, hfz18_0, hfz18_1, hfz18_2, hfz18_3, hfz18_4⟩ := zc5 BK116
       go_upto_region 6 with (fail)
       go_cut [60] (fun v60 wc => ∃ (kq : Nat) (x60_16 : Bool), v60 = .bool x60_16 ∧ Aside0 (spec_l3Ok.j2 kq x3_2 x60_16 a0_0 a0_1 a0_2 l0_3 l0_4 = some r) ∧ Aside0 (kq ≤ k2) ∧ Aside0 (wc.heap[gb116]? = some (.cells #[.int .i64 a0_0, .int .i64 a0_1, .int .i64 a0_2, (.slice A0_3 l0_3.length c0_3), (.slice A0_4 l0_4.length c0_4)] 54 (0, 0))) ∧ Aside0 (Below w.heap.size w wc))
       case first =>
        have H := HC17.out
        clear HC17
        by_cases c19 : 0 ≤ x3_2
        ·rw [if_pos c19] at H
         have c19b0 : decide (0 ≤ x3_2) = true := decide_eq_true c19
         clear c19
         (first | rw [c19b0] | (simp only [i64_w, i32_w]; rw [c19b0]) | skip)
         by_cases c20 : x3_2 < (l0_4.length : Int)
         ·rw [if_pos c20] at H
          have c20b0 : decide (x3_2 < (l0_4.length : Int)) = true := decide_eq_true c20
          clear c20
          by_cases c21 : ((rdOf ByteArray.empty l0_4 x3_2).size : Int) = a0_1
          ·rw [if_pos c21] at H
           have c21b0 : (((rdOf ByteArray.empty l0_4 x3_2).size : Int) == a0_1) = true := beq_iff_eq.mpr c21
           have c21b1 : (((rdOf ByteArray.empty l0_4 x3_2).size : Int) != a0_1) = false := bne_eq_false_iff_eq.mpr c21
           clear c21
           have AC_spec_l2Top := Aside0.mk (show spec_l2Top.f = some 4294967295 from rfl)
           replace H := Option.bind_eq_some_iff.mp H
           obtain ⟨t120, A220, H⟩ := H
           try dsimp only at H
           have A22 := Aside0.mk A220
           clear A220
           by_cases c23 : t120 = true
           ·subst c23
            rw [if_pos rfl] at H
            by_cases c24 : a0_0 = 1
            ·rw [if_pos c24] at H
             have c24b0 : (a0_0 == 1) = true := beq_iff_eq.mpr c24
             have c24b1 : (a0_0 != 1) = false := bne_eq_false_iff_eq.mpr c24
             clear c24
             have H' := Aside0.mk H
             clear H
             try go_wp2
             replace BK116 := Aside0.mk (blk_drew BK116.out)
             replace HB := Aside0.mk (below_drew1 HB.out)
             have p118 : 0 ≤ (x3_2 : Int) := of_decide_eq_true (by first | (with_reducible assumption) | assumption)
             have q118 : x3_2 < (l0_4.length : Int) := of_decide_eq_true (by first | (with_reducible assumption) | assumption)
             obtain ⟨ad118, e118, hx118_0⟩ := Kd.at_string HR0_4.out x3_2 p118 q118
             have hw118_0 := hx118_0
             cases e118
             replace hx118_0 := (HB.out.cell (World.block_lt_of_cell? w _ hx118_0)).trans hx118_0
             replace p118 := eq_true p118
             replace q118 := eq_true q118
             have p119 : 0 ≤ (x3_2 : Int) := of_decide_eq_true (by first | (with_reducible assumption) | assumption)
             have q119 : x3_2 < (l0_3.length : Int) := of_decide_eq_true (by first | (with_reducible assumption) | assumption)
             obtain ⟨ad119, e119, hx119_0⟩ := Kd.at_int HR0_3.out x3_2 p119 q119
             have hw119_0 := hx119_0
             cases e119
             replace hx119_0 := (HB.out.cell (World.block_lt_of_cell? w _ hx119_0)).trans hx119_0
             replace p119 := eq_true p119
             replace q119 := eq_true q119
             have p121 : 0 ≤ (x3_2 : Int) := of_decide_eq_true (by first | (with_reducible assumption) | assumption)
             have q121 : x3_2 < (l0_3.length : Int) := of_decide_eq_true (by first | (with_reducible assumption) | assumption)
             obtain ⟨ad121, e121, hx121_0⟩ := Kd.at_int HR0_3.out x3_2 p121 q121
             have hw121_0 := hx121_0
             obtain rfl : ad119 = ad121 := (by injection e121)
             replace hx121_0 := (HB.out.cell (World.block_lt_of_cell? w _ hx121_0)).trans hx121_0
             replace p121 := eq_true p121
             replace q121 := eq_true q121
             refine start_ (n := 33) (S := fun w' => w'.cell? ⟨gb116, 0, none⟩ = some (.int .i64 a0_0) ∧ w'.cell? ⟨gb116, 1, none⟩ = some (.int .i64 a0_1) ∧ w'.cell? ⟨gb116, 2, none⟩ = some (.int .i64 a0_2) ∧ w'.cell? ⟨gb116, 3, none⟩ = some (.slice (some ad119) l0_3.length c0_3) ∧ w'.cell? ⟨gb116, 4, none⟩ = some (.slice (some ad118) l0_4.length c0_4) ∧ w'.cell? (ad118.add (x3_2).toNat) = some (.string (rdOf ByteArray.empty l0_4 x3_2)) ∧ w'.cell? (ad119.add (x3_2).toNat) = some (.int .i64 (rd l0_3 x3_2)) ∧ w'.cell? (ad119.add (x3_2).toNat) = some (.int .i64 (rd l0_3 x3_2))) (ds := []) #[false, false, false, false, false, false, false, false, false, false, false, false, false, false, false, false, false, false, false, false, false, false, false, false, false, false, false, false, false, false, false, false, false] (by kernel_rfl) rfl rfl ⟨(blk_cell BK116.out 0).trans rfl, (blk_cell BK116.out 1).trans rfl, (blk_cell BK116.out 2).trans rfl, (blk_cell BK116.out 3).trans rfl, (blk_cell BK116.out 4).trans rfl, ((HB.out.cell (World.block_lt_of_cell? w _ hw118_0)).trans hw118_0), ((HB.out.cell (World.block_lt_of_cell? w _ hw119_0)).trans hw119_0), ((HB.out.cell (World.block_lt_of_cell? w _ hw121_0)).trans hw121_0)⟩ (fun hHeld => ?_); refine with_tabW spec_l3Ok.tab6 spec_l3Ok.bits6 (fun HT_ HW_ => ?_)
             generalize wr.drew = w25 at BK116 HB hx118_0 hx119_0 hx121_0 hHeld ⊢
             refine pz 0 28 ?_
             refine pz 2 30 ?_
             refine pz 6 34 ?_
             refine tz 1 29 ?_
             refine pz 3 31 ?_
             refine tz 4 32 ?_
             refine pz 5 33 ?_
             refine tz 7 35 ?_
             refine pz 8 36 ?_
             refine pz 9 37 ?_
             refine pz 10 38 ?_
             refine pz 12 40 ?_
             refine tz 11 39 ?_
             refine pz 13 41 ?_
             refine tz 14 42 ?_
             refine oz 15 43 fun K hK => ?_
             refine gz Try.func26 #[] ?_
             with_reducible refine (spec_l2Top.calls  4294967295 _ AC_spec_l2Top.out).mono ?_
             rintro e w' ⟨rfl, ⟨nd, rfl⟩⟩
             refine ⟨_, rfl, ?_⟩
             refine hK.out _ _ ⟨(blk_cell BK116.out 0).trans rfl, (blk_cell BK116.out 1).trans rfl, (blk_cell BK116.out 2).trans rfl, (blk_cell BK116.out 3).trans rfl, (blk_cell BK116.out 4).trans rfl, ((HB.out.cell (World.block_lt_of_cell? w _ hw118_0)).trans hw118_0), ((HB.out.cell (World.block_lt_of_cell? w _ hw119_0)).trans hw119_0), ((HB.out.cell (World.block_lt_of_cell? w _ hw121_0)).trans hw121_0)⟩ (fun hHeld => ?_)
             clear hK K
             refine nz ?_
             refine oz 16 44 fun K hK => ?_
             refine gz Try.func25 #[.int .i64 (rd l0_3 x3_2), .int .i64 0, .int .i64 4294967295] ?_
             with_reducible refine (spec_l1In.calls (rd l0_3 x3_2) 0 4294967295 true _ A22.out).mono ?_
             rintro e w' ⟨rfl, ⟨nd, rfl⟩⟩
             refine ⟨_, rfl, ?_⟩
             refine hK.out _ _ ⟨(blk_cell BK116.out 0).trans rfl, (blk_cell BK116.out 1).trans rfl, (blk_cell BK116.out 2).trans rfl, (blk_cell BK116.out 3).trans rfl, (blk_cell BK116.out 4).trans rfl, ((HB.out.cell (World.block_lt_of_cell? w _ hw118_0)).trans hw118_0), ((HB.out.cell (World.block_lt_of_cell? w _ hw119_0)).trans hw119_0), ((HB.out.cell (World.block_lt_of_cell? w _ hw121_0)).trans hw121_0)⟩ (fun hHeld => ?_)
             clear hK K
             refine nz ?_
             refine pz 17 45 ?_
             refine pz 18 46 ?_
             refine pz 19 47 ?_
             refine pz 20 48 ?_
             refine tz 21 49 ?_
             refine pz 22 50 ?_
             refine pz 23 51 ?_
             refine pz 24 52 ?_
             refine pz 26 54 ?_
             refine pz 29 57 ?_
             refine tz 25 53 ?_
             refine pz 27 55 ?_
             refine tz 28 56 ?_
             refine pz 30 58 ?_
             refine pz 31 59 ?_
             refine pz 32 60 ?_
             refine done_ (done_of HT_.out (by kernel_rfl)) ?_
             try go_wp2
             go_meet
             case rel => exact ⟨_, (((rd l0_3 x3_2) != x3_2)), (by first | rfl | (simp; done) | (simp [*]; done)), H', ⟨by have := HJ1.out; have := HK2.out; first | omega | exact Nat.le_refl _⟩, ⟨by exact bq BK116.out⟩, ⟨zB⟩⟩
            ·rw [if_neg c24] at H
             have c24b0 : (a0_0 == 1) = false := beq_eq_false_iff_ne.mpr c24
             have c24b1 : (a0_0 != 1) = true := bne_iff_ne.mpr c24
             have H' := Aside0.mk H
             clear H
             try go_wp2
             replace BK116 := Aside0.mk (blk_drew BK116.out)
             replace HB := Aside0.mk (below_drew1 HB.out)
             have p118 : 0 ≤ (x3_2 : Int) := of_decide_eq_true (by first | (with_reducible assumption) | assumption)
             have q118 : x3_2 < (l0_4.length : Int) := of_decide_eq_true (by first | (with_reducible assumption) | assumption)
             obtain ⟨ad118, e118, hx118_0⟩ := Kd.at_string HR0_4.out x3_2 p118 q118
             have hw118_0 := hx118_0
             cases e118
             replace hx118_0 := (HB.out.cell (World.block_lt_of_cell? w _ hx118_0)).trans hx118_0
             replace p118 := eq_true p118
             replace q118 := eq_true q118
             have p119 : 0 ≤ (x3_2 : Int) := of_decide_eq_true (by first | (with_reducible assumption) | assumption)
             have q119 : x3_2 < (l0_3.length : Int) := of_decide_eq_true (by first | (with_reducible assumption) | assumption)
             obtain ⟨ad119, e119, hx119_0⟩ := Kd.at_int HR0_3.out x3_2 p119 q119
             have hw119_0 := hx119_0
             cases e119
             replace hx119_0 := (HB.out.cell (World.block_lt_of_cell? w _ hx119_0)).trans hx119_0
             replace p119 := eq_true p119
             replace q119 := eq_true q119
             refine start_ (n := 33) (S := fun w' => w'.cell? ⟨gb116, 0, none⟩ = some (.int .i64 a0_0) ∧ w'.cell? ⟨gb116, 1, none⟩ = some (.int .i64 a0_1) ∧ w'.cell? ⟨gb116, 2, none⟩ = some (.int .i64 a0_2) ∧ w'.cell? ⟨gb116, 3, none⟩ = some (.slice (some ad119) l0_3.length c0_3) ∧ w'.cell? ⟨gb116, 4, none⟩ = some (.slice (some ad118) l0_4.length c0_4) ∧ w'.cell? (ad118.add (x3_2).toNat) = some (.string (rdOf ByteArray.empty l0_4 x3_2)) ∧ w'.cell? (ad119.add (x3_2).toNat) = some (.int .i64 (rd l0_3 x3_2))) (ds := []) #[false, false, false, false, false, false, false, false, false, false, false, false, false, false, false, false, false, false, false, false, false, false, false, false, false, false, false, false, false, false, false, false, false] (by kernel_rfl) rfl rfl ⟨(blk_cell BK116.out 0).trans rfl, (blk_cell BK116.out 1).trans rfl, (blk_cell BK116.out 2).trans rfl, (blk_cell BK116.out 3).trans rfl, (blk_cell BK116.out 4).trans rfl, ((HB.out.cell (World.block_lt_of_cell? w _ hw118_0)).trans hw118_0), ((HB.out.cell (World.block_lt_of_cell? w _ hw119_0)).trans hw119_0)⟩ (fun hHeld => ?_); refine with_tabW spec_l3Ok.tab6 spec_l3Ok.bits6 (fun HT_ HW_ => ?_)
             generalize wr.drew = w26 at BK116 HB hx118_0 hx119_0 hHeld ⊢
             refine pz 0 28 ?_
             refine pz 2 30 ?_
             refine pz 6 34 ?_
             refine tz 1 29 ?_
             refine pz 3 31 ?_
             refine tz 4 32 ?_
             refine pz 5 33 ?_
             refine tz 7 35 ?_
             refine pz 8 36 ?_
             refine pz 9 37 ?_
             refine pz 10 38 ?_
             refine pz 12 40 ?_
             refine tz 11 39 ?_
             refine pz 13 41 ?_
             refine tz 14 42 ?_
             refine oz 15 43 fun K hK => ?_
             refine gz Try.func26 #[] ?_
             with_reducible refine (spec_l2Top.calls  4294967295 _ AC_spec_l2Top.out).mono ?_
             rintro e w' ⟨rfl, ⟨nd, rfl⟩⟩
             refine ⟨_, rfl, ?_⟩
             refine hK.out _ _ ⟨(blk_cell BK116.out 0).trans rfl, (blk_cell BK116.out 1).trans rfl, (blk_cell BK116.out 2).trans rfl, (blk_cell BK116.out 3).trans rfl, (blk_cell BK116.out 4).trans rfl, ((HB.out.cell (World.block_lt_of_cell? w _ hw118_0)).trans hw118_0), ((HB.out.cell (World.block_lt_of_cell? w _ hw119_0)).trans hw119_0)⟩ (fun hHeld => ?_)
             clear hK K
             refine nz ?_
             refine oz 16 44 fun K hK => ?_
             refine gz Try.func25 #[.int .i64 (rd l0_3 x3_2), .int .i64 0, .int .i64 4294967295] ?_
             with_reducible refine (spec_l1In.calls (rd l0_3 x3_2) 0 4294967295 true _ A22.out).mono ?_
             rintro e w' ⟨rfl, ⟨nd, rfl⟩⟩
             refine ⟨_, rfl, ?_⟩
             refine hK.out _ _ ⟨(blk_cell BK116.out 0).trans rfl, (blk_cell BK116.out 1).trans rfl, (blk_cell BK116.out 2).trans rfl, (blk_cell BK116.out 3).trans rfl, (blk_cell BK116.out 4).trans rfl, ((HB.out.cell (World.block_lt_of_cell? w _ hw118_0)).trans hw118_0), ((HB.out.cell (World.block_lt_of_cell? w _ hw119_0)).trans hw119_0)⟩ (fun hHeld => ?_)
             clear hK K
             refine nz ?_
             refine pz 17 45 ?_
             refine pz 18 46 ?_
             refine pz 19 47 ?_
             refine pz 20 48 ?_
             refine tz 21 49 ?_
             refine pz 22 50 ?_
             refine pz 23 51 ?_
             refine uz 24 52 ?_
             refine uz 25 53 ?_
             refine uz 26 54 ?_
             refine uz 27 55 ?_
             refine uz 28 56 ?_
             refine uz 29 57 ?_
             refine uz 30 58 ?_
             refine pz 31 59 ?_
             refine pz 32 60 ?_
             refine done_ (done_of HT_.out (by kernel_rfl)) ?_
             try go_wp2
             go_meet
             case rel => exact ⟨_, (false), (by first | rfl | (simp; done) | (simp [*]; done)), H', ⟨by have := HJ1.out; have := HK2.out; first | omega | exact Nat.le_refl _⟩, ⟨by exact bq BK116.out⟩, ⟨zB⟩⟩
           ·replace c23 := Bool.eq_false_iff.mpr c23
            subst c23
            rw [if_neg (show ¬ (false = true) by decide)] at H
            have H' := Aside0.mk H
            clear H
            try go_wp2
            replace BK116 := Aside0.mk (blk_drew BK116.out)
            replace HB := Aside0.mk (below_drew1 HB.out)
            have p118 : 0 ≤ (x3_2 : Int) := of_decide_eq_true (by first | (with_reducible assumption) | assumption)
            have q118 : x3_2 < (l0_4.length : Int) := of_decide_eq_true (by first | (with_reducible assumption) | assumption)
            obtain ⟨ad118, e118, hx118_0⟩ := Kd.at_string HR0_4.out x3_2 p118 q118
            have hw118_0 := hx118_0
            cases e118
            replace hx118_0 := (HB.out.cell (World.block_lt_of_cell? w _ hx118_0)).trans hx118_0
            replace p118 := eq_true p118
            replace q118 := eq_true q118
            have p119 : 0 ≤ (x3_2 : Int) := of_decide_eq_true (by first | (with_reducible assumption) | assumption)
            have q119 : x3_2 < (l0_3.length : Int) := of_decide_eq_true (by first | (with_reducible assumption) | assumption)
            obtain ⟨ad119, e119, hx119_0⟩ := Kd.at_int HR0_3.out x3_2 p119 q119
            have hw119_0 := hx119_0
            cases e119
            replace hx119_0 := (HB.out.cell (World.block_lt_of_cell? w _ hx119_0)).trans hx119_0
            replace p119 := eq_true p119
            replace q119 := eq_true q119
            refine start_ (n := 33) (S := fun w' => w'.cell? ⟨gb116, 0, none⟩ = some (.int .i64 a0_0) ∧ w'.cell? ⟨gb116, 1, none⟩ = some (.int .i64 a0_1) ∧ w'.cell? ⟨gb116, 2, none⟩ = some (.int .i64 a0_2) ∧ w'.cell? ⟨gb116, 3, none⟩ = some (.slice (some ad119) l0_3.length c0_3) ∧ w'.cell? ⟨gb116, 4, none⟩ = some (.slice (some ad118) l0_4.length c0_4) ∧ w'.cell? (ad118.add (x3_2).toNat) = some (.string (rdOf ByteArray.empty l0_4 x3_2)) ∧ w'.cell? (ad119.add (x3_2).toNat) = some (.int .i64 (rd l0_3 x3_2))) (ds := []) #[false, false, false, false, false, false, false, false, false, false, false, false, false, false, false, false, false, false, false, false, false, false, false, false, false, false, false, false, false, false, false, false, false] (by kernel_rfl) rfl rfl ⟨(blk_cell BK116.out 0).trans rfl, (blk_cell BK116.out 1).trans rfl, (blk_cell BK116.out 2).trans rfl, (blk_cell BK116.out 3).trans rfl, (blk_cell BK116.out 4).trans rfl, ((HB.out.cell (World.block_lt_of_cell? w _ hw118_0)).trans hw118_0), ((HB.out.cell (World.block_lt_of_cell? w _ hw119_0)).trans hw119_0)⟩ (fun hHeld => ?_); refine with_tabW spec_l3Ok.tab6 spec_l3Ok.bits6 (fun HT_ HW_ => ?_)
            generalize wr.drew = w27 at BK116 HB hx118_0 hx119_0 hHeld ⊢
            refine pz 0 28 ?_
            refine pz 2 30 ?_
            refine pz 6 34 ?_
            refine tz 1 29 ?_
            refine pz 3 31 ?_
            refine tz 4 32 ?_
            refine pz 5 33 ?_
            refine tz 7 35 ?_
            refine pz 8 36 ?_
            refine pz 9 37 ?_
            refine pz 10 38 ?_
            refine pz 12 40 ?_
            refine tz 11 39 ?_
            refine pz 13 41 ?_
            refine tz 14 42 ?_
            refine oz 15 43 fun K hK => ?_
            refine gz Try.func26 #[] ?_
            with_reducible refine (spec_l2Top.calls  4294967295 _ AC_spec_l2Top.out).mono ?_
            rintro e w' ⟨rfl, ⟨nd, rfl⟩⟩
            refine ⟨_, rfl, ?_⟩
            refine hK.out _ _ ⟨(blk_cell BK116.out 0).trans rfl, (blk_cell BK116.out 1).trans rfl, (blk_cell BK116.out 2).trans rfl, (blk_cell BK116.out 3).trans rfl, (blk_cell BK116.out 4).trans rfl, ((HB.out.cell (World.block_lt_of_cell? w _ hw118_0)).trans hw118_0), ((HB.out.cell (World.block_lt_of_cell? w _ hw119_0)).trans hw119_0)⟩ (fun hHeld => ?_)
            clear hK K
            refine nz ?_
            refine oz 16 44 fun K hK => ?_
            refine gz Try.func25 #[.int .i64 (rd l0_3 x3_2), .int .i64 0, .int .i64 4294967295] ?_
            with_reducible refine (spec_l1In.calls (rd l0_3 x3_2) 0 4294967295 false _ A22.out).mono ?_
            rintro e w' ⟨rfl, ⟨nd, rfl⟩⟩
            refine ⟨_, rfl, ?_⟩
            refine hK.out _ _ ⟨(blk_cell BK116.out 0).trans rfl, (blk_cell BK116.out 1).trans rfl, (blk_cell BK116.out 2).trans rfl, (blk_cell BK116.out 3).trans rfl, (blk_cell BK116.out 4).trans rfl, ((HB.out.cell (World.block_lt_of_cell? w _ hw118_0)).trans hw118_0), ((HB.out.cell (World.block_lt_of_cell? w _ hw119_0)).trans hw119_0)⟩ (fun hHeld => ?_)
            clear hK K
            refine nz ?_
            refine pz 17 45 ?_
            refine pz 18 46 ?_
            refine pz 19 47 ?_
            refine uz 20 48 ?_
            refine uz 21 49 ?_
            refine uz 22 50 ?_
            refine uz 23 51 ?_
            refine uz 24 52 ?_
            refine uz 25 53 ?_
            refine uz 26 54 ?_
            refine uz 27 55 ?_
            refine uz 28 56 ?_
            refine uz 29 57 ?_
            refine uz 30 58 ?_
            refine uz 31 59 ?_
            refine pz 32 60 ?_
            refine done_ (done_of HT_.out (by kernel_rfl)) ?_
            try go_wp2
            go_meet
            case rel => exact ⟨_, (true), (by first | rfl | (simp; done) | (simp [*]; done)), H', ⟨by have := HJ1.out; have := HK2.out; first | omega | exact Nat.le_refl _⟩, ⟨by exact bq BK116.out⟩, ⟨zB⟩⟩
          ·rw [if_neg c21] at H
           have c21b0 : (((rdOf ByteArray.empty l0_4 x3_2).size : Int) == a0_1) = false := beq_eq_false_iff_ne.mpr c21
           have c21b1 : (((rdOf ByteArray.empty l0_4 x3_2).size : Int) != a0_1) = true := bne_iff_ne.mpr c21
           have H' := Aside0.mk H
           clear H
           try go_wp2
           replace BK116 := Aside0.mk (blk_drew BK116.out)
           replace HB := Aside0.mk (below_drew1 HB.out)
           have p118 : 0 ≤ (x3_2 : Int) := of_decide_eq_true (by first | (with_reducible assumption) | assumption)
           have q118 : x3_2 < (l0_4.length : Int) := of_decide_eq_true (by first | (with_reducible assumption) | assumption)
           obtain ⟨ad118, e118, hx118_0⟩ := Kd.at_string HR0_4.out x3_2 p118 q118
           have hw118_0 := hx118_0
           cases e118
           replace hx118_0 := (HB.out.cell (World.block_lt_of_cell? w _ hx118_0)).trans hx118_0
           replace p118 := eq_true p118
           replace q118 := eq_true q118
           refine start_ (n := 33) (S := fun w' => w'.cell? ⟨gb116, 0, none⟩ = some (.int .i64 a0_0) ∧ w'.cell? ⟨gb116, 1, none⟩ = some (.int .i64 a0_1) ∧ w'.cell? ⟨gb116, 2, none⟩ = some (.int .i64 a0_2) ∧ w'.cell? ⟨gb116, 3, none⟩ = some (.slice A0_3 l0_3.length c0_3) ∧ w'.cell? ⟨gb116, 4, none⟩ = some (.slice (some ad118) l0_4.length c0_4) ∧ w'.cell? (ad118.add (x3_2).toNat) = some (.string (rdOf ByteArray.empty l0_4 x3_2))) (ds := []) #[false, false, false, false, false, false, false, false, false, false, false, false, false, false, false, false, false, false, false, false, false, false, false, false, false, false, false, false, false, false, false, false, false] (by kernel_rfl) rfl rfl ⟨(blk_cell BK116.out 0).trans rfl, (blk_cell BK116.out 1).trans rfl, (blk_cell BK116.out 2).trans rfl, (blk_cell BK116.out 3).trans rfl, (blk_cell BK116.out 4).trans rfl, ((HB.out.cell (World.block_lt_of_cell? w _ hw118_0)).trans hw118_0)⟩ (fun hHeld => ?_); refine with_tabW spec_l3Ok.tab6 spec_l3Ok.bits6 (fun HT_ HW_ => ?_)
           generalize wr.drew = w28 at BK116 HB hx118_0 hHeld ⊢
           refine pz 0 28 ?_
           refine pz 2 30 ?_
           refine pz 6 34 ?_
           refine tz 1 29 ?_
           refine pz 3 31 ?_
           refine tz 4 32 ?_
           refine pz 5 33 ?_
           refine tz 7 35 ?_
           refine pz 8 36 ?_
           refine pz 9 37 ?_
           refine uz 10 38 ?_
           refine uz 11 39 ?_
           refine uz 12 40 ?_
           refine uz 13 41 ?_
           refine uz 14 42 ?_
           refine uz 15 43 ?_
           refine uz 16 44 ?_
           refine uz 17 45 ?_
           refine pz 18 46 ?_
           refine pz 19 47 ?_
           refine uz 20 48 ?_
           refine uz 21 49 ?_
           refine uz 22 50 ?_
           refine uz 23 51 ?_
           refine uz 24 52 ?_
           refine uz 25 53 ?_
           refine uz 26 54 ?_
           refine uz 27 55 ?_
           refine uz 28 56 ?_
           refine uz 29 57 ?_
           refine uz 30 58 ?_
           refine uz 31 59 ?_
           refine pz 32 60 ?_
           refine done_ (done_of HT_.out (by kernel_rfl)) ?_
           try go_wp2
           go_meet
           case rel => exact ⟨_, (true), (by first | rfl | (simp; done) | (simp [*]; done)), H', ⟨by have := HJ1.out; have := HK2.out; first | omega | exact Nat.le_refl _⟩, ⟨by exact bq BK116.out⟩, ⟨zB⟩⟩
         ·rw [if_neg c20] at H
          exact absurd H (by simp)
        ·rw [if_neg c19] at H
         exact absurd H (by simp)
       case rest =>
        clear HC17
        try clear c1
        try clear p1
        try clear q1
        try clear hx1
        try clear c2
        try clear p2
        try clear p11
        try clear q11
        try clear hx11
        try clear c19
        try clear c20
        try clear c21
        try clear c21b0
        try clear c21b1
        try clear c23
        try clear c25
        try clear c26
        try clear hx118_0
        try clear hx119_0
        try clear p118
        try clear p119
        try clear q118
        try clear q119
        obtain ⟨kq, x60_16, rfl, HA, HJ16, BK116, HB⟩ := hcut
        cases kq with
        | zero => exact absurd HA.out (by simp [spec_l3Ok.j2])
        | succ kj16 =>
         have H := HA.out
         clear HA
         simp only [spec_l3Ok.j2] at H
         by_cases c29 : x60_16 = true
         ·subst c29
          rw [if_pos rfl] at H
          obtain rfl := Option.some.inj H
          go_wp2
          go_ret
          exact ⟨zR, zB⟩
         ·replace c29 := Bool.eq_false_iff.mpr c29
          subst c29
          rw [if_neg (show ¬ (false = true) by decide)] at H
          have H' := Aside0.mk H
          clear H
          go_wp2
          go_loopg [4] kj16 (fun kq v4 w' => ∃ (x4_4 : Int), v4 = .int .i64 x4_4 ∧ Aside0 (spec_l3Ok.l1 kq x3_2 x4_4 a0_0 a0_1 a0_2 l0_3 l0_4 = some r) ∧ Aside0 (kq ≤ kj16) ∧ Aside0 (w'.heap[gb116]? = some (.cells #[.int .i64 a0_0, .int .i64 a0_1, .int .i64 a0_2, (.slice A0_3 l0_3.length c0_3), (.slice A0_4 l0_4.length c0_4)] 54 (0, 0))) ∧ Aside0 (Below w.heap.size w w'))
          case atStart => exact ⟨(0), (by first | rfl | (simp; done) | (simp [*]; done)), H', ⟨Nat.le_refl _⟩, ⟨by exact bq BK116.out⟩, ⟨zB⟩⟩
          case round =>
           clear H'
           try clear c1
           try clear p1 p1
           try clear q1 q1
           try clear hx1
           try clear c2
           try clear p2 p2
           try clear p11 p11
           try clear q11 q11
           try clear hx11
           try clear c19
           try clear c20
           try clear c21
           try clear c21b0
           try clear c21b1
           try clear c23
           try clear c25
           try clear c26
           try clear c29
           try clear hx118_0
           try clear hx119_0
           try clear p118
           try clear p119
           try clear q118
           try clear q119
           obtain ⟨x4_4, rfl, HA, HK4, BK116, HB⟩ := hrel
           cases gk with
           | zero => exact absurd HA.out (by simp [spec_l3Ok.l1])
           | succ k4 =>
            have H := HA.out
            clear HA
            simp only [spec_l3Ok.l1] at H
            by_cases c30 : x4_4 < x3_2
            ·rw [if_pos c30] at H
             have c30b0 : decide (x4_4 < x3_2) = true := decide_eq_true c30
             clear c30
             by_cases c31 : 0 ≤ x4_4
             ·rw [if_pos c31] at H
              have c31b0 : decide (0 ≤ x4_4) = true := decide_eq_true c31
              clear c31
              by_cases c32 : x4_4 < (l0_3.length : Int)
              ·rw [if_pos c32] at H
               have c32b0 : decide (x4_4 < (l0_3.length : Int)) = true := decide_eq_true c32
               clear c32
               by_cases c33 : 0 ≤ x3_2
               ·rw [if_pos c33] at H
                have c33b0 : decide (0 ≤ x3_2) = true := decide_eq_true c33
                clear c33
                by_cases c34 : x3_2 < (l0_3.length : Int)
                ·rw [if_pos c34] at H
                 have c34b0 : decide (x3_2 < (l0_3.length : Int)) = true := decide_eq_true c34
                 clear c34
                 by_cases c35 : (rd l0_3 x4_4) = (rd l0_3 x3_2)
                 ·rw [if_pos c35] at H
                  have c35b0 : ((rd l0_3 x4_4) == (rd l0_3 x3_2)) = true := beq_iff_eq.mpr c35
                  have c35b1 : ((rd l0_3 x4_4) != (rd l0_3 x3_2)) = false := bne_eq_false_iff_eq.mpr c35
                  clear c35
                  obtain rfl := Option.some.inj H
                  try go_wp2
                  replace BK116 := Aside0.mk (blk_drew BK116.out)
                  replace HB := Aside0.mk (below_drew1 HB.out)
                  have p122 : 0 ≤ (x4_4 : Int) := of_decide_eq_true (by first | (with_reducible assumption) | assumption)
                  have q122 : x4_4 < (l0_3.length : Int) := of_decide_eq_true (by first | (with_reducible assumption) | assumption)
                  obtain ⟨ad122, e122, hx122_0⟩ := Kd.at_int HR0_3.out x4_4 p122 q122
                  have hw122_0 := hx122_0
                  cases e122
                  replace hx122_0 := (HB.out.cell (World.block_lt_of_cell? w _ hx122_0)).trans hx122_0
                  replace p122 := eq_true p122
                  replace q122 := eq_true q122
                  have p123 : 0 ≤ (x3_2 : Int) := of_decide_eq_true (by first | (with_reducible assumption) | assumption)
                  have q123 : x3_2 < (l0_3.length : Int) := of_decide_eq_true (by first | (with_reducible assumption) | assumption)
                  obtain ⟨ad123, e123, hx123_0⟩ := Kd.at_int HR0_3.out x3_2 p123 q123
                  have hw123_0 := hx123_0
                  obtain rfl : ad122 = ad123 := (by injection e123)
                  replace hx123_0 := (HB.out.cell (World.block_lt_of_cell? w _ hx123_0)).trans hx123_0
                  replace p123 := eq_true p123
                  replace q123 := eq_true q123
                  refine start_ (n := 11) (S := fun w' => w'.cell? ⟨gb116, 0, none⟩ = some (.int .i64 a0_0) ∧ w'.cell? ⟨gb116, 1, none⟩ = some (.int .i64 a0_1) ∧ w'.cell? ⟨gb116, 2, none⟩ = some (.int .i64 a0_2) ∧ w'.cell? ⟨gb116, 3, none⟩ = some (.slice (some ad122) l0_3.length c0_3) ∧ w'.cell? ⟨gb116, 4, none⟩ = some (.slice A0_4 l0_4.length c0_4) ∧ w'.cell? (ad122.add (x4_4).toNat) = some (.int .i64 (rd l0_3 x4_4)) ∧ w'.cell? (ad122.add (x3_2).toNat) = some (.int .i64 (rd l0_3 x3_2))) (ds := []) #[false, false, false, false, false, false, false, false, false, false, false] (by kernel_rfl) rfl rfl ⟨(blk_cell BK116.out 0).trans rfl, (blk_cell BK116.out 1).trans rfl, (blk_cell BK116.out 2).trans rfl, (blk_cell BK116.out 3).trans rfl, (blk_cell BK116.out 4).trans rfl, ((HB.out.cell (World.block_lt_of_cell? w _ hw122_0)).trans hw122_0), ((HB.out.cell (World.block_lt_of_cell? w _ hw123_0)).trans hw123_0)⟩ (fun hHeld => ?_); refine with_tabW spec_l3Ok.tab11 spec_l3Ok.bits11 (fun HT_ HW_ => ?_)
                  generalize wr.drew = w36 at BK116 HB hx122_0 hx123_0 hHeld ⊢
                  refine pz 0 66 ?_
                  refine pz 2 68 ?_
                  refine pz 5 71 ?_
                  refine pz 7 73 ?_
                  refine tz 1 67 ?_
                  refine pz 3 69 ?_
                  refine tz 4 70 ?_
                  refine tz 6 72 ?_
                  refine pz 8 74 ?_
                  refine tz 9 75 ?_
                  refine pz 10 76 ?_
                  refine done_ (done_of HT_.out (by kernel_rfl)) ?_
                  try go_wp2
                  go_ret
                  exact ⟨zR, zB⟩
                 ·rw [if_neg c35] at H
                  have c35b0 : ((rd l0_3 x4_4) == (rd l0_3 x3_2)) = false := beq_eq_false_iff_ne.mpr c35
                  have c35b1 : ((rd l0_3 x4_4) != (rd l0_3 x3_2)) = true := bne_iff_ne.mpr c35
                  have H' := Aside0.mk H
                  clear H
                  try go_wp2
                  replace BK116 := Aside0.mk (blk_drew BK116.out)
                  replace HB := Aside0.mk (below_drew1 HB.out)
                  have p122 : 0 ≤ (x4_4 : Int) := of_decide_eq_true (by first | (with_reducible assumption) | assumption)
                  have q122 : x4_4 < (l0_3.length : Int) := of_decide_eq_true (by first | (with_reducible assumption) | assumption)
                  obtain ⟨ad122, e122, hx122_0⟩ := Kd.at_int HR0_3.out x4_4 p122 q122
                  have hw122_0 := hx122_0
                  cases e122
                  replace hx122_0 := (HB.out.cell (World.block_lt_of_cell? w _ hx122_0)).trans hx122_0
                  replace p122 := eq_true p122
                  replace q122 := eq_true q122
                  have p123 : 0 ≤ (x3_2 : Int) := of_decide_eq_true (by first | (with_reducible assumption) | assumption)
                  have q123 : x3_2 < (l0_3.length : Int) := of_decide_eq_true (by first | (with_reducible assumption) | assumption)
                  obtain ⟨ad123, e123, hx123_0⟩ := Kd.at_int HR0_3.out x3_2 p123 q123
                  have hw123_0 := hx123_0
                  obtain rfl : ad122 = ad123 := (by injection e123)
                  replace hx123_0 := (HB.out.cell (World.block_lt_of_cell? w _ hx123_0)).trans hx123_0
                  replace p123 := eq_true p123
                  replace q123 := eq_true q123
                  refine start_ (n := 11) (S := fun w' => w'.cell? ⟨gb116, 0, none⟩ = some (.int .i64 a0_0) ∧ w'.cell? ⟨gb116, 1, none⟩ = some (.int .i64 a0_1) ∧ w'.cell? ⟨gb116, 2, none⟩ = some (.int .i64 a0_2) ∧ w'.cell? ⟨gb116, 3, none⟩ = some (.slice (some ad122) l0_3.length c0_3) ∧ w'.cell? ⟨gb116, 4, none⟩ = some (.slice A0_4 l0_4.length c0_4) ∧ w'.cell? (ad122.add (x4_4).toNat) = some (.int .i64 (rd l0_3 x4_4)) ∧ w'.cell? (ad122.add (x3_2).toNat) = some (.int .i64 (rd l0_3 x3_2))) (ds := []) #[false, false, false, false, false, false, false, false, false, false, false] (by kernel_rfl) rfl rfl ⟨(blk_cell BK116.out 0).trans rfl, (blk_cell BK116.out 1).trans rfl, (blk_cell BK116.out 2).trans rfl, (blk_cell BK116.out 3).trans rfl, (blk_cell BK116.out 4).trans rfl, ((HB.out.cell (World.block_lt_of_cell? w _ hw122_0)).trans hw122_0), ((HB.out.cell (World.block_lt_of_cell? w _ hw123_0)).trans hw123_0)⟩ (fun hHeld => ?_); refine with_tabW spec_l3Ok.tab11 spec_l3Ok.bits11 (fun HT_ HW_ => ?_)
                  generalize wr.drew = w37 at BK116 HB hx122_0 hx123_0 hHeld ⊢
                  refine pz 0 66 ?_
                  refine pz 2 68 ?_
                  refine pz 5 71 ?_
                  refine pz 7 73 ?_
                  refine tz 1 67 ?_
                  refine pz 3 69 ?_
                  refine tz 4 70 ?_
                  refine tz 6 72 ?_
                  refine pz 8 74 ?_
                  refine tz 9 75 ?_
                  refine pz 10 76 ?_
                  refine done_ (done_of HT_.out (by kernel_rfl)) ?_
                  try go_wp2
                  go_roundg k4
                  case measure => have := HJ1.out; have := HK2.out; have := HJ16.out; have := HK4.out; omega
                  case rel => exact ⟨(wrap64 (x4_4 + 1)), (by first | rfl | (simp; done) | (simp [*]; done)), H', ⟨by have := HJ1.out; have := HK2.out; have := HJ16.out; have := HK4.out; omega⟩, ⟨by exact bq BK116.out⟩, ⟨zB⟩⟩
                ·rw [if_neg c34] at H
                 exact absurd H (by simp)
               ·rw [if_neg c33] at H
                exact absurd H (by simp)
              ·rw [if_neg c32] at H
               exact absurd H (by simp)
             ·rw [if_neg c31] at H
              exact absurd H (by simp)
            ·rw [if_neg c30] at H
             have c30b0 : decide (x4_4 < x3_2) = false := decide_eq_false c30
             clear c30
             have H' := Aside0.mk H
             clear H
             go_wp2
             go_roundg k4
             case measure => have := HJ1.out; have := HK2.out; have := HJ16.out; have := HK4.out; omega
             case rel => exact ⟨(wrap64 (x3_2 + 1)), (by first | rfl | (simp; done) | (simp [*]; done)), H', ⟨by have := HJ1.out; have := HK2.out; have := HJ16.out; have := HK4.out; omega⟩, ⟨by exact bq BK116.out⟩, ⟨zB⟩⟩
      ·rw [if_neg c16] at H
       have c16b0 : decide (x3_2 < (l0_3.length : Int)) = false := decide_eq_false c16
       clear c16
       obtain rfl := Option.some.inj H
       obtain ⟨hcz38_0, hcz38_1, hcz38_2, hcz38_3, hcz38_4, hfz38_0, hfz38_1, hfz38_2, hfz38_3, hfz38_4⟩ := zc5 BK116
       go_wp2
       go_ret
       exact ⟨zR, zB⟩

end Go.Proofs.Ytjalmkoeekbfbaa.Q
