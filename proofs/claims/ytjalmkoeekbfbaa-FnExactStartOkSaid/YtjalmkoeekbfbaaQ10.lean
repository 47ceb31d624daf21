/- The machine's side of this seat's laws: Go functions as Lean functions, and their contracts. By a program of this work over the kit's print. -/
import Derived.Test.YtjalmkoeekbfbaaQ0
import Derived.Test.YtjalmkoeekbfbaaQ7
import Derived.Test.YtjalmkoeekbfbaaQ9
namespace Go.Proofs.Ytjalmkoeekbfbaa.Q
open Go.RowKit Go.Proofs.YtjalmkoeekbfbaaW.PrintWords Go.Proofs.YtjalmkoeekbfbaaW.PrintLast Go.Proofs.YtjalmkoeekbfbaaW.PrintMore
attribute [local go_sem] max2_int min2_int max_two min_two max_three min_three max_four min_four Go.Proofs.YtjalmkoeekbfbaaN.not_i64 Go.Proofs.YtjalmkoeekbfbaaN.isSome_setCell   -- for this text's walks alone
set_option linter.unusedVariables false
set_option linter.unusedSimpArgs false

/-! ### impl_TableOk: function 35 -/
mutual
def impl_TableOk.j0 : Nat → Bool → Int → Int → Int → List Int → List ByteArray → Option (Bool)
 | 0, _, _, _, _, _, _ => none
 | k + 1, x37, x259000, x259001, x259002, x259003, x259004 => if x37 = true then (some false) else (impl_TableOk.l0 k x259003 (x259003.length : Int) 0 x259000 x259001 x259002 x259003 x259004)
def impl_TableOk.l0 : Nat → List Int → Int → Int → Int → Int → Int → List Int → List ByteArray → Option (Bool)
 | 0, _, _, _, _, _, _, _, _ => none
 | k + 1, x39, x40, x41, x259000, x259001, x259002, x259003, x259004 => if x41 < x40 then (if 0 ≤ x41 then (if x41 < (x39.length : Int) then ((impl_numOk.f (rd x39 x41)).bind fun t261 => (if t261 = true then ((impl_Table_find.f k x259000 x259001 x259002 x259003 x259004 (rd x39 x41)).bind fun t262 => (if t262 = x41 then (if x41 < (x259004.length : Int) then (if ((rdOf ByteArray.empty x259004 x41).size : Int) = x259001 then (if x259000 = 1 then (impl_TableOk.j2 k x39 x40 x41 ((rd x39 x41) != x41) x259000 x259001 x259002 x259003 x259004) else (impl_TableOk.j2 k x39 x40 x41 false x259000 x259001 x259002 x259003 x259004)) else (impl_TableOk.j2 k x39 x40 x41 true x259000 x259001 x259002 x259003 x259004)) else (none)) else (impl_TableOk.j2 k x39 x40 x41 true x259000 x259001 x259002 x259003 x259004))) else (impl_TableOk.j2 k x39 x40 x41 true x259000 x259001 x259002 x259003 x259004))) else (none)) else (none)) else (some true)
def impl_TableOk.j2 : Nat → List Int → Int → Int → Bool → Int → Int → Int → List Int → List ByteArray → Option (Bool)
 | 0, _, _, _, _, _, _, _, _, _ => none
 | k + 1, x39, x40, x41, x76, x259000, x259001, x259002, x259003, x259004 => if x76 = true then (some false) else (impl_TableOk.l0 k x39 x40 (wrap64 (x41 + 1)) x259000 x259001 x259002 x259003 x259004)
end
def impl_TableOk.f (k : Nat) (a0_0 : Int) (a0_1 : Int) (a0_2 : Int) (l0_3 : List Int) (l0_4 : List ByteArray) : Option (Bool) := (impl_Table_shaped.f a0_0 a0_1 a0_2 l0_3 l0_4).bind fun t259 => (if t259 = true then (if (l0_3.length : Int) > a0_2 then (impl_TableOk.j0 k true a0_0 a0_1 a0_2 l0_3 l0_4) else (if (l0_4.length : Int) = (l0_3.length : Int) then (if a0_0 = 1 then (impl_TableOk.j0 k ((l0_3.length : Int) != a0_2) a0_0 a0_1 a0_2 l0_3 l0_4) else (impl_TableOk.j0 k false a0_0 a0_1 a0_2 l0_3 l0_4)) else (impl_TableOk.j0 k true a0_0 a0_1 a0_2 l0_3 l0_4))) else (impl_TableOk.j0 k true a0_0 a0_1 a0_2 l0_3 l0_4))


def impl_TableOk.T6 : Bool × List (List Nat × List Nat) := (true, [([], []), ([0], [0]), ([1], [1]), ([2, 1], [2]), ([3], [3]), ([3], [3]), ([4, 5, 3, 3], [3, 4, 5]), ([3], [3]), ([6, 7, 3], [3, 6, 7]), ([3, 8], [3, 8]), ([9, 6], [9]), ([10], [10]), ([11, 10], [10, 11]), ([10], [10]), ([12, 13, 10], [10, 12, 13]), ([14, 10], [10, 14]), ([15, 10], [10, 15]), ([10], [10]), ([17, 10], [10, 17]), ([16, 18, 10], [10, 16, 18]), ([10, 19], [10, 19]), ([20, 10], [20]), ([21], [21]), ([22, 21], [21, 22]), ([23, 21], [21, 23]), ([24, 21, 21], [21, 24]), ([25], [25]), ([25], [25]), ([26, 27, 25], [25, 26, 27]), ([25, 28, 21], [21, 25, 28]), ([21, 29], [21, 29])])
def impl_TableOk.B6 : List Nat := [0, 1, 3, 7, 15, 15, 63, 15, 255, 511, 1023, 2047, 4095, 2047, 16383, 32767, 65535, 2047, 133119, 524287, 1048575, 2097151, 4194303, 8388607, 16777215, 33554431, 67108863, 67108863, 268435455, 536870911, 1073741823]
theorem impl_TableOk.tab6 : rtab .any (opsOf Try.f35 6) = impl_TableOk.T6 := by kernel_rfl
theorem impl_TableOk.bits6 : waitsOk impl_TableOk.T6.2 impl_TableOk.B6 = true := by kernel_rfl
set_option maxHeartbeats 8000000 in
set_option maxRecDepth 100000 in
theorem impl_TableOk.calls (k : Nat) (a0_0 : Int) (a0_1 : Int) (a0_2 : Int) (A0_3 : Option Addr) (c0_3 : Nat) (l0_3 : List Int) (A0_4 : Option Addr) (c0_4 : Nat) (l0_4 : List ByteArray) (r : Bool) (w : World) (hr0_3 : Kd.C (Kd.int .i64) w A0_3 l0_3.length l0_3) (hc0_3 : l0_3.length ≤ c0_3) (hr0_4 : Kd.C Kd.string w A0_4 l0_4.length l0_4) (hc0_4 : l0_4.length ≤ c0_4) (h : impl_TableOk.f k a0_0 a0_1 a0_2 l0_3 l0_4 = some r) :
  Calls Try.prog 35 #[.agg #[.int .i64 a0_0, .int .i64 a0_1, .int .i64 a0_2, .slice A0_3 l0_3.length c0_3, .slice A0_4 l0_4.length c0_4]] w fun e w' => e = .returned (.bool r) ∧ Below w.heap.size w w' := by
 have hu54 := Try.underlying54
 have HR0_3 := Aside0.mk hr0_3
 have HC0_3 := Aside0.mk hc0_3
 clear hr0_3 hc0_3
 have HR0_4 := Aside0.mk hr0_4
 have HC0_4 := Aside0.mk hc0_4
 clear hr0_4 hc0_4
 have HB := Aside0.mk (Below.refl w.heap.size w)
 have H : ((impl_Table_shaped.f a0_0 a0_1 a0_2 l0_3 l0_4).bind fun t259 => (if t259 = true then (if (l0_3.length : Int) > a0_2 then (impl_TableOk.j0 k true a0_0 a0_1 a0_2 l0_3 l0_4) else (if (l0_4.length : Int) = (l0_3.length : Int) then (if a0_0 = 1 then (impl_TableOk.j0 k ((l0_3.length : Int) != a0_2) a0_0 a0_1 a0_2 l0_3 l0_4) else (impl_TableOk.j0 k false a0_0 a0_1 a0_2 l0_3 l0_4)) else (impl_TableOk.j0 k true a0_0 a0_1 a0_2 l0_3 l0_4))) else (impl_TableOk.j0 k true a0_0 a0_1 a0_2 l0_3 l0_4))) = some r := h
 clear h
 have HC2 := Aside0.mk H
 clear H
 go_enter Try.func35, Try.ntmps35
 go_upto_region 1 with (first | ((with_reducible refine gate_dst (N := 1) rfl ?_); (try (refine gate_guard (by rfl) ?_; dsimp only)); refine be 1 #[.int .i64 a0_0, .int .i64 a0_1, .int .i64 a0_2, .slice A0_3 l0_3.length c0_3, .slice A0_4 l0_4.length c0_4] 54 ?_; intro gb258 hg w3 hbox hb; have BK258 := Aside0.mk hbox; have GW258 := zW hg; replace HB := zS hb; have GE258 := GW258; clear hb hbox hg))
 (try simp only [Act.put, List.setIfInBounds_toArray, List.set_cons_zero, List.set_cons_succ])
 go_cut [37] (fun v37 wc => ∃ (kq : Nat) (x37_1 : Bool), v37 = .bool x37_1 ∧ Aside0 (impl_TableOk.j0 kq x37_1 a0_0 a0_1 a0_2 l0_3 l0_4 = some r) ∧ Aside0 (kq ≤ k) ∧ Aside0 (wc.heap[gb258]? = some (.cells #[.int .i64 a0_0, .int .i64 a0_1, .int .i64 a0_2, (.slice A0_3 l0_3.length c0_3), (.slice A0_4 l0_4.length c0_4)] 54 (0, 0))) ∧ Aside0 (Below w.heap.size w wc))
 case first =>
  have H := HC2.out
  clear HC2
  replace H := Option.bind_eq_some_iff.mp H
  obtain ⟨t259, A40, H⟩ := H
  try dsimp only at H
  have A4 := Aside0.mk A40
  clear A40
  by_cases c5 : t259 = true
  ·subst c5
   rw [if_pos rfl] at H
   by_cases c6 : (l0_3.length : Int) > a0_2
   ·rw [if_pos c6] at H
    have c6b0 : decide (a0_2 < (l0_3.length : Int)) = true := decide_eq_true c6
    clear c6
    (first | rw [c6b0] | (simp only [i64_w, i32_w]; rw [c6b0]) | skip)
    have H' := Aside0.mk H
    clear H
    obtain ⟨hcz7_0, hcz7_1, hcz7_2, hcz7_3, hcz7_4, hfz7_0, hfz7_1, hfz7_2, hfz7_3, hfz7_4⟩ := zc5 BK258
    go_wp2_with (first | ((with_reducible refine gate_callee (f := 52) rfl ?_); refine gl 6 Try.func52 #[.agg #[.int .i64 a0_0, .int .i64 a0_1, .int .i64 a0_2, .slice A0_3 l0_3.length c0_3, .slice A0_4 l0_4.length c0_4]] ?_; (with_reducible refine (impl_Table_shaped.calls a0_0 a0_1 a0_2 _ _ l0_3 _ _ l0_4 true _ ?side1 ?side2 ?side3 ?side4 A4.out).mono ?_); (case side1 => repeat (first | exact (Kd.C_below HR0_3.out HB.out) | (with_reducible refine Kd.C_alloc ?_ _) | (with_reducible refine Kd.C_drewN ?_ _) | (with_reducible refine Kd.C_drew ?_))); (case side2 => exact HC0_3.out); (case side3 => repeat (first | exact (Kd.C_below HR0_4.out HB.out) | (with_reducible refine Kd.C_alloc ?_ _) | (with_reducible refine Kd.C_drewN ?_ _) | (with_reducible refine Kd.C_drew ?_))); (case side4 => exact HC0_4.out); rintro e w8 ⟨rfl, hb⟩; refine ⟨_, rfl, ?_⟩; replace BK258 := zb BK258 hb rfl; replace HB := zS hb; try clear hb; obtain ⟨hcz9_0, hcz9_1, hcz9_2, hcz9_3, hcz9_4, hfz9_0, hfz9_1, hfz9_2, hfz9_3, hfz9_4⟩ := zc5 BK258))
    go_meet
    case rel => exact ⟨_, (true), (by first | rfl | (simp; done) | (simp [*]; done)), H', ⟨by first | omega | exact Nat.le_refl _⟩, ⟨by exact bq BK258.out⟩, ⟨zB⟩⟩
   ·rw [if_neg c6] at H
    have c6b0 : decide (a0_2 < (l0_3.length : Int)) = false := decide_eq_false c6
    clear c6
    (first | rw [c6b0] | (simp only [i64_w, i32_w]; rw [c6b0]) | skip)
    by_cases c10 : (l0_4.length : Int) = (l0_3.length : Int)
    ·rw [if_pos c10] at H
     have c10b0 : ((l0_4.length : Int) == (l0_3.length : Int)) = true := beq_iff_eq.mpr c10
     have c10b1 : ((l0_4.length : Int) != (l0_3.length : Int)) = false := bne_eq_false_iff_eq.mpr c10
     have c10b2 : (l0_4.length == l0_3.length) = true := by first | simpa using c10 | (simp at c10 ⊢; omega)
     clear c10
     by_cases c11 : a0_0 = 1
     ·rw [if_pos c11] at H
      have c11b0 : (a0_0 == 1) = true := beq_iff_eq.mpr c11
      have c11b1 : (a0_0 != 1) = false := bne_eq_false_iff_eq.mpr c11
      clear c11
      have H' := Aside0.mk H
      clear H
      obtain ⟨hcz12_0, hcz12_1, hcz12_2, hcz12_3, hcz12_4, hfz12_0, hfz12_1, hfz12_2, hfz12_3, hfz12_4⟩ := zc5 BK258
      go_wp2_with (first | ((with_reducible refine gate_callee (f := 52) rfl ?_); refine gl 6 Try.func52 #[.agg #[.int .i64 a0_0, .int .i64 a0_1, .int .i64 a0_2, .slice A0_3 l0_3.length c0_3, .slice A0_4 l0_4.length c0_4]] ?_; (with_reducible refine (impl_Table_shaped.calls a0_0 a0_1 a0_2 _ _ l0_3 _ _ l0_4 true _ ?side1 ?side2 ?side3 ?side4 A4.out).mono ?_); (case side1 => repeat (first | exact (Kd.C_below HR0_3.out HB.out) | (with_reducible refine Kd.C_alloc ?_ _) | (with_reducible refine Kd.C_drewN ?_ _) | (with_reducible refine Kd.C_drew ?_))); (case side2 => exact HC0_3.out); (case side3 => repeat (first | exact (Kd.C_below HR0_4.out HB.out) | (with_reducible refine Kd.C_alloc ?_ _) | (with_reducible refine Kd.C_drewN ?_ _) | (with_reducible refine Kd.C_drew ?_))); (case side4 => exact HC0_4.out); rintro e w13 ⟨rfl, hb⟩; refine ⟨_, rfl, ?_⟩; replace BK258 := zb BK258 hb rfl; replace HB := zS hb; try clear hb; obtain ⟨hcz14_0, hcz14_1, hcz14_2, hcz14_3, hcz14_4, hfz14_0, hfz14_1, hfz14_2, hfz14_3, hfz14_4⟩ := zc5 BK258))
      go_meet
      case rel => exact ⟨_, (((l0_3.length : Int) != a0_2)), (by first | rfl | (simp; done) | (simp [*]; done)), H', ⟨by first | omega | exact Nat.le_refl _⟩, ⟨by exact bq BK258.out⟩, ⟨zB⟩⟩
     ·rw [if_neg c11] at H
      have c11b0 : (a0_0 == 1) = false := beq_eq_false_iff_ne.mpr c11
      have c11b1 : (a0_0 != 1) = true := bne_iff_ne.mpr c11
      have H' := Aside0.mk H
      clear H
      obtain ⟨hcz15_0, hcz15_1, hcz15_2, hcz15_3, hcz15_4, hfz15_0, hfz15_1, hfz15_2, hfz15_3, hfz15_4⟩ := zc5 BK258
      go_wp2_with (first | ((with_reducible refine gate_callee (f := 52) rfl ?_); refine gl 6 Try.func52 #[.agg #[.int .i64 a0_0, .int .i64 a0_1, .int .i64 a0_2, .slice A0_3 l0_3.length c0_3, .slice A0_4 l0_4.length c0_4]] ?_; (with_reducible refine (impl_Table_shaped.calls a0_0 a0_1 a0_2 _ _ l0_3 _ _ l0_4 true _ ?side1 ?side2 ?side3 ?side4 A4.out).mono ?_); (case side1 => repeat (first | exact (Kd.C_below HR0_3.out HB.out) | (with_reducible refine Kd.C_alloc ?_ _) | (with_reducible refine Kd.C_drewN ?_ _) | (with_reducible refine Kd.C_drew ?_))); (case side2 => exact HC0_3.out); (case side3 => repeat (first | exact (Kd.C_below HR0_4.out HB.out) | (with_reducible refine Kd.C_alloc ?_ _) | (with_reducible refine Kd.C_drewN ?_ _) | (with_reducible refine Kd.C_drew ?_))); (case side4 => exact HC0_4.out); rintro e w16 ⟨rfl, hb⟩; refine ⟨_, rfl, ?_⟩; replace BK258 := zb BK258 hb rfl; replace HB := zS hb; try clear hb; obtain ⟨hcz17_0, hcz17_1, hcz17_2, hcz17_3, hcz17_4, hfz17_0, hfz17_1, hfz17_2, hfz17_3, hfz17_4⟩ := zc5 BK258))
      go_meet
      case rel => exact ⟨_, (false), (by first | rfl | (simp; done) | (simp [*]; done)), H', ⟨by first | omega | exact Nat.le_refl _⟩, ⟨by exact bq BK258.out⟩, ⟨zB⟩⟩
    ·rw [if_neg c10] at H
     have c10b0 : ((l0_4.length : Int) == (l0_3.length : Int)) = false := beq_eq_false_iff_ne.mpr c10
     have c10b1 : ((l0_4.length : Int) != (l0_3.length : Int)) = true := bne_iff_ne.mpr c10
     have c10b2 : (l0_4.length == l0_3.length) = false := by first | simpa using c10 | (simp at c10 ⊢; omega)
     have H' := Aside0.mk H
     clear H
     obtain ⟨hcz18_0, hcz18_1, hcz18_2, hcz18_3, hcz18_4, hfz18_0, hfz18_1, hfz18_2, hfz18_3, hfz18_4⟩ := zc5 BK258
     go_wp2_with (first | ((with_reducible refine gate_callee (f := 52) rfl ?_); refine gl 6 Try.func52 #[.agg #[.int .i64 a0_0, .int .i64 a0_1, .int .i64 a0_2, .slice A0_3 l0_3.length c0_3, .slice A0_4 l0_4.length c0_4]] ?_; (with_reducible refine (impl_Table_shaped.calls a0_0 a0_1 a0_2 _ _ l0_3 _ _ l0_4 true _ ?side1 ?side2 ?side3 ?side4 A4.out).mono ?_); (case side1 => repeat (first | exact (Kd.C_below HR0_3.out HB.out) | (with_reducible refine Kd.C_alloc ?_ _) | (with_reducible refine Kd.C_drewN ?_ _) | (with_reducible refine Kd.C_drew ?_))); (case side2 => exact HC0_3.out); (case side3 => repeat (first | exact (Kd.C_below HR0_4.out HB.out) | (with_reducible refine Kd.C_alloc ?_ _) | (with_reducible refine Kd.C_drewN ?_ _) | (with_reducible refine Kd.C_drew ?_))); (case side4 => exact HC0_4.out); rintro e w19 ⟨rfl, hb⟩; refine ⟨_, rfl, ?_⟩; replace BK258 := zb BK258 hb rfl; replace HB := zS hb; try clear hb; obtain ⟨hcz20_0, hcz20_1, hcz20_2, hcz20_3, hcz20_4, hfz20_0, hfz20_1, hfz20_2, hfz20_3, hfz20_4⟩ := zc5 BK258))
     go_meet
     case rel => exact ⟨_, (true), (by first | rfl | (simp; done) | (simp [*]; done)), H', ⟨by first | omega | exact Nat.le_refl _⟩, ⟨by exact bq BK258.out⟩, ⟨zB⟩⟩
  ·replace c5 := Bool.eq_false_iff.mpr c5
   subst c5
   rw [if_neg (show ¬ (false = true) by decide)] at H
   have H' := Aside0.mk H
   clear H
   obtain ⟨hcz21_0, hcz21_1, hcz21_2, hcz21_3, hcz21_4, hfz21_0, hfz21_1, hfz21_2, hfz21_3, hfz21_4⟩ := zc5 BK258
   go_wp2_with (first | ((with_reducible refine gate_callee (f := 52) rfl ?_); refine gl 6 Try.func52 #[.agg #[.int .i64 a0_0, .int .i64 a0_1, .int .i64 a0_2, .slice A0_3 l0_3.length c0_3, .slice A0_4 l0_4.length c0_4]] ?_; (with_reducible refine (impl_Table_shaped.calls a0_0 a0_1 a0_2 _ _ l0_3 _ _ l0_4 false _ ?side1 ?side2 ?side3 ?side4 A4.out).mono ?_); (case side1 => repeat (first | exact (Kd.C_below HR0_3.out HB.out) | (with_reducible refine Kd.C_alloc ?_ _) | (with_reducible refine Kd.C_drewN ?_ _) | (with_reducible refine Kd.C_drew ?_))); (case side2 => exact HC0_3.out); (case side3 => repeat (first | exact (Kd.C_below HR0_4.out HB.out) | (with_reducible refine Kd.C_alloc ?_ _) | (with_reducible refine Kd.C_drewN ?_ _) | (with_reducible refine Kd.C_drew ?_))); (case side4 => exact HC0_4.out); rintro e w22 ⟨rfl, hb⟩; refine ⟨_, rfl, ?_⟩; replace BK258 := zb BK258 hb rfl; replace HB := zS hb; try clear hb))
   go_meet
   case rel => exact ⟨_, (true), (by first | rfl | (simp; done) | (simp [*]; done)), H', ⟨by first | omega | exact Nat.le_refl _⟩, ⟨by exact bq BK258.out⟩, ⟨zB⟩⟩
 case rest =>
  clear HC2
  try clear c1
  try clear p2
  try clear c3
  try clear c5
  try clear c6
  try clear c6b0
  try clear c10
  try clear c10b0
  try clear c10b1
  try clear c10b2
  try clear c11
  try clear c11b0
  try clear c11b1
  try clear hcz12_0 hcz12_1 hcz12_2 hcz12_3 hcz12_4 hfz12_0 hfz12_1 hfz12_2 hfz12_3 hfz12_4
  try clear hcz14_0 hcz14_1 hcz14_2 hcz14_3 hcz14_4 hfz14_0 hfz14_1 hfz14_2 hfz14_3 hfz14_4
  try clear hcz15_0 hcz15_1 hcz15_2 hcz15_3 hcz15_4 hfz15_0 hfz15_1 hfz15_2 hfz15_3 hfz15_4
  try clear hcz17_0 hcz17_1 hcz17_2 hcz17_3 hcz17_4 hfz17_0 hfz17_1 hfz17_2 hfz17_3 hfz17_4
  try clear hcz18_0 hcz18_1 hcz18_2 hcz18_3 hcz18_4 hfz18_0 hfz18_1 hfz18_2 hfz18_3 hfz18_4
  try clear hcz20_0 hcz20_1 hcz20_2 hcz20_3 hcz20_4 hfz20_0 hfz20_1 hfz20_2 hfz20_3 hfz20_4
  try clear hcz21_0 hcz21_1 hcz21_2 hcz21_3 hcz21_4 hfz21_0 hfz21_1 hfz21_2 hfz21_3 hfz21_4
  try clear hcz7_0 hcz7_1 hcz7_2 hcz7_3 hcz7_4 hfz7_0 hfz7_1 hfz7_2 hfz7_3 hfz7_4
  try clear hcz9_0 hcz9_1 hcz9_2 hcz9_3 hcz9_4 hfz9_0 hfz9_1 hfz9_2 hfz9_3 hfz9_4
  obtain ⟨kq, x37_1, rfl, HA, HJ1, BK258, HB⟩ := hcut
  cases kq with
  | zero => exact absurd HA.out (by simp [impl_TableOk.j0])
  | succ kj1 =>
   have H := HA.out
   clear HA
   simp only [impl_TableOk.j0] at H
   by_cases c23 : x37_1 = true
   ·subst c23
    rw [if_pos rfl] at H
    obtain rfl := Option.some.inj H
    go_wp2
    go_ret
    exact ⟨zR, zB⟩
   ·replace c23 := Bool.eq_false_iff.mpr c23
    subst c23
    rw [if_neg (show ¬ (false = true) by decide)] at H
    have H' := Aside0.mk H
    clear H
    obtain ⟨hcz24_0, hcz24_1, hcz24_2, hcz24_3, hcz24_4, hfz24_0, hfz24_1, hfz24_2, hfz24_3, hfz24_4⟩ := zc5 BK258
    go_wp2
    go_loopg [41] kj1 (fun kq v41 w' => ∃ (x41_2 : Int), v41 = .int .i64 x41_2 ∧ Aside0 (impl_TableOk.l0 kq l0_3 (l0_3.length : Int) x41_2 a0_0 a0_1 a0_2 l0_3 l0_4 = some r) ∧ Aside0 (kq ≤ kj1) ∧ Aside0 (w'.heap[gb258]? = some (.cells #[.int .i64 a0_0, .int .i64 a0_1, .int .i64 a0_2, (.slice A0_3 l0_3.length c0_3), (.slice A0_4 l0_4.length c0_4)] 54 (0, 0))) ∧ Aside0 (Below w.heap.size w w'))
    case atStart => exact ⟨(0), (by first | rfl | (simp; done) | (simp [*]; done)), H', ⟨Nat.le_refl _⟩, ⟨by exact bq BK258.out⟩, ⟨zB⟩⟩
    case round =>
     clear H'
     try clear c1
     try clear c2
     try clear p2 p2
     try clear c3
     try clear c5
     try clear c6
     try clear c6b0
     try clear c10
     try clear c10b0
     try clear c10b1
     try clear c10b2
     try clear c11
     try clear c11b0
     try clear c11b1
     try clear c23
     try clear hcz12_0 hcz12_1 hcz12_2 hcz12_3 hcz12_4 hfz12_0 hfz12_1 hfz12_2 hfz12_3 hfz12_4
     try clear hcz14_0 hcz14_1 hcz14_2 hcz14_3 hcz14_4 hfz14_0 hfz14_1 hfz14_2 hfz14_3 hfz14_4
     try clear hcz15_0 hcz15_1 hcz15_2 hcz15_3 hcz15_4 hfz15_0 hfz15_1 hfz15_2 hfz15_3 hfz15_4
     try clear hcz17_0 hcz17_1 hcz17_2 hcz17_3 hcz17_4 hfz17_0 hfz17_1 hfz17_2 hfz17_3 hfz17_4
     try clear hcz18_0 hcz18_1 hcz18_2 hcz18_3 hcz18_4 hfz18_0 hfz18_1 hfz18_2 hfz18_3 hfz18_4
     try clear hcz20_0 hcz20_1 hcz20_2 hcz20_3 hcz20_4 hfz20_0 hfz20_1 hfz20_2 hfz20_3 hfz20_4
     try clear hcz21_0 hcz21_1 hcz21_2 hcz21_3 hcz21_4 hfz21_0 hfz21_1 hfz21_2 hfz21_3 hfz21_4
     try clear hcz24_0 hcz24_1 hcz24_2 hcz24_3 hcz24_4 hfz24_0 hfz24_1 hfz24_2 hfz24_3 hfz24_4
     try clear hcz7_0 hcz7_1 hcz7_2 hcz7_3 hcz7_4 hfz7_0 hfz7_1 hfz7_2 hfz7_3 hfz7_4
     try clear hcz9_0 hcz9_1 hcz9_2 hcz9_3 hcz9_4 hfz9_0 hfz9_1 hfz9_2 hfz9_3 hfz9_4
     obtain ⟨x41_2, rfl, HA, HK2, BK258, HB⟩ := hrel
     cases gk with
     | zero => exact absurd HA.out (by simp [impl_TableOk.l0])
     | succ k2 =>
      have H := HA.out
      clear HA
      simp only [impl_TableOk.l0] at H
      by_cases c25 : x41_2 < (l0_3.length : Int)
      ·rw [if_pos c25] at H
       have c25b0 : decide (x41_2 < (l0_3.length : Int)) = true := decide_eq_true c25
       clear c25
       by_cases c26 : 0 ≤ x41_2
       ·rw [if_pos c26] at H
        have c26b0 : decide (0 ≤ x41_2) = true := decide_eq_true c26
        clear c26
        by_cases c27 : x41_2 < (l0_3.length : Int)
        ·rw [if_pos c27] at H
         have c27b0 : decide (x41_2 < (l0_3.length : Int)) = true := decide_eq_true c27
         clear c27
         have HC28 := Aside0.mk H
         clear H
         have p260 : 0 ≤ (x41_2 : Int) := of_decide_eq_true (by first | (with_reducible assumption) | assumption)
         have q260 : x41_2 < (l0_3.length : Int) := of_decide_eq_true (by first | (with_reducible assumption) | assumption)
         obtain ⟨ad260, e260, hx260_0⟩ := Kd.at_int HR0_3.out x41_2 p260 q260
         cases e260
         replace hx260_0 := (HB.out.cell (World.block_lt_of_cell? w _ hx260_0)).trans hx260_0
         replace p260 := eq_true p260
         replace q260 := eq_true q260
         go_upto_region 6 with (fail)
         go_cut [76] (fun v76 wc => ∃ (kq : Nat) (x76_27 : Bool), v76 = .bool x76_27 ∧ Aside0 (impl_TableOk.j2 kq l0_3 (l0_3.length : Int) x41_2 x76_27 a0_0 a0_1 a0_2 l0_3 l0_4 = some r) ∧ Aside0 (kq ≤ k2) ∧ Aside0 (wc.heap[gb258]? = some (.cells #[.int .i64 a0_0, .int .i64 a0_1, .int .i64 a0_2, (.slice (some ad260) l0_3.length c0_3), (.slice A0_4 l0_4.length c0_4)] 54 (0, 0))) ∧ Aside0 (Below w.heap.size w wc))
         case first =>
          have H := HC28.out
          clear HC28
          replace H := Option.bind_eq_some_iff.mp H
          obtain ⟨t261, A290, H⟩ := H
          try dsimp only at H
          have A29 := Aside0.mk A290
          clear A290
          by_cases c30 : t261 = true
          ·subst c30
           rw [if_pos rfl] at H
           replace H := Option.bind_eq_some_iff.mp H
           obtain ⟨t262, A310, H⟩ := H
           try dsimp only at H
           have A31 := Aside0.mk A310
           clear A310
           by_cases c32 : t262 = x41_2
           ·rw [if_pos c32] at H
            have c32b0 : (t262 == x41_2) = true := beq_iff_eq.mpr c32
            have c32b1 : (t262 != x41_2) = false := bne_eq_false_iff_eq.mpr c32
            clear c32
            (first | rw [c32b0] | (simp only [i64_w, i32_w]; rw [c32b0]) | skip)
            by_cases c33 : x41_2 < (l0_4.length : Int)
            ·rw [if_pos c33] at H
             have c33b0 : decide (x41_2 < (l0_4.length : Int)) = true := decide_eq_true c33
             clear c33
             by_cases c34 : ((rdOf ByteArray.empty l0_4 x41_2).size : Int) = a0_1
             ·rw [if_pos c34] at H
              have c34b0 : (((rdOf ByteArray.empty l0_4 x41_2).size : Int) == a0_1) = true := beq_iff_eq.mpr c34
              have c34b1 : (((rdOf ByteArray.empty l0_4 x41_2).size : Int) != a0_1) = false := bne_eq_false_iff_eq.mpr c34
              clear c34
              by_cases c35 : a0_0 = 1
              ·rw [if_pos c35] at H
               have c35b0 : (a0_0 == 1) = true := beq_iff_eq.mpr c35
               have c35b1 : (a0_0 != 1) = false := bne_eq_false_iff_eq.mpr c35
               clear c35
               have H' := Aside0.mk H
               clear H
               try go_wp2
               replace BK258 := Aside0.mk (blk_drew BK258.out)
               replace HB := Aside0.mk (below_drew1 HB.out)
               have p263 : 0 ≤ (x41_2 : Int) := of_decide_eq_true (by first | (with_reducible assumption) | assumption)
               have q263 : x41_2 < (l0_4.length : Int) := of_decide_eq_true (by first | (with_reducible assumption) | assumption)
               obtain ⟨ad263, e263, hx263_0⟩ := Kd.at_string HR0_4.out x41_2 p263 q263
               have hw263_0 := hx263_0
               cases e263
               replace hx263_0 := (HB.out.cell (World.block_lt_of_cell? w _ hx263_0)).trans hx263_0
               replace p263 := eq_true p263
               replace q263 := eq_true q263
               refine start_ (n := 31) (S := fun w' => w'.cell? ⟨gb258, 0, none⟩ = some (.int .i64 a0_0) ∧ w'.cell? ⟨gb258, 1, none⟩ = some (.int .i64 a0_1) ∧ w'.cell? ⟨gb258, 2, none⟩ = some (.int .i64 a0_2) ∧ w'.cell? ⟨gb258, 3, none⟩ = some (.slice (some ad260) l0_3.length c0_3) ∧ w'.cell? ⟨gb258, 4, none⟩ = some (.slice (some ad263) l0_4.length c0_4) ∧ w'.cell? (ad263.add (x41_2).toNat) = some (.string (rdOf ByteArray.empty l0_4 x41_2))) (ds := []) #[false, false, false, false, false, false, false, false, false, false, false, false, false, false, false, false, false, false, false, false, false, false, false, false, false, false, false, false, false, false, false] (by kernel_rfl) rfl rfl ⟨(blk_cell BK258.out 0).trans rfl, (blk_cell BK258.out 1).trans rfl, (blk_cell BK258.out 2).trans rfl, (blk_cell BK258.out 3).trans rfl, (blk_cell BK258.out 4).trans rfl, ((HB.out.cell (World.block_lt_of_cell? w _ hw263_0)).trans hw263_0)⟩ (fun hHeld => ?_); refine with_tabW impl_TableOk.tab6 impl_TableOk.bits6 (fun HT_ HW_ => ?_)
               generalize wr.drew = w36 at BK258 HB hx263_0 hHeld ⊢
               refine pz 0 46 ?_
               refine oz 1 47 fun K hK => ?_
               refine gz Try.func38 #[.int .i64 (rd l0_3 x41_2)] ?_
               with_reducible refine (impl_numOk.calls (rd l0_3 x41_2) true _ A29.out).mono ?_
               rintro e w' ⟨rfl, ⟨nd, rfl⟩⟩
               refine ⟨_, rfl, ?_⟩
               refine hK.out _ _ ⟨(blk_cell BK258.out 0).trans rfl, (blk_cell BK258.out 1).trans rfl, (blk_cell BK258.out 2).trans rfl, (blk_cell BK258.out 3).trans rfl, (blk_cell BK258.out 4).trans rfl, ((HB.out.cell (World.block_lt_of_cell? w _ hw263_0)).trans hw263_0)⟩ (fun hHeld => ?_)
               clear hK K
               refine nz ?_
               refine pz 2 48 ?_
               refine pz 3 49 ?_
               refine pz 5 51 ?_
               refine pz 7 53 ?_
               refine tz 4 50 ?_
               refine oz 6 52 fun K hK => ?_
               refine gz Try.func53 #[.agg #[.int .i64 a0_0, .int .i64 a0_1, .int .i64 a0_2, .slice (some ad260) l0_3.length c0_3, .slice (some ad263) l0_4.length c0_4], .int .i64 (rd l0_3 x41_2)] ?_
               with_reducible refine (impl_Table_find.calls k2 a0_0 a0_1 a0_2 _ _ l0_3 _ _ l0_4 (rd l0_3 x41_2) t262 _ ?side1 ?side2 ?side3 ?side4 A31.out).mono ?_
               (case side1 => repeat (first | exact (Kd.C_below HR0_3.out zB) | (with_reducible refine Kd.C_alloc ?_ _) | (with_reducible refine Kd.C_drewN ?_ _) | (with_reducible refine Kd.C_drew ?_)))
               (case side2 => exact HC0_3.out)
               (case side3 => repeat (first | exact (Kd.C_below HR0_4.out zB) | (with_reducible refine Kd.C_alloc ?_ _) | (with_reducible refine Kd.C_drewN ?_ _) | (with_reducible refine Kd.C_drew ?_)))
               (case side4 => exact HC0_4.out)
               rintro e w37 ⟨rfl, hb⟩
               refine ⟨_, rfl, ?_⟩
               replace BK258 := zb BK258 hb rfl
               replace HB := zS hb
               try clear hb
               refine hK.out _ _ ⟨(blk_cell BK258.out 0).trans rfl, (blk_cell BK258.out 1).trans rfl, (blk_cell BK258.out 2).trans rfl, (blk_cell BK258.out 3).trans rfl, (blk_cell BK258.out 4).trans rfl, ((HB.out.cell (World.block_lt_of_cell? w _ hw263_0)).trans hw263_0)⟩ (fun hHeld => ?_)
               clear hK K
               refine nz ?_
               refine pz 8 54 ?_
               refine pz 9 55 ?_
               refine pz 10 56 ?_
               refine pz 11 57 ?_
               refine pz 13 59 ?_
               refine pz 17 63 ?_
               refine tz 12 58 ?_
               refine pz 14 60 ?_
               refine tz 15 61 ?_
               refine pz 16 62 ?_
               refine tz 18 64 ?_
               refine pz 19 65 ?_
               refine pz 20 66 ?_
               refine pz 21 67 ?_
               refine pz 22 68 ?_
               refine tz 23 69 ?_
               refine pz 24 70 ?_
               refine pz 25 71 ?_
               refine pz 26 72 ?_
               refine pz 27 73 ?_
               refine pz 28 74 ?_
               refine pz 29 75 ?_
               refine pz 30 76 ?_
               refine done_ (done_of HT_.out (by kernel_rfl)) ?_
               try go_wp2
               go_meet
               case rel => exact ⟨_, (((rd l0_3 x41_2) != x41_2)), (by first | rfl | (simp; done) | (simp [*]; done)), H', ⟨by have := HJ1.out; have := HK2.out; first | omega | exact Nat.le_refl _⟩, ⟨by exact bq BK258.out⟩, ⟨zB⟩⟩
              ·rw [if_neg c35] at H
               have c35b0 : (a0_0 == 1) = false := beq_eq_false_iff_ne.mpr c35
               have c35b1 : (a0_0 != 1) = true := bne_iff_ne.mpr c35
               have H' := Aside0.mk H
               clear H
               try go_wp2
               replace BK258 := Aside0.mk (blk_drew BK258.out)
               replace HB := Aside0.mk (below_drew1 HB.out)
               have p263 : 0 ≤ (x41_2 : Int) := of_decide_eq_true (by first | (with_reducible assumption) | assumption)
               have q263 : x41_2 < (l0_4.length : Int) := of_decide_eq_true (by first | (with_reducible assumption) | assumption)
               obtain ⟨ad263, e263, hx263_0⟩ := Kd.at_string HR0_4.out x41_2 p263 q263
               have hw263_0 := hx263_0
               cases e263
               replace hx263_0 := (HB.out.cell (World.block_lt_of_cell? w _ hx263_0)).trans hx263_0
               replace p263 := eq_true p263
               replace q263 := eq_true q263
               refine start_ (n := 31) (S := fun w' => w'.cell? ⟨gb258, 0, none⟩ = some (.int .i64 a0_0) ∧ w'.cell? ⟨gb258, 1, none⟩ = some (.int .i64 a0_1) ∧ w'.cell? ⟨gb258, 2, none⟩ = some (.int .i64 a0_2) ∧ w'.cell? ⟨gb258, 3, none⟩ = some (.slice (some ad260) l0_3.length c0_3) ∧ w'.cell? ⟨gb258, 4, none⟩ = some (.slice (some ad263) l0_4.length c0_4) ∧ w'.cell? (ad263.add (x41_2).toNat) = some (.string (rdOf ByteArray.empty l0_4 x41_2))) (ds := []) #[false, false, false, false, false, false, false, false, false, false, false, false, false, false, false, false, false, false, false, false, false, false, false, false, false, false, false, false, false, false, false] (by kernel_rfl) rfl rfl ⟨(blk_cell BK258.out 0).trans rfl, (blk_cell BK258.out 1).trans rfl, (blk_cell BK258.out 2).trans rfl, (blk_cell BK258.out 3).trans rfl, (blk_cell BK258.out 4).trans rfl, ((HB.out.cell (World.block_lt_of_cell? w _ hw263_0)).trans hw263_0)⟩ (fun hHeld => ?_); refine with_tabW impl_TableOk.tab6 impl_TableOk.bits6 (fun HT_ HW_ => ?_)
               generalize wr.drew = w38 at BK258 HB hx263_0 hHeld ⊢
               refine pz 0 46 ?_
               refine oz 1 47 fun K hK => ?_
               refine gz Try.func38 #[.int .i64 (rd l0_3 x41_2)] ?_
               with_reducible refine (impl_numOk.calls (rd l0_3 x41_2) true _ A29.out).mono ?_
               rintro e w' ⟨rfl, ⟨nd, rfl⟩⟩
               refine ⟨_, rfl, ?_⟩
               refine hK.out _ _ ⟨(blk_cell BK258.out 0).trans rfl, (blk_cell BK258.out 1).trans rfl, (blk_cell BK258.out 2).trans rfl, (blk_cell BK258.out 3).trans rfl, (blk_cell BK258.out 4).trans rfl, ((HB.out.cell (World.block_lt_of_cell? w _ hw263_0)).trans hw263_0)⟩ (fun hHeld => ?_)
               clear hK K
               refine nz ?_
               refine pz 2 48 ?_
               refine pz 3 49 ?_
               refine pz 5 51 ?_
               refine pz 7 53 ?_
               refine tz 4 50 ?_
               refine oz 6 52 fun K hK => ?_
               refine gz Try.func53 #[.agg #[.int .i64 a0_0, .int .i64 a0_1, .int .i64 a0_2, .slice (some ad260) l0_3.length c0_3, .slice (some ad263) l0_4.length c0_4], .int .i64 (rd l0_3 x41_2)] ?_
               with_reducible refine (impl_Table_find.calls k2 a0_0 a0_1 a0_2 _ _ l0_3 _ _ l0_4 (rd l0_3 x41_2) t262 _ ?side1 ?side2 ?side3 ?side4 A31.out).mono ?_
               (case side1 => repeat (first | exact (Kd.C_below HR0_3.out zB) | (with_reducible refine Kd.C_alloc ?_ _) | (with_reducible refine Kd.C_drewN ?_ _) | (with_reducible refine Kd.C_drew ?_)))
               (case side2 => exact HC0_3.out)
               (case side3 => repeat (first | exact (Kd.C_below HR0_4.out zB) | (with_reducible refine Kd.C_alloc ?_ _) | (with_reducible refine Kd.C_drewN ?_ _) | (with_reducible refine Kd.C_drew ?_)))
               (case side4 => exact HC0_4.out)
               rintro e w39 ⟨rfl, hb⟩
               refine ⟨_, rfl, ?_⟩
               replace BK258 := zb BK258 hb rfl
               replace HB := zS hb
               try clear hb
               refine hK.out _ _ ⟨(blk_cell BK258.out 0).trans rfl, (blk_cell BK258.out 1).trans rfl, (blk_cell BK258.out 2).trans rfl, (blk_cell BK258.out 3).trans rfl, (blk_cell BK258.out 4).trans rfl, ((HB.out.cell (World.block_lt_of_cell? w _ hw263_0)).trans hw263_0)⟩ (fun hHeld => ?_)
               clear hK K
               refine nz ?_
               refine pz 8 54 ?_
               refine pz 9 55 ?_
               refine pz 10 56 ?_
               refine pz 11 57 ?_
               refine pz 13 59 ?_
               refine pz 17 63 ?_
               refine tz 12 58 ?_
               refine pz 14 60 ?_
               refine tz 15 61 ?_
               refine pz 16 62 ?_
               refine tz 18 64 ?_
               refine pz 19 65 ?_
               refine pz 20 66 ?_
               refine pz 21 67 ?_
               refine pz 22 68 ?_
               refine tz 23 69 ?_
               refine pz 24 70 ?_
               refine pz 25 71 ?_
               refine uz 26 72 ?_
               refine uz 27 73 ?_
               refine uz 28 74 ?_
               refine pz 29 75 ?_
               refine pz 30 76 ?_
               refine done_ (done_of HT_.out (by kernel_rfl)) ?_
               try go_wp2
               go_meet
               case rel => exact ⟨_, (false), (by first | rfl | (simp; done) | (simp [*]; done)), H', ⟨by have := HJ1.out; have := HK2.out; first | omega | exact Nat.le_refl _⟩, ⟨by exact bq BK258.out⟩, ⟨zB⟩⟩
             ·rw [if_neg c34] at H
              have c34b0 : (((rdOf ByteArray.empty l0_4 x41_2).size : Int) == a0_1) = false := beq_eq_false_iff_ne.mpr c34
              have c34b1 : (((rdOf ByteArray.empty l0_4 x41_2).size : Int) != a0_1) = true := bne_iff_ne.mpr c34
              have H' := Aside0.mk H
              clear H
              try go_wp2
              replace BK258 := Aside0.mk (blk_drew BK258.out)
              replace HB := Aside0.mk (below_drew1 HB.out)
              have p263 : 0 ≤ (x41_2 : Int) := of_decide_eq_true (by first | (with_reducible assumption) | assumption)
              have q263 : x41_2 < (l0_4.length : Int) := of_decide_eq_true (by first | (with_reducible assumption) | assumption)
              obtain ⟨ad263, e263, hx263_0⟩ := Kd.at_string HR0_4.out x41_2 p263 q263
              have hw263_0 := hx263_0
              cases e263
              replace hx263_0 := (HB.out.cell (World.block_lt_of_cell? w _ hx263_0)).trans hx263_0
              replace p263 := eq_true p263
              replace q263 := eq_true q263
              refine start_ (n := 31) (S := fun w' => w'.cell? ⟨gb258, 0, none⟩ = some (.int .i64 a0_0) ∧ w'.cell? ⟨gb258, 1, none⟩ = some (.int .i64 a0_1) ∧ w'.cell? ⟨gb258, 2, none⟩ = some (.int .i64 a0_2) ∧ w'.cell? ⟨gb258, 3, none⟩ = some (.slice (some ad260) l0_3.length c0_3) ∧ w'.cell? ⟨gb258, 4, none⟩ = some (.slice (some ad263) l0_4.length c0_4) ∧ w'.cell? (ad263.add (x41_2).toNat) = some (.string (rdOf ByteArray.empty l0_4 x41_2))) (ds := []) #[false, false, false, false, false, false, false, false, false, false, false, false, false, false, false, false, false, false, false, false, false, false, false, false, false, false, false, false, false, false, false] (by kernel_rfl) rfl rfl ⟨(blk_cell BK258.out 0).trans rfl, (blk_cell BK258.out 1).trans rfl, (blk_cell BK258.out 2).trans rfl, (blk_cell BK258.out 3).trans rfl, (blk_cell BK258.out 4).trans rfl, ((HB.out.cell (World.block_lt_of_cell? w _ hw263_0)).trans hw263_0)⟩ (fun hHeld => ?_); refine with_tabW impl_TableOk.tab6 impl_TableOk.bits6 (fun HT_ HW_ => ?_)
              generalize wr.drew = w40 at BK258 HB hx263_0 hHeld ⊢
              refine pz 0 46 ?_
              refine oz 1 47 fun K hK => ?_
              refine gz Try.func38 #[.int .i64 (rd l0_3 x41_2)] ?_
              with_reducible refine (impl_numOk.calls (rd l0_3 x41_2) true _ A29.out).mono ?_
              rintro e w' ⟨rfl, ⟨nd, rfl⟩⟩
              refine ⟨_, rfl, ?_⟩
              refine hK.out _ _ ⟨(blk_cell BK258.out 0).trans rfl, (blk_cell BK258.out 1).trans rfl, (blk_cell BK258.out 2).trans rfl, (blk_cell BK258.out 3).trans rfl, (blk_cell BK258.out 4).trans rfl, ((HB.out.cell (World.block_lt_of_cell? w _ hw263_0)).trans hw263_0)⟩ (fun hHeld => ?_)
              clear hK K
              refine nz ?_
              refine pz 2 48 ?_
              refine pz 3 49 ?_
              refine pz 5 51 ?_
              refine pz 7 53 ?_
              refine tz 4 50 ?_
              refine oz 6 52 fun K hK => ?_
              refine gz Try.func53 #[.agg #[.int .i64 a0_0, .int .i64 a0_1, .int .i64 a0_2, .slice (some ad260) l0_3.length c0_3, .slice (some ad263) l0_4.length c0_4], .int .i64 (rd l0_3 x41_2)] ?_
              with_reducible refine (impl_Table_find.calls k2 a0_0 a0_1 a0_2 _ _ l0_3 _ _ l0_4 (rd l0_3 x41_2) t262 _ ?side1 ?side2 ?side3 ?side4 A31.out).mono ?_
              (case side1 => repeat (first | exact (Kd.C_below HR0_3.out zB) | (with_reducible refine Kd.C_alloc ?_ _) | (with_reducible refine Kd.C_drewN ?_ _) | (with_reducible refine Kd.C_drew ?_)))
              (case side2 => exact HC0_3.out)
              (case side3 => repeat (first | exact (Kd.C_below HR0_4.out zB) | (with_reducible refine Kd.C_alloc ?_ _) | (with_reducible refine Kd.C_drewN ?_ _) | (with_reducible refine Kd.C_drew ?_)))
              (case side4 => exact HC0_4.out)
              rintro e w41 ⟨rfl, hb⟩
              refine ⟨_, rfl, ?_⟩
              replace BK258 := zb BK258 hb rfl
              replace HB := zS hb
              try clear hb
              refine hK.out _ _ ⟨(blk_cell BK258.out 0).trans rfl, (blk_cell BK258.out 1).trans rfl, (blk_cell BK258.out 2).trans rfl, (blk_cell BK258.out 3).trans rfl, (blk_cell BK258.out 4).trans rfl, ((HB.out.cell (World.block_lt_of_cell? w _ hw263_0)).trans hw263_0)⟩ (fun hHeld => ?_)
              clear hK K
              refine nz ?_
              refine pz 8 54 ?_
              refine pz 9 55 ?_
              refine pz 10 56 ?_
              refine pz 11 57 ?_
              refine pz 13 59 ?_
              refine pz 17 63 ?_
              refine tz 12 58 ?_
              refine pz 14 60 ?_
              refine tz 15 61 ?_
              refine pz 16 62 ?_
              refine tz 18 64 ?_
              refine pz 19 65 ?_
              refine pz 20 66 ?_
              refine pz 21 67 ?_
              refine uz 22 68 ?_
              refine uz 23 69 ?_
              refine uz 24 70 ?_
              refine uz 25 71 ?_
              refine uz 26 72 ?_
              refine uz 27 73 ?_
              refine uz 28 74 ?_
              refine uz 29 75 ?_
              refine pz 30 76 ?_
              refine done_ (done_of HT_.out (by kernel_rfl)) ?_
              try go_wp2
              go_meet
              case rel => exact ⟨_, (true), (by first | rfl | (simp; done) | (simp [*]; done)), H', ⟨by have := HJ1.out; have := HK2.out; first | omega | exact Nat.le_refl _⟩, ⟨by exact bq BK258.out⟩, ⟨zB⟩⟩
            ·rw [if_neg c33] at H
             exact absurd H (by simp)
           ·rw [if_neg c32] at H
            have c32b0 : (t262 == x41_2) = false := beq_eq_false_iff_ne.mpr c32
            have c32b1 : (t262 != x41_2) = true := bne_iff_ne.mpr c32
            (first | rw [c32b0] | (simp only [i64_w, i32_w]; rw [c32b0]) | skip)
            have H' := Aside0.mk H
            clear H
            try go_wp2
            replace BK258 := Aside0.mk (blk_drew BK258.out)
            replace HB := Aside0.mk (below_drew1 HB.out)
            refine start_ (n := 31) (S := fun w' => w'.cell? ⟨gb258, 0, none⟩ = some (.int .i64 a0_0) ∧ w'.cell? ⟨gb258, 1, none⟩ = some (.int .i64 a0_1) ∧ w'.cell? ⟨gb258, 2, none⟩ = some (.int .i64 a0_2) ∧ w'.cell? ⟨gb258, 3, none⟩ = some (.slice (some ad260) l0_3.length c0_3) ∧ w'.cell? ⟨gb258, 4, none⟩ = some (.slice A0_4 l0_4.length c0_4)) (ds := []) #[false, false, false, false, false, false, false, false, false, false, false, false, false, false, false, false, false, false, false, false, false, false, false, false, false, false, false, false, false, false, false] (by kernel_rfl) rfl rfl ⟨(blk_cell BK258.out 0).trans rfl, (blk_cell BK258.out 1).trans rfl, (blk_cell BK258.out 2).trans rfl, (blk_cell BK258.out 3).trans rfl, (blk_cell BK258.out 4).trans rfl⟩ (fun hHeld => ?_); refine with_tabW impl_TableOk.tab6 impl_TableOk.bits6 (fun HT_ HW_ => ?_)
            generalize wr.drew = w42 at BK258 HB hHeld ⊢
            refine pz 0 46 ?_
            refine oz 1 47 fun K hK => ?_
            refine gz Try.func38 #[.int .i64 (rd l0_3 x41_2)] ?_
            with_reducible refine (impl_numOk.calls (rd l0_3 x41_2) true _ A29.out).mono ?_
            rintro e w' ⟨rfl, ⟨nd, rfl⟩⟩
            refine ⟨_, rfl, ?_⟩
            refine hK.out _ _ ⟨(blk_cell BK258.out 0).trans rfl, (blk_cell BK258.out 1).trans rfl, (blk_cell BK258.out 2).trans rfl, (blk_cell BK258.out 3).trans rfl, (blk_cell BK258.out 4).trans rfl⟩ (fun hHeld => ?_)
            clear hK K
            refine nz ?_
            refine pz 2 48 ?_
            refine pz 3 49 ?_
            refine pz 5 51 ?_
            refine pz 7 53 ?_
            refine tz 4 50 ?_
            refine oz 6 52 fun K hK => ?_
            refine gz Try.func53 #[.agg #[.int .i64 a0_0, .int .i64 a0_1, .int .i64 a0_2, .slice (some ad260) l0_3.length c0_3, .slice A0_4 l0_4.length c0_4], .int .i64 (rd l0_3 x41_2)] ?_
            with_reducible refine (impl_Table_find.calls k2 a0_0 a0_1 a0_2 _ _ l0_3 _ _ l0_4 (rd l0_3 x41_2) t262 _ ?side1 ?side2 ?side3 ?side4 A31.out).mono ?_
            (case side1 => repeat (first | exact (Kd.C_below HR0_3.out zB) | (with_reducible refine Kd.C_alloc ?_ _) | (with_reducible refine Kd.C_drewN ?_ _) | (with_reducible refine Kd.C_drew ?_)))
            (case side2 => exact HC0_3.out)
            (case side3 => repeat (first | exact (Kd.C_below HR0_4.out zB) | (with_reducible refine Kd.C_alloc ?_ _) | (with_reducible refine Kd.C_drewN ?_ _) | (with_reducible refine Kd.C_drew ?_)))
            (case side4 => exact HC0_4.out)
            rintro e w43 ⟨rfl, hb⟩
            refine ⟨_, rfl, ?_⟩
            replace BK258 := zb BK258 hb rfl
            replace HB := zS hb
            try clear hb
            refine hK.out _ _ ⟨(blk_cell BK258.out 0).trans rfl, (blk_cell BK258.out 1).trans rfl, (blk_cell BK258.out 2).trans rfl, (blk_cell BK258.out 3).trans rfl, (blk_cell BK258.out 4).trans rfl⟩ (fun hHeld => ?_)
            clear hK K
            refine nz ?_
            refine pz 8 54 ?_
            refine pz 9 55 ?_
            refine pz 10 56 ?_
            refine uz 11 57 ?_
            refine uz 12 58 ?_
            refine uz 13 59 ?_
            refine uz 14 60 ?_
            refine uz 15 61 ?_
            refine uz 16 62 ?_
            refine uz 17 63 ?_
            refine uz 18 64 ?_
            refine uz 19 65 ?_
            refine pz 20 66 ?_
            refine pz 21 67 ?_
            refine uz 22 68 ?_
            refine uz 23 69 ?_
            refine uz 24 70 ?_
            refine uz 25 71 ?_
            refine uz 26 72 ?_
            refine uz 27 73 ?_
            refine uz 28 74 ?_
            refine uz 29 75 ?_
            refine pz 30 76 ?_
            refine done_ (done_of HT_.out (by kernel_rfl)) ?_
            try go_wp2
            go_meet
            case rel => exact ⟨_, (true), (by first | rfl | (simp; done) | (simp [*]; done)), H', ⟨by have := HJ1.out; have := HK2.out; first | omega | exact Nat.le_refl _⟩, ⟨by exact bq BK258.out⟩, ⟨zB⟩⟩
          ·replace c30 := Bool.eq_false_iff.mpr c30
           subst c30
           rw [if_neg (show ¬ (false = true) by decide)] at H
           have H' := Aside0.mk H
           clear H
           try go_wp2
           replace BK258 := Aside0.mk (blk_drew BK258.out)
           replace HB := Aside0.mk (below_drew1 HB.out)
           refine start_ (n := 31) (S := fun w' => True) (ds := []) #[false, false, false, false, false, false, false, false, false, false, false, false, false, false, false, false, false, false, false, false, false, false, false, false, false, false, false, false, false, false, false] (by kernel_rfl) rfl rfl trivial (fun hHeld => ?_); refine with_tabW impl_TableOk.tab6 impl_TableOk.bits6 (fun HT_ HW_ => ?_)
           generalize wr.drew = w44 at BK258 HB hHeld ⊢
           refine pz 0 46 ?_
           refine oz 1 47 fun K hK => ?_
           refine gz Try.func38 #[.int .i64 (rd l0_3 x41_2)] ?_
           with_reducible refine (impl_numOk.calls (rd l0_3 x41_2) false _ A29.out).mono ?_
           rintro e w' ⟨rfl, ⟨nd, rfl⟩⟩
           refine ⟨_, rfl, ?_⟩
           refine hK.out _ _ trivial (fun hHeld => ?_)
           clear hK K
           refine nz ?_
           refine pz 2 48 ?_
           refine pz 3 49 ?_
           refine uz 4 50 ?_
           refine uz 5 51 ?_
           refine uz 6 52 ?_
           refine uz 7 53 ?_
           refine uz 8 54 ?_
           refine pz 9 55 ?_
           refine pz 10 56 ?_
           refine uz 11 57 ?_
           refine uz 12 58 ?_
           refine uz 13 59 ?_
           refine uz 14 60 ?_
           refine uz 15 61 ?_
           refine uz 16 62 ?_
           refine uz 17 63 ?_
           refine uz 18 64 ?_
           refine uz 19 65 ?_
           refine pz 20 66 ?_
           refine pz 21 67 ?_
           refine uz 22 68 ?_
           refine uz 23 69 ?_
           refine uz 24 70 ?_
           refine uz 25 71 ?_
           refine uz 26 72 ?_
           refine uz 27 73 ?_
           refine uz 28 74 ?_
           refine uz 29 75 ?_
           refine pz 30 76 ?_
           refine done_ (done_of HT_.out (by kernel_rfl)) ?_
           try go_wp2
           go_meet
           case rel => exact ⟨_, (true), (by first | rfl | (simp; done) | (simp [*]; done)), H', ⟨by have := HJ1.out; have := HK2.out; first | omega | exact Nat.le_refl _⟩, ⟨by exact bq BK258.out⟩, ⟨zB⟩⟩
         case rest =>
          clear HC28
          try clear p2
          try clear c3
          try clear c5
          try clear c30
          try clear c32
          try clear c32b0
          try clear c32b1
          try clear c33
          try clear c38
          obtain ⟨kq, x76_27, rfl, HA, HJ27, BK258, HB⟩ := hcut
          cases kq with
          | zero => exact absurd HA.out (by simp [impl_TableOk.j2])
          | succ kj27 =>
           have H := HA.out
           clear HA
           simp only [impl_TableOk.j2] at H
           by_cases c45 : x76_27 = true
           ·subst c45
            rw [if_pos rfl] at H
            obtain rfl := Option.some.inj H
            go_wp2
            go_ret
            exact ⟨zR, zB⟩
           ·replace c45 := Bool.eq_false_iff.mpr c45
            subst c45
            rw [if_neg (show ¬ (false = true) by decide)] at H
            have H' := Aside0.mk H
            clear H
            go_wp2
            go_roundg kj27
            case measure => have := HJ1.out; have := HK2.out; have := HJ27.out; omega
            case rel => exact ⟨(wrap64 (x41_2 + 1)), (by first | rfl | (simp; done) | (simp [*]; done)), H', ⟨by have := HJ1.out; have := HK2.out; have := HJ27.out; omega⟩, ⟨by exact bq BK258.out⟩, ⟨zB⟩⟩
        ·rw [if_neg c27] at H
         exact absurd H (by simp)
       ·rw [if_neg c26] at H
        exact absurd H (by simp)
      ·rw [if_neg c25] at H
       have c25b0 : decide (x41_2 < (l0_3.length : Int)) = false := decide_eq_false c25
       clear c25
       obtain rfl := Option.some.inj H
       go_wp2
       go_ret
       exact ⟨zR, zB⟩

end Go.Proofs.Ytjalmkoeekbfbaa.Q
