/- The machine's side of this seat's laws: Go functions as Lean functions, and their contracts. By a program of this work over the kit's print. -/
import Derived.Test.YtdhijcfohbkpoaaQ0
import Derived.Test.YtdhijcfohbkpoaaQ7
import Derived.Test.YtdhijcfohbkpoaaQ8
namespace Go.Proofs.Ytdhijcfohbkpoaa.Q
open Go.RowKit Go.Proofs.YtdhijcfohbkpoaaW.PrintWords Go.Proofs.YtdhijcfohbkpoaaW.PrintLast Go.Proofs.YtdhijcfohbkpoaaW.PrintMore
attribute [local go_sem] max2_int min2_int max_two min_two max_three min_three max_four min_four Go.Proofs.YtdhijcfohbkpoaaN.not_i64 Go.Proofs.YtdhijcfohbkpoaaN.isSome_setCell   -- for this text's walks alone
set_option linter.unusedVariables false
set_option linter.unusedSimpArgs false

/-! ### impl_shifted: function 46 -/
mutual
def impl_shifted.j0 : Nat → Int → Int → Bool → Int → Int → Int → Int → Int → Int → Int → Int → Option (Int × Int × Int × Int)
 | 0, _, _, _, _, _, _, _, _, _, _, _ => none
 | k + 1, x0, x7, x12, x302000, x302001, x302002, x302003, x303000, x303001, x303002, x303003 => if x12 = true then ((impl_fromTo.f 0 x302001).bind fun bt304 => (some (bt304.1, bt304.2.1, bt304.2.2.1, bt304.2.2.2))) else (if x303000 = x303001 then (if x0 = 9 then (if 0 ≤ x7 then ((impl_Range_tidy.f (shr .i64 x302000 x7) (shr .i64 x302001 x7) (shr .i64 x302002 x7) (shr .i64 x302003 x7)).bind fun bt308 => (some (bt308.1, bt308.2.1, bt308.2.2.1, bt308.2.2.2))) else (none)) else (if 0 ≤ x7 then (if (shl .i64 x302001 x7) ≤ 4294967295 then (impl_shifted.j1 k (shl .i64 x302000 x7) (shl .i64 x302001 x7) (Go.bits .and .i64 (shl .i64 x302002 x7) 4294967295) (Go.bits .and .i64 (shl .i64 x302003 x7) 4294967295)) else (impl_shifted.j1 k 0 4294967295 (Go.bits .and .i64 (shl .i64 x302002 x7) 4294967295) (Go.bits .and .i64 (shl .i64 x302003 x7) 4294967295))) else (none))) else ((impl_rangeAll.f).bind fun bt312 => (some (bt312.1, bt312.2.1, bt312.2.2.1, bt312.2.2.2))))
def impl_shifted.j1 : Nat → Int → Int → Int → Int → Option (Int × Int × Int × Int)
 | 0, _, _, _, _ => none
 | k + 1, x317000, x317001, x317002, x317003 => (impl_Range_tidy.f x317000 x317001 x317002 x317003).bind fun bt317 => (some (bt317.1, bt317.2.1, bt317.2.2.1, bt317.2.2.2))
end
def impl_shifted.f (k : Nat) (a0 : Int) (a1_0 : Int) (a1_1 : Int) (a1_2 : Int) (a1_3 : Int) (a2_0 : Int) (a2_1 : Int) (a2_2 : Int) (a2_3 : Int) : Option (Int × Int × Int × Int) := if a2_0 = a2_1 then (impl_shifted.j0 k a0 (Int.tmod a2_0 32) false a1_0 a1_1 a1_2 a1_3 a2_0 a2_1 a2_2 a2_3) else (impl_shifted.j0 k a0 (Int.tmod a2_0 32) (a0 == 9) a1_0 a1_1 a1_2 a1_3 a2_0 a2_1 a2_2 a2_3)


def impl_shifted.T7 : Bool × List (List Nat × List Nat) := (true, [([], []), ([0], [0]), ([], []), ([1, 2], [1, 2]), ([], []), ([4], [4]), ([], []), ([5, 6], [5, 6]), ([], []), ([8], [8]), ([], []), ([9, 10], [9, 10]), ([], []), ([12], [12]), ([], []), ([13, 14], [13, 14]), ([3, 7, 11, 15], [3, 7, 11, 15]), ([16], [16]), ([17, 17, 0, 1, 2, 3, 4, 5, 6, 7, 8, 9, 10, 11, 12, 13, 14, 15, 16, 17], [17])])
def impl_shifted.B7 : List Nat := [0, 1, 0, 7, 0, 16, 0, 112, 0, 256, 0, 1792, 0, 4096, 0, 28672, 65535, 131071, 262143]
theorem impl_shifted.tab7 : rtab .any (opsOf Try.f46 7) = impl_shifted.T7 := by kernel_rfl
theorem impl_shifted.bits7 : waitsOk impl_shifted.T7.2 impl_shifted.B7 = true := by kernel_rfl
def impl_shifted.T8 : Bool × List (List Nat × List Nat) := (true, [([], []), ([0], [0]), ([], []), ([1, 2], [1, 2]), ([3], [3]), ([], []), ([5], [5]), ([], []), ([6, 7], [6, 7]), ([8], [8]), ([4, 9], [4, 9]), ([], []), ([11, 10, 0, 1, 2, 3, 4, 5, 6, 7, 8, 9, 10, 11], [10, 11])])
def impl_shifted.B8 : List Nat := [0, 1, 0, 7, 15, 0, 32, 0, 224, 480, 1023, 0, 4095]
theorem impl_shifted.tab8 : rtab .any (opsOf Try.f46 8) = impl_shifted.T8 := by kernel_rfl
theorem impl_shifted.bits8 : waitsOk impl_shifted.T8.2 impl_shifted.B8 = true := by kernel_rfl
def impl_shifted.T10 : Bool × List (List Nat × List Nat) := (true, [([], []), ([0], [0]), ([], []), ([1, 2], [1, 2]), ([], []), ([4], [4]), ([], []), ([5, 6], [5, 6]), ([0, 1, 2, 3], []), ([8, 3, 0, 1, 2, 3], [3, 8]), ([0, 1, 2, 3, 4, 5, 6, 7, 8, 9], []), ([10, 7, 9, 0, 1, 2, 3, 4, 5, 6, 7, 8, 9], [7, 10])])
def impl_shifted.B10 : List Nat := [0, 1, 0, 7, 0, 16, 0, 112, 15, 271, 1023, 2047]
theorem impl_shifted.tab10 : rtab .any (opsOf Try.f46 10) = impl_shifted.T10 := by kernel_rfl
theorem impl_shifted.bits10 : waitsOk impl_shifted.T10.2 impl_shifted.B10 = true := by kernel_rfl
set_option maxHeartbeats 8000000 in
set_option maxRecDepth 100000 in
theorem impl_shifted.calls (k : Nat) (a0 : Int) (a1_0 : Int) (a1_1 : Int) (a1_2 : Int) (a1_3 : Int) (a2_0 : Int) (a2_1 : Int) (a2_2 : Int) (a2_3 : Int) (r1 : Int) (r2 : Int) (r3 : Int) (r4 : Int) (w : World) (h : impl_shifted.f k a0 a1_0 a1_1 a1_2 a1_3 a2_0 a2_1 a2_2 a2_3 = some (r1, r2, r3, r4)) :
  Calls Try.prog 46 #[.int .i64 a0, .agg #[.int .i64 a1_0, .int .i64 a1_1, .int .i64 a1_2, .int .i64 a1_3], .agg #[.int .i64 a2_0, .int .i64 a2_1, .int .i64 a2_2, .int .i64 a2_3]] w fun e w' => e = .returned (.agg #[.int .i64 r1, .int .i64 r2, .int .i64 r3, .int .i64 r4]) ∧ Below w.heap.size w w' := by
 have hu24 := Try.underlying24
 have HB := Aside0.mk (Below.refl w.heap.size w)
 have H : (if a2_0 = a2_1 then (impl_shifted.j0 k a0 (Int.tmod a2_0 32) false a1_0 a1_1 a1_2 a1_3 a2_0 a2_1 a2_2 a2_3) else (impl_shifted.j0 k a0 (Int.tmod a2_0 32) (a0 == 9) a1_0 a1_1 a1_2 a1_3 a2_0 a2_1 a2_2 a2_3)) = some (r1, r2, r3, r4) := h
 clear h
 have HC4 := Aside0.mk H
 clear H
 go_enter Try.func46, Try.ntmps46
 go_upto_region 2 with (first | ((with_reducible refine gate_dst (N := 4) rfl ?_); refine be 4 #[.int .i64 a1_0, .int .i64 a1_1, .int .i64 a1_2, .int .i64 a1_3] 24 ?_; intro gb301 hg w5 hbox hb; have BK301 := Aside0.mk hbox; have GW301 := zW hg; replace HB := zS hb; have GE301 := GW301; clear hb hbox hg) | ((with_reducible refine gate_dst (N := 5) rfl ?_); refine be 5 #[.int .i64 a2_0, .int .i64 a2_1, .int .i64 a2_2, .int .i64 a2_3] 24 ?_; intro gb302 hg w6 hbox hb; have BK302 := Aside0.mk hbox; have GW302 := zW hg; replace HB := zS hb; have GE302 := GW302; have NB301_302 := zl BK301 hg rfl; have NB302_301 := zg BK301 hg rfl; replace BK301 := zb BK301 hb rfl; clear hb hbox hg) | ((with_reducible refine gate_dst (N := 6) rfl ?_); refine be 6 #[.int .i64 0, .int .i64 0, .int .i64 0, .int .i64 0] 24 ?_; intro gb303 hg w7 hbox hb; have BK303 := Aside0.mk hbox; have GW303 := zW hg; replace HB := zS hb; have GE303 := GW303; have NB301_303 := zl BK301 hg rfl; have NB303_301 := zg BK301 hg rfl; replace BK301 := zb BK301 hb rfl; have NB302_303 := zl BK302 hg rfl; have NB303_302 := zg BK302 hg rfl; replace BK302 := zb BK302 hb rfl; clear hb hbox hg; have hnb8 := NB302_301.out; have hnc8 := NB301_302.out; have hnb9 := NB302_303.out; have hnc9 := NB303_302.out; obtain ⟨hcz10_0, hcz10_1, hcz10_2, hcz10_3, hfz10_0, hfz10_1, hfz10_2, hfz10_3⟩ := zc4 BK302))
 (try simp only [Act.put, List.setIfInBounds_toArray, List.set_cons_zero, List.set_cons_succ])
 go_cut [12] (fun v12 wc => ∃ (kq : Nat) (x12_3 : Bool), v12 = .bool x12_3 ∧ Aside0 (impl_shifted.j0 kq a0 (Int.tmod a2_0 32) x12_3 a1_0 a1_1 a1_2 a1_3 a2_0 a2_1 a2_2 a2_3 = some (r1, r2, r3, r4)) ∧ Aside0 (kq ≤ k) ∧ Aside0 (wc.heap[gb301]? = some (.cells #[.int .i64 a1_0, .int .i64 a1_1, .int .i64 a1_2, .int .i64 a1_3] 24 (0, 0))) ∧ Aside0 (wc.heap[gb302]? = some (.cells #[.int .i64 a2_0, .int .i64 a2_1, .int .i64 a2_2, .int .i64 a2_3] 24 (0, 0))) ∧ Aside0 (wc.heap[gb303]? = some (.cells #[.int .i64 0, .int .i64 0, .int .i64 0, .int .i64 0] 24 (0, 0))) ∧ Aside0 (Below w.heap.size w wc))
 case first =>
  have H := HC4.out
  clear HC4
  by_cases c11 : a2_0 = a2_1
  ·rw [if_pos c11] at H
   have c11b0 : (a2_0 == a2_1) = true := beq_iff_eq.mpr c11
   have c11b1 : (a2_0 != a2_1) = false := bne_eq_false_iff_eq.mpr c11
   clear c11
   (first | rw [c11b0] | (simp only [i64_w, i32_w]; rw [c11b0]) | skip)
   have H' := Aside0.mk H
   clear H
   have hnb12 := NB302_301.out
   have hnc12 := NB301_302.out
   have hnb13 := NB302_303.out
   have hnc13 := NB303_302.out
   obtain ⟨hcz14_0, hcz14_1, hcz14_2, hcz14_3, hfz14_0, hfz14_1, hfz14_2, hfz14_3⟩ := zc4 BK302
   go_wp2
   go_meet
   case rel => exact ⟨_, (false), (by first | rfl | (simp; done) | (simp [*]; done)), H', ⟨by first | omega | exact Nat.le_refl _⟩, ⟨by exact bq BK301.out⟩, ⟨by exact bq BK302.out⟩, ⟨by exact bq BK303.out⟩, ⟨zB⟩⟩
  ·rw [if_neg c11] at H
   have c11b0 : (a2_0 == a2_1) = false := beq_eq_false_iff_ne.mpr c11
   have c11b1 : (a2_0 != a2_1) = true := bne_iff_ne.mpr c11
   (first | rw [c11b0] | (simp only [i64_w, i32_w]; rw [c11b0]) | skip)
   have H' := Aside0.mk H
   clear H
   have hnb15 := NB302_301.out
   have hnc15 := NB301_302.out
   have hnb16 := NB302_303.out
   have hnc16 := NB303_302.out
   obtain ⟨hcz17_0, hcz17_1, hcz17_2, hcz17_3, hfz17_0, hfz17_1, hfz17_2, hfz17_3⟩ := zc4 BK302
   go_wp2
   go_meet
   case rel => exact ⟨_, ((a0 == 9)), (by first | rfl | (simp; done) | (simp [*]; done)), H', ⟨by first | omega | exact Nat.le_refl _⟩, ⟨by exact bq BK301.out⟩, ⟨by exact bq BK302.out⟩, ⟨by exact bq BK303.out⟩, ⟨zB⟩⟩
 case rest =>
  clear HC4
  try clear c1
  try clear p2
  try clear c4
  try clear c8
  try clear c9
  try clear c11
  try clear c11b0
  try clear c11b1
  try clear c12
  try clear c13
  try clear c15
  try clear c16
  try clear hcz10_0 hcz10_1 hcz10_2 hcz10_3 hfz10_0 hfz10_1 hfz10_2 hfz10_3
  try clear hcz14_0 hcz14_1 hcz14_2 hcz14_3 hfz14_0 hfz14_1 hfz14_2 hfz14_3
  try clear hcz17_0 hcz17_1 hcz17_2 hcz17_3 hfz17_0 hfz17_1 hfz17_2 hfz17_3
  obtain ⟨kq, x12_3, rfl, HA, HJ3, BK301, BK302, BK303, HB⟩ := hcut
  cases kq with
  | zero => exact absurd HA.out (by simp [impl_shifted.j0])
  | succ kj3 =>
   have H := HA.out
   clear HA
   simp only [impl_shifted.j0] at H
   by_cases c18 : x12_3 = true
   ·subst c18
    rw [if_pos rfl] at H
    replace H := Option.bind_eq_some_iff.mp H
    obtain ⟨⟨t304, t305, t306, t307⟩, A190, H⟩ := H
    try dsimp only at H
    have A19 := Aside0.mk A190
    clear A190
    simp only [Option.some.injEq, Prod.mk.injEq] at H
    obtain ⟨rfl, rfl, rfl, rfl⟩ := H
    have hnb20 := NB301_302.out
    have hnc20 := NB302_301.out
    have hnb21 := NB301_303.out
    have hnc21 := NB303_301.out
    obtain ⟨hcz22_0, hcz22_1, hcz22_2, hcz22_3, hfz22_0, hfz22_1, hfz22_2, hfz22_3⟩ := zc4 BK301
    go_wp2_with (first | ((with_reducible refine gate_callee (f := 43) rfl ?_); refine gl 24 Try.func43 #[.int .i64 0, .int .i64 a1_1] ?_; (with_reducible refine (impl_fromTo.calls 0 a1_1 t304 t305 t306 t307 _ A19.out).mono ?_); rintro e w23 ⟨rfl, hb⟩; refine ⟨_, rfl, ?_⟩; replace BK301 := zb BK301 hb rfl; replace BK302 := zb BK302 hb rfl; replace BK303 := zb BK303 hb rfl; replace HB := zS hb; try clear hb; have hnb24 := NB303_302.out; have hnc24 := NB302_303.out; obtain ⟨hcz25_0, hcz25_1, hcz25_2, hcz25_3, hfz25_0, hfz25_1, hfz25_2, hfz25_3⟩ := zc4 BK303))
    refine bodyPost_ret (results_cell_row rfl _ _ gb303 24 #[.int .i64 t304, .int .i64 t305, .int .i64 t306, .int .i64 t307] (0, 0) _ rfl (by refine bq ?_; refine blk_put (cs := #[.int .i64 t304, .int .i64 t305, .int .i64 t306, .int .i64 0]) ?_ 3 _ rfl; refine bq ?_; refine blk_put (cs := #[.int .i64 t304, .int .i64 t305, .int .i64 0, .int .i64 0]) ?_ 2 _ rfl; refine bq ?_; refine blk_put (cs := #[.int .i64 t304, .int .i64 0, .int .i64 0, .int .i64 0]) ?_ 1 _ rfl; refine bq ?_; refine blk_put (cs := #[.int .i64 0, .int .i64 0, .int .i64 0, .int .i64 0]) ?_ 0 _ rfl; exact bq BK303.out) Try.underlying24 rfl (by kernel_rfl)) rfl ?_
    exact ⟨zR, zB⟩
   ·replace c18 := Bool.eq_false_iff.mpr c18
    subst c18
    rw [if_neg (show ¬ (false = true) by decide)] at H
    by_cases c26 : a2_0 = a2_1
    ·rw [if_pos c26] at H
     have c26b0 : (a2_0 == a2_1) = true := beq_iff_eq.mpr c26
     have c26b1 : (a2_0 != a2_1) = false := bne_eq_false_iff_eq.mpr c26
     clear c26
     by_cases c27 : a0 = 9
     ·rw [if_pos c27] at H
      have c27b0 : (a0 == 9) = true := beq_iff_eq.mpr c27
      have c27b1 : (a0 != 9) = false := bne_eq_false_iff_eq.mpr c27
      clear c27
      obtain ⟨ji28, hji28⟩ : ∃ j_ : Int, (Int.tmod a2_0 32) = j_ := ⟨_, rfl⟩
      replace H : (if 0 ≤ (ji28) then ((impl_Range_tidy.f (shr .i64 a1_0 (ji28)) (shr .i64 a1_1 (ji28)) (shr .i64 a1_2 (ji28)) (shr .i64 a1_3 (ji28))).bind fun bt308 => (some (bt308.1, bt308.2.1, bt308.2.2.1, bt308.2.2.2))) else (none)) = some (r1, r2, r3, r4) := by first | (rw [hji28] at H; exact H) | (simp only [hji28] at H ⊢; exact H)
      by_cases c29 : 0 ≤ (ji28)
      ·rw [if_pos c29] at H
       have c29b0 := eq_true c29
       have c29b1 : decide (0 ≤ (ji28)) = true := decide_eq_true c29
       clear c29
       obtain ⟨ji30, hji30⟩ : ∃ j_ : Int, (shr .i64 a1_0 (ji28)) = j_ := ⟨_, rfl⟩
       replace H : ((impl_Range_tidy.f (ji30) (shr .i64 a1_1 (ji28)) (shr .i64 a1_2 (ji28)) (shr .i64 a1_3 (ji28))).bind fun bt308 => (some (bt308.1, bt308.2.1, bt308.2.2.1, bt308.2.2.2))) = some (r1, r2, r3, r4) := by first | (rw [hji30] at H; exact H) | (simp only [hji30] at H ⊢; exact H)
       have hji30_ : (a1_0 / 2 ^ min (ji28).toNat 64) = ji30 := hji30
       have hji30z : (ji28) ≤ 64 → (a1_0 / 2 ^ (ji28).toNat) = ji30 := shr_small hji30
       have c31b0 := eq_true (of_decide_eq_true (by first | (with_reducible assumption) | assumption) : 0 ≤ (ji28))
       obtain ⟨ji32, hji32⟩ : ∃ j_ : Int, (shr .i64 a1_1 (ji28)) = j_ := ⟨_, rfl⟩
       replace H : ((impl_Range_tidy.f (ji30) (ji32) (shr .i64 a1_2 (ji28)) (shr .i64 a1_3 (ji28))).bind fun bt308 => (some (bt308.1, bt308.2.1, bt308.2.2.1, bt308.2.2.2))) = some (r1, r2, r3, r4) := by first | (rw [hji32] at H; exact H) | (simp only [hji32] at H ⊢; exact H)
       have hji32_ : (a1_1 / 2 ^ min (ji28).toNat 64) = ji32 := hji32
       have hji32z : (ji28) ≤ 64 → (a1_1 / 2 ^ (ji28).toNat) = ji32 := shr_small hji32
       have c33b0 := eq_true (of_decide_eq_true (by first | (with_reducible assumption) | assumption) : 0 ≤ (ji28))
       obtain ⟨ji34, hji34⟩ : ∃ j_ : Int, (shr .i64 a1_2 (ji28)) = j_ := ⟨_, rfl⟩
       replace H : ((impl_Range_tidy.f (ji30) (ji32) (ji34) (shr .i64 a1_3 (ji28))).bind fun bt308 => (some (bt308.1, bt308.2.1, bt308.2.2.1, bt308.2.2.2))) = some (r1, r2, r3, r4) := by first | (rw [hji34] at H; exact H) | (simp only [hji34] at H ⊢; exact H)
       have hji34_ : (a1_2 / 2 ^ min (ji28).toNat 64) = ji34 := hji34
       have hji34z : (ji28) ≤ 64 → (a1_2 / 2 ^ (ji28).toNat) = ji34 := shr_small hji34
       have c35b0 := eq_true (of_decide_eq_true (by first | (with_reducible assumption) | assumption) : 0 ≤ (ji28))
       obtain ⟨ji36, hji36⟩ : ∃ j_ : Int, (shr .i64 a1_3 (ji28)) = j_ := ⟨_, rfl⟩
       replace H : ((impl_Range_tidy.f (ji30) (ji32) (ji34) (ji36)).bind fun bt308 => (some (bt308.1, bt308.2.1, bt308.2.2.1, bt308.2.2.2))) = some (r1, r2, r3, r4) := by first | (rw [hji36] at H; exact H) | (simp only [hji36] at H ⊢; exact H)
       have hji36_ : (a1_3 / 2 ^ min (ji28).toNat 64) = ji36 := hji36
       have hji36z : (ji28) ≤ 64 → (a1_3 / 2 ^ (ji28).toNat) = ji36 := shr_small hji36
       replace H := Option.bind_eq_some_iff.mp H
       obtain ⟨⟨t308, t309, t310, t311⟩, A370, H⟩ := H
       try dsimp only at H
       have A37 := Aside0.mk A370
       clear A370
       simp only [Option.some.injEq, Prod.mk.injEq] at H
       obtain ⟨rfl, rfl, rfl, rfl⟩ := H
       have hnb38 := NB302_301.out
       have hnc38 := NB301_302.out
       have hnb39 := NB302_303.out
       have hnc39 := NB303_302.out
       obtain ⟨hcz40_0, hcz40_1, hcz40_2, hcz40_3, hfz40_0, hfz40_1, hfz40_2, hfz40_3⟩ := zc4 BK302
       try go_wp2
       replace BK301 := Aside0.mk (blk_drew BK301.out)
       replace BK302 := Aside0.mk (blk_drew BK302.out)
       replace BK303 := Aside0.mk (blk_drew BK303.out)
       replace HB := Aside0.mk (below_drew1 HB.out)
       refine start_ (n := 19) (S := fun w' => w'.cell? ⟨gb301, 0, none⟩ = some (.int .i64 a1_0) ∧ w'.cell? ⟨gb301, 1, none⟩ = some (.int .i64 a1_1) ∧ w'.cell? ⟨gb301, 2, none⟩ = some (.int .i64 a1_2) ∧ w'.cell? ⟨gb301, 3, none⟩ = some (.int .i64 a1_3)) (ds := []) #[false, false, false, false, false, false, false, false, false, false, false, false, false, false, false, false, false, false, false] (by kernel_rfl) rfl rfl ⟨(blk_cell BK301.out 0).trans rfl, (blk_cell BK301.out 1).trans rfl, (blk_cell BK301.out 2).trans rfl, (blk_cell BK301.out 3).trans rfl⟩ (fun hHeld => ?_); refine with_tabW impl_shifted.tab7 impl_shifted.bits7 (fun HT_ HW_ => ?_)
       generalize wc.drew = w41 at BK301 BK302 BK303 HB hHeld ⊢
       refine pz 0 35 ?_
       refine pz 2 37 ?_
       refine pz 4 39 ?_
       refine pz 6 41 ?_
       refine pz 8 43 ?_
       refine pz 10 45 ?_
       refine pz 12 47 ?_
       refine pz 14 49 ?_
       refine tz 1 36 ?_
       refine pz 3 38 ?_
       refine tz 5 40 ?_
       refine pz 7 42 ?_
       refine tz 9 44 ?_
       refine pz 11 46 ?_
       refine tz 13 48 ?_
       refine pz 15 50 ?_
       refine pz 16 51 ?_
       refine oz 17 52 fun K hK => ?_
       refine goes_ Try.func40 (by kernel_rfl) rfl #[.agg #[.int .i64 ji30, .int .i64 ji32, .int .i64 ji34, .int .i64 ji36]] (by rfl) rfl rfl (by (try simp only [List.map_toArray, List.map_cons, List.map_nil]); first | done | (simp only [hji30, hji32, hji34, hji36]; rfl) | rfl | (simp only [List.length_drop, List.length_take]; rfl)) ?_
       with_reducible refine (impl_Range_tidy.calls ji30 ji32 ji34 ji36 t308 t309 t310 t311 _ A37.out).mono ?_
       rintro e w42 ⟨rfl, hb⟩
       refine ⟨_, rfl, ?_⟩
       replace BK301 := zb BK301 hb rfl
       replace BK302 := zb BK302 hb rfl
       replace BK303 := zb BK303 hb rfl
       replace HB := zS hb
       try clear hb
       refine hK.out _ _ ⟨(blk_cell BK301.out 0).trans rfl, (blk_cell BK301.out 1).trans rfl, (blk_cell BK301.out 2).trans rfl, (blk_cell BK301.out 3).trans rfl⟩ (fun hHeld => ?_)
       clear hK K
       refine nz ?_
       refine oN 18 fun K hK => ?_
       have hs43 : w42.cell? ⟨gb303, 0, none⟩ = some (.int .i64 0) := (blk_cell BK303.out 0).trans rfl
       have hfs43 := blk_frozen BK303.out 0
       have hns43_0 := NB301_303.out
       have hns43_1 := NB302_303.out
       have hms43_0 := NB303_301.out
       have hms43_1 := NB303_302.out
       have hs44 : w42.cell? ⟨gb303, 1, none⟩ = some (.int .i64 0) := (blk_cell BK303.out 1).trans rfl
       have hfs44 := blk_frozen BK303.out 1
       have hns44_0 := NB301_303.out
       have hns44_1 := NB302_303.out
       have hms44_0 := NB303_301.out
       have hms44_1 := NB303_302.out
       have hs45 : w42.cell? ⟨gb303, 2, none⟩ = some (.int .i64 0) := (blk_cell BK303.out 2).trans rfl
       have hfs45 := blk_frozen BK303.out 2
       have hns45_0 := NB301_303.out
       have hns45_1 := NB302_303.out
       have hms45_0 := NB303_301.out
       have hms45_1 := NB303_302.out
       have hs46 : w42.cell? ⟨gb303, 3, none⟩ = some (.int .i64 0) := (blk_cell BK303.out 3).trans rfl
       have hfs46 := blk_frozen BK303.out 3
       have hns46_0 := NB301_303.out
       have hns46_1 := NB302_303.out
       have hms46_0 := NB303_301.out
       have hms46_1 := NB303_302.out
       refine skip_ (w1 := ?_) (by rfl) rfl ?_ ?_
       rotate_left
       ·go_simp
        rfl
       refine hK.out _ _ ⟨((cell_far (p := ⟨gb303, _, none⟩) NB301_303.out _).trans (((cell_far (p := ⟨gb303, _, none⟩) NB301_303.out _).trans (((cell_far (p := ⟨gb303, _, none⟩) NB301_303.out _).trans (((cell_far (p := ⟨gb303, _, none⟩) NB301_303.out _).trans (hHeld.1)))))))), ((cell_far (p := ⟨gb303, _, none⟩) NB301_303.out _).trans (((cell_far (p := ⟨gb303, _, none⟩) NB301_303.out _).trans (((cell_far (p := ⟨gb303, _, none⟩) NB301_303.out _).trans (((cell_far (p := ⟨gb303, _, none⟩) NB301_303.out _).trans (hHeld.2.1)))))))), ((cell_far (p := ⟨gb303, _, none⟩) NB301_303.out _).trans (((cell_far (p := ⟨gb303, _, none⟩) NB301_303.out _).trans (((cell_far (p := ⟨gb303, _, none⟩) NB301_303.out _).trans (((cell_far (p := ⟨gb303, _, none⟩) NB301_303.out _).trans (hHeld.2.2.1)))))))), ((cell_far (p := ⟨gb303, _, none⟩) NB301_303.out _).trans (((cell_far (p := ⟨gb303, _, none⟩) NB301_303.out _).trans (((cell_far (p := ⟨gb303, _, none⟩) NB301_303.out _).trans (((cell_far (p := ⟨gb303, _, none⟩) NB301_303.out _).trans (hHeld.2.2.2))))))))⟩ (fun hHeld => ?_)
       clear hK K
       refine done_ (done_of HT_.out (by kernel_rfl)) ?_
       try go_wp2
       refine bodyPost_ret (results_cell_row rfl _ _ gb303 24 #[.int .i64 t308, .int .i64 t309, .int .i64 t310, .int .i64 t311] (0, 0) _ rfl (by refine bq ?_; refine blk_put (cs := #[.int .i64 t308, .int .i64 t309, .int .i64 t310, .int .i64 0]) ?_ 3 _ rfl; refine bq ?_; refine blk_put (cs := #[.int .i64 t308, .int .i64 t309, .int .i64 0, .int .i64 0]) ?_ 2 _ rfl; refine bq ?_; refine blk_put (cs := #[.int .i64 t308, .int .i64 0, .int .i64 0, .int .i64 0]) ?_ 1 _ rfl; refine bq ?_; refine blk_put (cs := #[.int .i64 0, .int .i64 0, .int .i64 0, .int .i64 0]) ?_ 0 _ rfl; exact bq BK303.out) Try.underlying24 rfl (by kernel_rfl)) rfl ?_
       exact ⟨by first | rfl | (simp [errW_none, errW_some] <;> rfl) | (simp only [← hji28, ← hji30, ← hji32, ← hji34, ← hji36]; first | rfl | (simp [errW_none, errW_some] <;> rfl)) | (simp [*, errW_none, errW_some] <;> rfl), zB⟩
      ·rw [if_neg c29] at H
       exact absurd H (by simp)
     ·rw [if_neg c27] at H
      have c27b0 : (a0 == 9) = false := beq_eq_false_iff_ne.mpr c27
      have c27b1 : (a0 != 9) = true := bne_iff_ne.mpr c27
      obtain ⟨ji47, hji47⟩ : ∃ j_ : Int, (Int.tmod a2_0 32) = j_ := ⟨_, rfl⟩
      replace H : (if 0 ≤ (ji47) then (if (shl .i64 a1_1 (ji47)) ≤ 4294967295 then (impl_shifted.j1 kj3 (shl .i64 a1_0 (ji47)) (shl .i64 a1_1 (ji47)) (Go.bits .and .i64 (shl .i64 a1_2 (ji47)) 4294967295) (Go.bits .and .i64 (shl .i64 a1_3 (ji47)) 4294967295)) else (impl_shifted.j1 kj3 0 4294967295 (Go.bits .and .i64 (shl .i64 a1_2 (ji47)) 4294967295) (Go.bits .and .i64 (shl .i64 a1_3 (ji47)) 4294967295))) else (none)) = some (r1, r2, r3, r4) := by first | (rw [hji47] at H; exact H) | (simp only [hji47] at H ⊢; exact H)
      by_cases c48 : 0 ≤ (ji47)
      ·rw [if_pos c48] at H
       have c48b0 := eq_true c48
       have c48b1 : decide (0 ≤ (ji47)) = true := decide_eq_true c48
       clear c48
       obtain ⟨ji49, hji49⟩ : ∃ j_ : Int, (shl .i64 a1_2 (ji47)) = j_ := ⟨_, rfl⟩
       replace H : (if (shl .i64 a1_1 (ji47)) ≤ 4294967295 then (impl_shifted.j1 kj3 (shl .i64 a1_0 (ji47)) (shl .i64 a1_1 (ji47)) (Go.bits .and .i64 (ji49) 4294967295) (Go.bits .and .i64 (shl .i64 a1_3 (ji47)) 4294967295)) else (impl_shifted.j1 kj3 0 4294967295 (Go.bits .and .i64 (ji49) 4294967295) (Go.bits .and .i64 (shl .i64 a1_3 (ji47)) 4294967295))) = some (r1, r2, r3, r4) := by first | (rw [hji49] at H; exact H) | (simp only [hji49] at H ⊢; exact H)
       have hji49_ : (IntKind.i64.wrap (a1_2 * 2 ^ min (ji47).toNat 64)) = ji49 := hji49
       have hji49z : (ji47) ≤ 64 → (IntKind.i64.wrap (a1_2 * 2 ^ (ji47).toNat)) = ji49 := shl_small hji49
       have hji49y : (wrap64 (a1_2 * 2 ^ min (ji47).toNat 64)) = ji49 := (i64_w _).symm.trans hji49_
       have hji49x : (ji47) ≤ 64 → (wrap64 (a1_2 * 2 ^ (ji47).toNat)) = ji49 := fun h_ => (i64_w _).symm.trans (hji49z h_)
       have c50b0 := eq_true (of_decide_eq_true (by first | (with_reducible assumption) | assumption) : 0 ≤ (ji47))
       obtain ⟨ji51, hji51⟩ : ∃ j_ : Int, (shl .i64 a1_3 (ji47)) = j_ := ⟨_, rfl⟩
       replace H : (if (shl .i64 a1_1 (ji47)) ≤ 4294967295 then (impl_shifted.j1 kj3 (shl .i64 a1_0 (ji47)) (shl .i64 a1_1 (ji47)) (Go.bits .and .i64 (ji49) 4294967295) (Go.bits .and .i64 (ji51) 4294967295)) else (impl_shifted.j1 kj3 0 4294967295 (Go.bits .and .i64 (ji49) 4294967295) (Go.bits .and .i64 (ji51) 4294967295))) = some (r1, r2, r3, r4) := by first | (rw [hji51] at H; exact H) | (simp only [hji51] at H ⊢; exact H)
       have hji51_ : (IntKind.i64.wrap (a1_3 * 2 ^ min (ji47).toNat 64)) = ji51 := hji51
       have hji51z : (ji47) ≤ 64 → (IntKind.i64.wrap (a1_3 * 2 ^ (ji47).toNat)) = ji51 := shl_small hji51
       have hji51y : (wrap64 (a1_3 * 2 ^ min (ji47).toNat 64)) = ji51 := (i64_w _).symm.trans hji51_
       have hji51x : (ji47) ≤ 64 → (wrap64 (a1_3 * 2 ^ (ji47).toNat)) = ji51 := fun h_ => (i64_w _).symm.trans (hji51z h_)
       have c52b0 := eq_true (of_decide_eq_true (by first | (with_reducible assumption) | assumption) : 0 ≤ (ji47))
       obtain ⟨ji53, hji53⟩ : ∃ j_ : Int, (shl .i64 a1_1 (ji47)) = j_ := ⟨_, rfl⟩
       replace H : (if (ji53) ≤ 4294967295 then (impl_shifted.j1 kj3 (shl .i64 a1_0 (ji47)) ji53 (Go.bits .and .i64 (ji49) 4294967295) (Go.bits .and .i64 (ji51) 4294967295)) else (impl_shifted.j1 kj3 0 4294967295 (Go.bits .and .i64 (ji49) 4294967295) (Go.bits .and .i64 (ji51) 4294967295))) = some (r1, r2, r3, r4) := by first | (rw [hji53] at H; exact H) | (simp only [hji53] at H ⊢; exact H)
       have hji53_ : (IntKind.i64.wrap (a1_1 * 2 ^ min (ji47).toNat 64)) = ji53 := hji53
       have hji53z : (ji47) ≤ 64 → (IntKind.i64.wrap (a1_1 * 2 ^ (ji47).toNat)) = ji53 := shl_small hji53
       have hji53y : (wrap64 (a1_1 * 2 ^ min (ji47).toNat 64)) = ji53 := (i64_w _).symm.trans hji53_
       have hji53x : (ji47) ≤ 64 → (wrap64 (a1_1 * 2 ^ (ji47).toNat)) = ji53 := fun h_ => (i64_w _).symm.trans (hji53z h_)
       have HC54 := Aside0.mk H
       clear H
       have hnb55 := NB302_301.out
       have hnc55 := NB301_302.out
       have hnb56 := NB302_303.out
       have hnc56 := NB303_302.out
       obtain ⟨hcz57_0, hcz57_1, hcz57_2, hcz57_3, hfz57_0, hfz57_1, hfz57_2, hfz57_3⟩ := zc4 BK302
       try go_wp2
       replace BK301 := Aside0.mk (blk_drew BK301.out)
       replace BK302 := Aside0.mk (blk_drew BK302.out)
       replace BK303 := Aside0.mk (blk_drew BK303.out)
       replace HB := Aside0.mk (below_drew1 HB.out)
       refine start_ (n := 13) (S := fun w' => w'.cell? ⟨gb301, 0, none⟩ = some (.int .i64 a1_0) ∧ w'.cell? ⟨gb301, 1, none⟩ = some (.int .i64 a1_1) ∧ w'.cell? ⟨gb301, 2, none⟩ = some (.int .i64 a1_2) ∧ w'.cell? ⟨gb301, 3, none⟩ = some (.int .i64 a1_3)) (ds := []) #[false, false, false, false, false, false, false, false, false, false, false, false, false] (by kernel_rfl) rfl rfl ⟨(blk_cell BK301.out 0).trans rfl, (blk_cell BK301.out 1).trans rfl, (blk_cell BK301.out 2).trans rfl, (blk_cell BK301.out 3).trans rfl⟩ (fun hHeld => ?_); refine with_tabW impl_shifted.tab8 impl_shifted.bits8 (fun HT_ HW_ => ?_)
       generalize wc.drew = w58 at BK301 BK302 BK303 HB hHeld ⊢
       refine pz 0 53 ?_
       refine pz 2 55 ?_
       refine pz 5 58 ?_
       refine pz 7 60 ?_
       refine tz 1 54 ?_
       refine pz 3 56 ?_
       refine pz 4 57 ?_
       refine tz 6 59 ?_
       refine pz 8 61 ?_
       refine pz 9 62 ?_
       refine pz 10 63 ?_
       refine oz 11 8 fun K hK => ?_
       refine box_step ?hg (N := 8) ?hd (cs := #[.int .i64 0, .int .i64 0, .int .i64 0, .int .i64 0]) (t := 24) ?hr ?_; (case hd => rfl); (case hg => rfl); (case hr => first | (go_simp; done) | (go_simp; rfl))
       intro gb316 hg w59 hbox hb
       have BK316 := Aside0.mk hbox
       have GW316 := zW hg
       have GE316 := zW hg
       replace HB := zS hb
       have NB301_316 := zl BK301 hg rfl
       have NB316_301 := zg BK301 hg rfl
       replace BK301 := zb BK301 hb rfl
       have NB302_316 := zl BK302 hg rfl
       have NB316_302 := zg BK302 hg rfl
       replace BK302 := zb BK302 hb rfl
       have NB303_316 := zl BK303 hg rfl
       have NB316_303 := zg BK303 hg rfl
       replace BK303 := zb BK303 hb rfl
       clear hb hbox hg
       refine hK.out _ _ ⟨(blk_cell BK301.out 0).trans rfl, (blk_cell BK301.out 1).trans rfl, (blk_cell BK301.out 2).trans rfl, (blk_cell BK301.out 3).trans rfl⟩ (fun hHeld => ?_)
       clear hK K
       refine nz ?_
       refine oN 12 fun K hK => ?_
       have hs60 : w59.cell? ⟨gb316, 0, none⟩ = some (.int .i64 0) := (blk_cell BK316.out 0).trans rfl
       have hfs60 := blk_frozen BK316.out 0
       have hns60_0 := NB301_316.out
       have hns60_1 := NB302_316.out
       have hns60_2 := NB303_316.out
       have hms60_0 := NB316_301.out
       have hms60_1 := NB316_302.out
       have hms60_2 := NB316_303.out
       have hs61 : w59.cell? ⟨gb316, 1, none⟩ = some (.int .i64 0) := (blk_cell BK316.out 1).trans rfl
       have hfs61 := blk_frozen BK316.out 1
       have hns61_0 := NB301_316.out
       have hns61_1 := NB302_316.out
       have hns61_2 := NB303_316.out
       have hms61_0 := NB316_301.out
       have hms61_1 := NB316_302.out
       have hms61_2 := NB316_303.out
       have hs62 : w59.cell? ⟨gb316, 2, none⟩ = some (.int .i64 0) := (blk_cell BK316.out 2).trans rfl
       have hfs62 := blk_frozen BK316.out 2
       have hns62_0 := NB301_316.out
       have hns62_1 := NB302_316.out
       have hns62_2 := NB303_316.out
       have hms62_0 := NB316_301.out
       have hms62_1 := NB316_302.out
       have hms62_2 := NB316_303.out
       have hs63 : w59.cell? ⟨gb316, 3, none⟩ = some (.int .i64 0) := (blk_cell BK316.out 3).trans rfl
       have hfs63 := blk_frozen BK316.out 3
       have hns63_0 := NB301_316.out
       have hns63_1 := NB302_316.out
       have hns63_2 := NB303_316.out
       have hms63_0 := NB316_301.out
       have hms63_1 := NB316_302.out
       have hms63_2 := NB316_303.out
       refine skip_ (w1 := ?_) (by rfl) rfl ?_ ?_
       rotate_left
       ·go_simp
        rfl
       refine hK.out _ _ ⟨((cell_far (p := ⟨gb316, _, none⟩) NB301_316.out _).trans (((cell_far (p := ⟨gb316, _, none⟩) NB301_316.out _).trans (((cell_far (p := ⟨gb316, _, none⟩) NB301_316.out _).trans (((cell_far (p := ⟨gb316, _, none⟩) NB301_316.out _).trans (hHeld.1)))))))), ((cell_far (p := ⟨gb316, _, none⟩) NB301_316.out _).trans (((cell_far (p := ⟨gb316, _, none⟩) NB301_316.out _).trans (((cell_far (p := ⟨gb316, _, none⟩) NB301_316.out _).trans (((cell_far (p := ⟨gb316, _, none⟩) NB301_316.out _).trans (hHeld.2.1)))))))), ((cell_far (p := ⟨gb316, _, none⟩) NB301_316.out _).trans (((cell_far (p := ⟨gb316, _, none⟩) NB301_316.out _).trans (((cell_far (p := ⟨gb316, _, none⟩) NB301_316.out _).trans (((cell_far (p := ⟨gb316, _, none⟩) NB301_316.out _).trans (hHeld.2.2.1)))))))), ((cell_far (p := ⟨gb316, _, none⟩) NB301_316.out _).trans (((cell_far (p := ⟨gb316, _, none⟩) NB301_316.out _).trans (((cell_far (p := ⟨gb316, _, none⟩) NB301_316.out _).trans (((cell_far (p := ⟨gb316, _, none⟩) NB301_316.out _).trans (hHeld.2.2.2))))))))⟩ (fun hHeld => ?_)
       clear hK K
       refine done_ (done_of HT_.out (by kernel_rfl)) ?_
       have hnb64 := NB301_303.out
       have hnc64 := NB303_301.out
       have hnb65 := NB301_316.out
       have hnc65 := NB316_301.out
       obtain ⟨hcz66_0, hcz66_1, hcz66_2, hcz66_3, hfz66_0, hfz66_1, hfz66_2, hfz66_3⟩ := zc4 BK301
       go_upto_if 68 with (fail)
       go_cut [] (fun wc => ∃ (kq : Nat) (x317000_53 : Int) (x317001_53 : Int), Aside0 (impl_shifted.j1 kq x317000_53 x317001_53 (Go.bits .and .i64 (ji49) 4294967295) (Go.bits .and .i64 (ji51) 4294967295) = some (r1, r2, r3, r4)) ∧ Aside0 (kq ≤ kj3) ∧ Aside0 (wc.heap[gb301]? = some (.cells #[.int .i64 a1_0, .int .i64 a1_1, .int .i64 a1_2, .int .i64 a1_3] 24 (0, 0))) ∧ Aside0 (wc.heap[gb302]? = some (.cells #[.int .i64 a2_0, .int .i64 a2_1, .int .i64 a2_2, .int .i64 a2_3] 24 (0, 0))) ∧ Aside0 (wc.heap[gb303]? = some (.cells #[.int .i64 0, .int .i64 0, .int .i64 0, .int .i64 0] 24 (0, 0))) ∧ Aside0 (wc.heap[gb316]? = some (.cells #[.int .i64 x317000_53, .int .i64 x317001_53, .int .i64 (Go.bits .and .i64 (ji49) 4294967295), .int .i64 (Go.bits .and .i64 (ji51) 4294967295)] 24 (0, 0))) ∧ Aside0 (Below w.heap.size w wc))
       case first =>
        have H := HC54.out
        clear HC54
        by_cases c67 : (ji53) ≤ 4294967295
        ·rw [if_pos c67] at H
         have c67b0 : decide ((ji53) ≤ 4294967295) = true := decide_eq_true c67
         clear c67
         (first | rw [c67b0] | (simp only [i64_w, i32_w]; rw [c67b0]) | skip)
         have c68b0 := eq_true (of_decide_eq_true (by first | (with_reducible assumption) | assumption) : 0 ≤ (ji47))
         obtain ⟨ji69, hji69⟩ : ∃ j_ : Int, (shl .i64 a1_0 (ji47)) = j_ := ⟨_, rfl⟩
         replace H : (impl_shifted.j1 kj3 ji69 ji53 (Go.bits .and .i64 (ji49) 4294967295) (Go.bits .and .i64 (ji51) 4294967295)) = some (r1, r2, r3, r4) := by first | (rw [hji69] at H; exact H) | (simp only [hji69] at H ⊢; exact H)
         have hji69_ : (IntKind.i64.wrap (a1_0 * 2 ^ min (ji47).toNat 64)) = ji69 := hji69
         have hji69z : (ji47) ≤ 64 → (IntKind.i64.wrap (a1_0 * 2 ^ (ji47).toNat)) = ji69 := shl_small hji69
         have hji69y : (wrap64 (a1_0 * 2 ^ min (ji47).toNat 64)) = ji69 := (i64_w _).symm.trans hji69_
         have hji69x : (ji47) ≤ 64 → (wrap64 (a1_0 * 2 ^ (ji47).toNat)) = ji69 := fun h_ => (i64_w _).symm.trans (hji69z h_)
         have c70b0 := eq_true (of_decide_eq_true (by first | (with_reducible assumption) | assumption) : 0 ≤ (ji47))
         have H' := Aside0.mk H
         clear H
         try go_wp2
         have n0_ : Aside0 (((((w59.setCell ⟨gb316, 0, none⟩ (.int .i64 0)).setCell ⟨gb316, 1, none⟩ (.int .i64 4294967295)).setCell ⟨gb316, 2, none⟩ (.int .i64 (Go.bits .and .i64 (ji49) 4294967295))).setCell ⟨gb316, 3, none⟩ (.int .i64 (Go.bits .and .i64 (ji51) 4294967295))).heap[gb301]? = some (.cells #[.int .i64 a1_0, .int .i64 a1_1, .int .i64 a1_2, .int .i64 a1_3] 24 (0, 0))) := ⟨by refine fq ?_ NB301_316.out; refine fq ?_ NB301_316.out; refine fq ?_ NB301_316.out; refine fq ?_ NB301_316.out; exact bq BK301.out⟩
         have n1_ : Aside0 (((((w59.setCell ⟨gb316, 0, none⟩ (.int .i64 0)).setCell ⟨gb316, 1, none⟩ (.int .i64 4294967295)).setCell ⟨gb316, 2, none⟩ (.int .i64 (Go.bits .and .i64 (ji49) 4294967295))).setCell ⟨gb316, 3, none⟩ (.int .i64 (Go.bits .and .i64 (ji51) 4294967295))).heap[gb302]? = some (.cells #[.int .i64 a2_0, .int .i64 a2_1, .int .i64 a2_2, .int .i64 a2_3] 24 (0, 0))) := ⟨by refine fq ?_ NB302_316.out; refine fq ?_ NB302_316.out; refine fq ?_ NB302_316.out; refine fq ?_ NB302_316.out; exact bq BK302.out⟩
         have n2_ : Aside0 (((((w59.setCell ⟨gb316, 0, none⟩ (.int .i64 0)).setCell ⟨gb316, 1, none⟩ (.int .i64 4294967295)).setCell ⟨gb316, 2, none⟩ (.int .i64 (Go.bits .and .i64 (ji49) 4294967295))).setCell ⟨gb316, 3, none⟩ (.int .i64 (Go.bits .and .i64 (ji51) 4294967295))).heap[gb303]? = some (.cells #[.int .i64 0, .int .i64 0, .int .i64 0, .int .i64 0] 24 (0, 0))) := ⟨by refine fq ?_ NB303_316.out; refine fq ?_ NB303_316.out; refine fq ?_ NB303_316.out; refine fq ?_ NB303_316.out; exact bq BK303.out⟩
         have n3_ : Aside0 (((((w59.setCell ⟨gb316, 0, none⟩ (.int .i64 0)).setCell ⟨gb316, 1, none⟩ (.int .i64 4294967295)).setCell ⟨gb316, 2, none⟩ (.int .i64 (Go.bits .and .i64 (ji49) 4294967295))).setCell ⟨gb316, 3, none⟩ (.int .i64 (Go.bits .and .i64 (ji51) 4294967295))).heap[gb316]? = some (.cells #[.int .i64 0, .int .i64 4294967295, .int .i64 (Go.bits .and .i64 (ji49) 4294967295), .int .i64 (Go.bits .and .i64 (ji51) 4294967295)] 24 (0, 0))) := ⟨by refine bq ?_; refine blk_put (cs := #[.int .i64 0, .int .i64 4294967295, .int .i64 (Go.bits .and .i64 (ji49) 4294967295), .int .i64 0]) ?_ 3 _ rfl; refine bq ?_; refine blk_put (cs := #[.int .i64 0, .int .i64 4294967295, .int .i64 0, .int .i64 0]) ?_ 2 _ rfl; refine bq ?_; refine blk_put (cs := #[.int .i64 0, .int .i64 0, .int .i64 0, .int .i64 0]) ?_ 1 _ rfl; refine bq ?_; refine blk_put (cs := #[.int .i64 0, .int .i64 0, .int .i64 0, .int .i64 0]) ?_ 0 _ rfl; exact bq BK316.out⟩
         have n4_ : Aside0 (Below w.heap.size w ((((w59.setCell ⟨gb316, 0, none⟩ (.int .i64 0)).setCell ⟨gb316, 1, none⟩ (.int .i64 4294967295)).setCell ⟨gb316, 2, none⟩ (.int .i64 (Go.bits .and .i64 (ji49) 4294967295))).setCell ⟨gb316, 3, none⟩ (.int .i64 (Go.bits .and .i64 (ji51) 4294967295)))) := ⟨zB⟩
         (try clear BK301)
         (try clear BK302)
         (try clear BK303)
         (try clear BK316)
         (try clear HB)
         generalize ((((w59.setCell ⟨gb316, 0, none⟩ (.int .i64 0)).setCell ⟨gb316, 1, none⟩ (.int .i64 4294967295)).setCell ⟨gb316, 2, none⟩ (.int .i64 (Go.bits .and .i64 (ji49) 4294967295))).setCell ⟨gb316, 3, none⟩ (.int .i64 (Go.bits .and .i64 (ji51) 4294967295))) = w71 at n0_ n1_ n2_ n3_ n4_ ⊢
         have BK301 := n0_
         have BK302 := n1_
         have BK303 := n2_
         have BK316 := n3_
         have HB := n4_
         clear n0_ n1_ n2_ n3_ n4_
         replace BK301 := Aside0.mk (blk_drew BK301.out)
         replace BK302 := Aside0.mk (blk_drew BK302.out)
         replace BK303 := Aside0.mk (blk_drew BK303.out)
         replace BK316 := Aside0.mk (blk_drew BK316.out)
         replace HB := Aside0.mk (below_drew1 HB.out)
         refine start_ (n := 12) (S := fun w' => w'.cell? ⟨gb301, 0, none⟩ = some (.int .i64 a1_0) ∧ w'.cell? ⟨gb301, 1, none⟩ = some (.int .i64 a1_1) ∧ w'.cell? ⟨gb301, 2, none⟩ = some (.int .i64 a1_2) ∧ w'.cell? ⟨gb301, 3, none⟩ = some (.int .i64 a1_3)) (ds := []) #[false, false, false, false, false, false, false, false, false, false, false, false] (by kernel_rfl) rfl rfl ⟨(blk_cell BK301.out 0).trans rfl, (blk_cell BK301.out 1).trans rfl, (blk_cell BK301.out 2).trans rfl, (blk_cell BK301.out 3).trans rfl⟩ (fun hHeld => ?_); refine with_tabW impl_shifted.tab10 impl_shifted.bits10 (fun HT_ HW_ => ?_)
         generalize w71.drew = w72 at BK301 BK302 BK303 BK316 HB hHeld ⊢
         refine pz 0 69 ?_
         refine pz 2 71 ?_
         refine pz 4 73 ?_
         refine pz 6 75 ?_
         refine tz 1 70 ?_
         refine pz 3 72 ?_
         refine pz 8 77 ?_
         refine tz 5 74 ?_
         refine pz 7 76 ?_
         refine oN 9 fun K hK => ?_
         have hs73 : w72.cell? ⟨gb316, 0, none⟩ = some (.int .i64 0) := (blk_cell BK316.out 0).trans rfl
         have hfs73 := blk_frozen BK316.out 0
         have hns73_0 := NB301_316.out
         have hns73_1 := NB302_316.out
         have hns73_2 := NB303_316.out
         have hms73_0 := NB316_301.out
         have hms73_1 := NB316_302.out
         have hms73_2 := NB316_303.out
         refine skip_ (w1 := ?_) (by rfl) rfl ?_ ?_
         rotate_left
         ·go_simp
          rfl
         refine hK.out _ _ ⟨((cell_far (p := ⟨gb316, _, none⟩) NB301_316.out _).trans (hHeld.1)), ((cell_far (p := ⟨gb316, _, none⟩) NB301_316.out _).trans (hHeld.2.1)), ((cell_far (p := ⟨gb316, _, none⟩) NB301_316.out _).trans (hHeld.2.2.1)), ((cell_far (p := ⟨gb316, _, none⟩) NB301_316.out _).trans (hHeld.2.2.2))⟩ (fun hHeld => ?_)
         clear hK K
         refine pz 10 78 ?_
         refine oN 11 fun K hK => ?_
         have hs74 : w72.cell? ⟨gb316, 1, none⟩ = some (.int .i64 4294967295) := (blk_cell BK316.out 1).trans rfl
         have hfs74 := blk_frozen BK316.out 1
         have hns74_0 := NB301_316.out
         have hns74_1 := NB302_316.out
         have hns74_2 := NB303_316.out
         have hms74_0 := NB316_301.out
         have hms74_1 := NB316_302.out
         have hms74_2 := NB316_303.out
         refine skip_ (w1 := ?_) (by rfl) rfl ?_ ?_
         rotate_left
         ·go_simp
          rfl
         refine hK.out _ _ ⟨((cell_far (p := ⟨gb316, _, none⟩) NB301_316.out _).trans (hHeld.1)), ((cell_far (p := ⟨gb316, _, none⟩) NB301_316.out _).trans (hHeld.2.1)), ((cell_far (p := ⟨gb316, _, none⟩) NB301_316.out _).trans (hHeld.2.2.1)), ((cell_far (p := ⟨gb316, _, none⟩) NB301_316.out _).trans (hHeld.2.2.2))⟩ (fun hHeld => ?_)
         clear hK K
         refine done_ (done_of HT_.out (by kernel_rfl)) ?_
         try go_wp2
         go_meet
         case rel => exact ⟨_, (ji69), (ji53), H', ⟨by have := HJ3.out; first | omega | exact Nat.le_refl _⟩, ⟨by refine fq ?_ NB301_316.out; refine fq ?_ NB301_316.out; exact bq BK301.out⟩, ⟨by refine fq ?_ NB302_316.out; refine fq ?_ NB302_316.out; exact bq BK302.out⟩, ⟨by refine fq ?_ NB303_316.out; refine fq ?_ NB303_316.out; exact bq BK303.out⟩, ⟨by refine bq ?_; refine blk_put (cs := #[.int .i64 ji69, .int .i64 4294967295, .int .i64 (Go.bits .and .i64 (ji49) 4294967295), .int .i64 (Go.bits .and .i64 (ji51) 4294967295)]) ?_ 1 _ rfl; refine bq ?_; refine blk_put (cs := #[.int .i64 0, .int .i64 4294967295, .int .i64 (Go.bits .and .i64 (ji49) 4294967295), .int .i64 (Go.bits .and .i64 (ji51) 4294967295)]) ?_ 0 _ rfl; exact bq BK316.out⟩, ⟨zB⟩⟩
        ·rw [if_neg c67] at H
         have c67b0 : decide ((ji53) ≤ 4294967295) = false := decide_eq_false c67
         clear c67
         (first | rw [c67b0] | (simp only [i64_w, i32_w]; rw [c67b0]) | skip)
         have H' := Aside0.mk H
         clear H
         go_wp2
         go_meet
         case rel => exact ⟨_, (0), (4294967295), H', ⟨by have := HJ3.out; first | omega | exact Nat.le_refl _⟩, ⟨by refine fq ?_ NB301_316.out; refine fq ?_ NB301_316.out; refine fq ?_ NB301_316.out; refine fq ?_ NB301_316.out; exact bq BK301.out⟩, ⟨by refine fq ?_ NB302_316.out; refine fq ?_ NB302_316.out; refine fq ?_ NB302_316.out; refine fq ?_ NB302_316.out; exact bq BK302.out⟩, ⟨by refine fq ?_ NB303_316.out; refine fq ?_ NB303_316.out; refine fq ?_ NB303_316.out; refine fq ?_ NB303_316.out; exact bq BK303.out⟩, ⟨by refine bq ?_; refine blk_put (cs := #[.int .i64 0, .int .i64 4294967295, .int .i64 (Go.bits .and .i64 (ji49) 4294967295), .int .i64 0]) ?_ 3 _ rfl; refine bq ?_; refine blk_put (cs := #[.int .i64 0, .int .i64 4294967295, .int .i64 0, .int .i64 0]) ?_ 2 _ rfl; refine bq ?_; refine blk_put (cs := #[.int .i64 0, .int .i64 0, .int .i64 0, .int .i64 0]) ?_ 1 _ rfl; refine bq ?_; refine blk_put (cs := #[.int .i64 0, .int .i64 0, .int .i64 0, .int .i64 0]) ?_ 0 _ rfl; exact bq BK316.out⟩, ⟨zB⟩⟩
       case rest =>
        clear HC54
        try clear c2
        try clear p2
        try clear c4
        try clear c5
        try clear c6
        try clear p6
        try clear c7
        try clear c27
        try clear c27b0
        try clear c27b1
        try clear c29
        try clear c40
        try clear c48
        try clear c48b0
        try clear c48b1
        try clear c50
        try clear c50b0
        try clear c52
        try clear c52b0
        try clear c55
        try clear c56
        try clear c64
        try clear p64
        try clear c65
        try clear c67
        try clear c67b0
        try clear c68
        try clear c68b0
        try clear c70
        try clear c70b0
        try clear hcz57_0 hcz57_1 hcz57_2 hcz57_3 hfz57_0 hfz57_1 hfz57_2 hfz57_3
        try clear hcz66_0 hcz66_1 hcz66_2 hcz66_3 hfz66_0 hfz66_1 hfz66_2 hfz66_3
        obtain ⟨kq, x317000_53, x317001_53, HA, HJ53, BK301, BK302, BK303, BK316, HB⟩ := hcut
        cases kq with
        | zero => exact absurd HA.out (by simp [impl_shifted.j1])
        | succ kj53 =>
         have H := HA.out
         clear HA
         simp only [impl_shifted.j1] at H
         replace H := Option.bind_eq_some_iff.mp H
         obtain ⟨⟨t317, t318, t319, t320⟩, A750, H⟩ := H
         try dsimp only at H
         have A75 := Aside0.mk A750
         clear A750
         simp only [Option.some.injEq, Prod.mk.injEq] at H
         obtain ⟨rfl, rfl, rfl, rfl⟩ := H
         have hnb76 := NB316_301.out
         have hnc76 := NB301_316.out
         have hnb77 := NB316_302.out
         have hnc77 := NB302_316.out
         have hnb78 := NB316_303.out
         have hnc78 := NB303_316.out
         obtain ⟨hcz79_0, hcz79_1, hcz79_2, hcz79_3, hfz79_0, hfz79_1, hfz79_2, hfz79_3⟩ := zc4 BK316
         go_wp2_with (first | ((with_reducible refine gate_callee (f := 40) rfl ?_); refine goesL_ (some 80) rfl rfl Try.func40 (by kernel_rfl) rfl #[.agg #[.int .i64 x317000_53, .int .i64 x317001_53, .int .i64 (Go.bits .and .i64 (ji49) 4294967295), .int .i64 (Go.bits .and .i64 (ji51) 4294967295)]] rfl (by (try simp only [List.map_toArray, List.map_cons, List.map_nil]); first | done | (simp only [hji49, hji51]; rfl) | rfl | (simp only [List.length_drop, List.length_take]; rfl)) ?_; (with_reducible refine (impl_Range_tidy.calls x317000_53 x317001_53 (Go.bits .and .i64 (ji49) 4294967295) (Go.bits .and .i64 (ji51) 4294967295) t317 t318 t319 t320 _ A75.out).mono ?_); rintro e w80 ⟨rfl, hb⟩; refine ⟨_, rfl, ?_⟩; replace BK301 := zb BK301 hb rfl; replace BK302 := zb BK302 hb rfl; replace BK303 := zb BK303 hb rfl; replace BK316 := zb BK316 hb rfl; replace HB := zS hb; try clear hb; have hnb81 := NB303_301.out; have hnc81 := NB301_303.out; have hnb82 := NB303_302.out; have hnc82 := NB302_303.out; obtain ⟨hcz83_0, hcz83_1, hcz83_2, hcz83_3, hfz83_0, hfz83_1, hfz83_2, hfz83_3⟩ := zc4 BK303))
         refine bodyPost_ret (results_cell_row rfl _ _ gb303 24 #[.int .i64 t317, .int .i64 t318, .int .i64 t319, .int .i64 t320] (0, 0) _ rfl (by refine bq ?_; refine blk_put (cs := #[.int .i64 t317, .int .i64 t318, .int .i64 t319, .int .i64 0]) ?_ 3 _ rfl; refine bq ?_; refine blk_put (cs := #[.int .i64 t317, .int .i64 t318, .int .i64 0, .int .i64 0]) ?_ 2 _ rfl; refine bq ?_; refine blk_put (cs := #[.int .i64 t317, .int .i64 0, .int .i64 0, .int .i64 0]) ?_ 1 _ rfl; refine bq ?_; refine blk_put (cs := #[.int .i64 0, .int .i64 0, .int .i64 0, .int .i64 0]) ?_ 0 _ rfl; exact bq BK303.out) Try.underlying24 rfl (by kernel_rfl)) rfl ?_
         exact ⟨by first | rfl | (simp [errW_none, errW_some] <;> rfl) | (simp only [← hji47, ← hji49, ← hji51, ← hji53]; first | rfl | (simp [errW_none, errW_some] <;> rfl)) | (simp [*, errW_none, errW_some] <;> rfl), zB⟩
      ·rw [if_neg c48] at H
       exact absurd H (by simp)
    ·rw [if_neg c26] at H
     have c26b0 : (a2_0 == a2_1) = false := beq_eq_false_iff_ne.mpr c26
     have c26b1 : (a2_0 != a2_1) = true := bne_iff_ne.mpr c26
     replace H := Option.bind_eq_some_iff.mp H
     obtain ⟨⟨t312, t313, t314, t315⟩, A840, H⟩ := H
     try dsimp only at H
     have A84 := Aside0.mk A840
     clear A840
     simp only [Option.some.injEq, Prod.mk.injEq] at H
     obtain ⟨rfl, rfl, rfl, rfl⟩ := H
     have hnb85 := NB302_301.out
     have hnc85 := NB301_302.out
     have hnb86 := NB302_303.out
     have hnc86 := NB303_302.out
     obtain ⟨hcz87_0, hcz87_1, hcz87_2, hcz87_3, hfz87_0, hfz87_1, hfz87_2, hfz87_3⟩ := zc4 BK302
     go_wp2_with (first | ((with_reducible refine gate_callee (f := 42) rfl ?_); refine gl 31 Try.func42 #[] ?_; (with_reducible refine (impl_rangeAll.calls  t312 t313 t314 t315 _ A84.out).mono ?_); rintro e w88 ⟨rfl, hb⟩; refine ⟨_, rfl, ?_⟩; replace BK301 := zb BK301 hb rfl; replace BK302 := zb BK302 hb rfl; replace BK303 := zb BK303 hb rfl; replace HB := zS hb; try clear hb; have hnb89 := NB303_301.out; have hnc89 := NB301_303.out; obtain ⟨hcz90_0, hcz90_1, hcz90_2, hcz90_3, hfz90_0, hfz90_1, hfz90_2, hfz90_3⟩ := zc4 BK303))
     refine bodyPost_ret (results_cell_row rfl _ _ gb303 24 #[.int .i64 t312, .int .i64 t313, .int .i64 t314, .int .i64 t315] (0, 0) _ rfl (by refine bq ?_; refine blk_put (cs := #[.int .i64 t312, .int .i64 t313, .int .i64 t314, .int .i64 0]) ?_ 3 _ rfl; refine bq ?_; refine blk_put (cs := #[.int .i64 t312, .int .i64 t313, .int .i64 0, .int .i64 0]) ?_ 2 _ rfl; refine bq ?_; refine blk_put (cs := #[.int .i64 t312, .int .i64 0, .int .i64 0, .int .i64 0]) ?_ 1 _ rfl; refine bq ?_; refine blk_put (cs := #[.int .i64 0, .int .i64 0, .int .i64 0, .int .i64 0]) ?_ 0 _ rfl; exact bq BK303.out) Try.underlying24 rfl (by kernel_rfl)) rfl ?_
     exact ⟨zR, zB⟩

end Go.Proofs.Ytdhijcfohbkpoaa.Q
