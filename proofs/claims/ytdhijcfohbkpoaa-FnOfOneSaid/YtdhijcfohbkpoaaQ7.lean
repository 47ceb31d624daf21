/- The machine's side of this seat's laws: Go functions as Lean functions, and their contracts. By a program of this work over the kit's print. -/
import Derived.Test.YtdhijcfohbkpoaaQ0
import Derived.Test.YtdhijcfohbkpoaaQ6
namespace Go.Proofs.Ytdhijcfohbkpoaa.Q
open Go.RowKit Go.Proofs.YtdhijcfohbkpoaaW.PrintWords Go.Proofs.YtdhijcfohbkpoaaW.PrintLast Go.Proofs.YtdhijcfohbkpoaaW.PrintMore
attribute [local go_sem] max2_int min2_int max_two min_two max_three min_three max_four min_four Go.Proofs.YtdhijcfohbkpoaaN.not_i64 Go.Proofs.YtdhijcfohbkpoaaN.isSome_setCell   -- for this text's walks alone
set_option linter.unusedVariables false
set_option linter.unusedSimpArgs false

/-! ### impl_Range_least: function 32 -/
def impl_Range_least.j0 : Nat → Int → Int → Int → Int → Int → Option (Int)
 | 0, _, _, _, _, _ => none
 | k + 1, x3, x250000, x250001, x250002, x250003 => if x3 < 0 then (some (-1)) else ((impl_Range_has.f x250000 x250001 x250002 x250003 x3).bind fun t251 => (if t251 = true then (some x3) else (some (-1))))
def impl_Range_least.f (k : Nat) (a0_0 : Int) (a0_1 : Int) (a0_2 : Int) (a0_3 : Int) : Option (Int) := if (Go.bits .andNot .i64 a0_0 a0_3) = a0_2 then (impl_Range_least.j0 k a0_0 a0_0 a0_1 a0_2 a0_3) else ((impl_Range_above.f k a0_0 a0_1 a0_2 a0_3).bind fun t250 => (impl_Range_least.j0 k t250 a0_0 a0_1 a0_2 a0_3))


set_option maxHeartbeats 8000000 in
set_option maxRecDepth 100000 in
theorem impl_Range_least.calls (k : Nat) (a0_0 : Int) (a0_1 : Int) (a0_2 : Int) (a0_3 : Int) (r : Int) (w : World) (h : impl_Range_least.f k a0_0 a0_1 a0_2 a0_3 = some r) :
  Calls Try.prog 32 #[.agg #[.int .i64 a0_0, .int .i64 a0_1, .int .i64 a0_2, .int .i64 a0_3]] w fun e w' => e = .returned (.int .i64 r) ∧ Below w.heap.size w w' := by
 have hu24 := Try.underlying24
 have HB := Aside0.mk (Below.refl w.heap.size w)
 have H : (if (Go.bits .andNot .i64 a0_0 a0_3) = a0_2 then (impl_Range_least.j0 k a0_0 a0_0 a0_1 a0_2 a0_3) else ((impl_Range_above.f k a0_0 a0_1 a0_2 a0_3).bind fun t250 => (impl_Range_least.j0 k t250 a0_0 a0_1 a0_2 a0_3))) = some r := h
 clear h
 have HC2 := Aside0.mk H
 clear H
 go_enter Try.func32, Try.ntmps32
 go_upto_if 12 with (first | ((with_reducible refine gate_dst (N := 1) rfl ?_); refine be 1 #[.int .i64 a0_0, .int .i64 a0_1, .int .i64 a0_2, .int .i64 a0_3] 24 ?_; intro gb249 hg w3 hbox hb; have BK249 := Aside0.mk hbox; have GW249 := zW hg; replace HB := zS hb; have GE249 := GW249; clear hb hbox hg; obtain ⟨hcz4_0, hcz4_1, hcz4_2, hcz4_3, hfz4_0, hfz4_1, hfz4_2, hfz4_3⟩ := zc4 BK249))
 (try simp only [Act.put, List.setIfInBounds_toArray, List.set_cons_zero, List.set_cons_succ])
 go_cut [3] (fun v3 wc => ∃ (kq : Nat) (x3_1 : Int), v3 = .int .i64 x3_1 ∧ Aside0 (impl_Range_least.j0 kq x3_1 a0_0 a0_1 a0_2 a0_3 = some r) ∧ Aside0 (kq ≤ k) ∧ Aside0 (wc.heap[gb249]? = some (.cells #[.int .i64 a0_0, .int .i64 a0_1, .int .i64 a0_2, .int .i64 a0_3] 24 (0, 0))) ∧ Aside0 (Below w.heap.size w wc))
 case first =>
  have H := HC2.out
  clear HC2
  by_cases c5 : (Go.bits .andNot .i64 a0_0 a0_3) = a0_2
  ·rw [if_pos c5] at H
   have c5b0 : ((Go.bits .andNot .i64 a0_0 a0_3) == a0_2) = true := beq_iff_eq.mpr c5
   have c5b1 : ((Go.bits .andNot .i64 a0_0 a0_3) != a0_2) = false := bne_eq_false_iff_eq.mpr c5
   clear c5
   (first | rw [c5b0] | (simp only [i64_w, i32_w]; rw [c5b0]) | skip)
   have H' := Aside0.mk H
   clear H
   go_wp2
   go_meet
   case rel => exact ⟨_, (a0_0), (by first | rfl | (simp; done) | (simp [*]; done)), H', ⟨by first | omega | exact Nat.le_refl _⟩, ⟨by exact bq BK249.out⟩, ⟨zB⟩⟩
  ·rw [if_neg c5] at H
   have c5b0 : ((Go.bits .andNot .i64 a0_0 a0_3) == a0_2) = false := beq_eq_false_iff_ne.mpr c5
   have c5b1 : ((Go.bits .andNot .i64 a0_0 a0_3) != a0_2) = true := bne_iff_ne.mpr c5
   (first | rw [c5b0] | (simp only [i64_w, i32_w]; rw [c5b0]) | skip)
   replace H := Option.bind_eq_some_iff.mp H
   obtain ⟨t250, A60, H⟩ := H
   try dsimp only at H
   have A6 := Aside0.mk A60
   clear A60
   have H' := Aside0.mk H
   clear H
   obtain ⟨hcz7_0, hcz7_1, hcz7_2, hcz7_3, hfz7_0, hfz7_1, hfz7_2, hfz7_3⟩ := zc4 BK249
   go_wp2_with (first | ((with_reducible refine gate_callee (f := 57) rfl ?_); refine gl 14 Try.func57 #[.agg #[.int .i64 a0_0, .int .i64 a0_1, .int .i64 a0_2, .int .i64 a0_3]] ?_; (with_reducible refine (impl_Range_above.calls k a0_0 a0_1 a0_2 a0_3 t250 _ A6.out).mono ?_); rintro e w8 ⟨rfl, hb⟩; refine ⟨_, rfl, ?_⟩; replace BK249 := zb BK249 hb rfl; replace HB := zS hb; try clear hb))
   go_meet
   case rel => exact ⟨_, (t250), (by first | rfl | (simp; done) | (simp [*]; done)), H', ⟨by first | omega | exact Nat.le_refl _⟩, ⟨by exact bq BK249.out⟩, ⟨zB⟩⟩
 case rest =>
  clear HC2
  try clear p2
  try clear c3
  try clear c5
  try clear c5b0
  try clear c5b1
  try clear hcz4_0 hcz4_1 hcz4_2 hcz4_3 hfz4_0 hfz4_1 hfz4_2 hfz4_3
  try clear hcz7_0 hcz7_1 hcz7_2 hcz7_3 hfz7_0 hfz7_1 hfz7_2 hfz7_3
  obtain ⟨kq, x3_1, rfl, HA, HJ1, BK249, HB⟩ := hcut
  cases kq with
  | zero => exact absurd HA.out (by simp [impl_Range_least.j0])
  | succ kj1 =>
   have H := HA.out
   clear HA
   simp only [impl_Range_least.j0] at H
   by_cases c9 : x3_1 < 0
   ·rw [if_pos c9] at H
    have c9b0 : decide (x3_1 < 0) = true := decide_eq_true c9
    clear c9
    obtain rfl := Option.some.inj H
    go_wp2
    go_ret
    exact ⟨zR, zB⟩
   ·rw [if_neg c9] at H
    have c9b0 : decide (x3_1 < 0) = false := decide_eq_false c9
    clear c9
    replace H := Option.bind_eq_some_iff.mp H
    obtain ⟨t251, A100, H⟩ := H
    try dsimp only at H
    have A10 := Aside0.mk A100
    clear A100
    by_cases c11 : t251 = true
    ·subst c11
     rw [if_pos rfl] at H
     obtain rfl := Option.some.inj H
     obtain ⟨hcz12_0, hcz12_1, hcz12_2, hcz12_3, hfz12_0, hfz12_1, hfz12_2, hfz12_3⟩ := zc4 BK249
     go_wp2_with (first | (go_at_call 30; (with_reducible refine (impl_Range_has.calls a0_0 a0_1 a0_2 a0_3 x3_1 true _ A10.out).mono ?_); rintro e w13 ⟨rfl, hb⟩; replace BK249 := zb BK249 hb rfl; replace HB := zS hb; try clear hb))
     go_ret
     exact ⟨zR, zB⟩
    ·replace c11 := Bool.eq_false_iff.mpr c11
     subst c11
     rw [if_neg (show ¬ (false = true) by decide)] at H
     obtain rfl := Option.some.inj H
     obtain ⟨hcz14_0, hcz14_1, hcz14_2, hcz14_3, hfz14_0, hfz14_1, hfz14_2, hfz14_3⟩ := zc4 BK249
     go_wp2_with (first | (go_at_call 30; (with_reducible refine (impl_Range_has.calls a0_0 a0_1 a0_2 a0_3 x3_1 false _ A10.out).mono ?_); rintro e w15 ⟨rfl, hb⟩; replace BK249 := zb BK249 hb rfl; replace HB := zS hb; try clear hb))
     go_ret
     exact ⟨zR, zB⟩

/-! ### impl_Range_some: function 20 -/
def impl_Range_some.f (k : Nat) (a0_0 : Int) (a0_1 : Int) (a0_2 : Int) (a0_3 : Int) : Option (Bool) := (impl_RangeOk.f a0_0 a0_1 a0_2 a0_3).bind fun t253 => (if t253 = true then ((impl_Range_least.f k a0_0 a0_1 a0_2 a0_3).bind fun t254 => (some (decide (t254 ≥ 0)))) else (some false))

set_option maxHeartbeats 8000000 in
set_option maxRecDepth 100000 in
theorem impl_Range_some.calls (k : Nat) (a0_0 : Int) (a0_1 : Int) (a0_2 : Int) (a0_3 : Int) (r : Bool) (w : World) (h : impl_Range_some.f k a0_0 a0_1 a0_2 a0_3 = some r) :
  Calls Try.prog 20 #[.agg #[.int .i64 a0_0, .int .i64 a0_1, .int .i64 a0_2, .int .i64 a0_3]] w fun e w' => e = .returned (.bool r) ∧ Below w.heap.size w w' := by
 have hu24 := Try.underlying24
 have HB := Aside0.mk (Below.refl w.heap.size w)
 have H : ((impl_RangeOk.f a0_0 a0_1 a0_2 a0_3).bind fun t253 => (if t253 = true then ((impl_Range_least.f k a0_0 a0_1 a0_2 a0_3).bind fun t254 => (some (decide (t254 ≥ 0)))) else (some false))) = some r := h
 clear h
 replace H := Option.bind_eq_some_iff.mp H
 obtain ⟨t253, A20, H⟩ := H
 try dsimp only at H
 have A2 := Aside0.mk A20
 clear A20
 by_cases c3 : t253 = true
 ·subst c3
  rw [if_pos rfl] at H
  replace H := Option.bind_eq_some_iff.mp H
  obtain ⟨t254, A40, H⟩ := H
  try dsimp only at H
  have A4 := Aside0.mk A40
  clear A40
  obtain rfl := Option.some.inj H
  go_enter Try.func20, Try.ntmps20
  go_wp2_with (first | ((with_reducible refine gate_dst (N := 1) rfl ?_); refine be 1 #[.int .i64 a0_0, .int .i64 a0_1, .int .i64 a0_2, .int .i64 a0_3] 24 ?_; intro gb252 hg w5 hbox hb; have BK252 := Aside0.mk hbox; have GW252 := zW hg; replace HB := zS hb; have GE252 := GW252; clear hb hbox hg; obtain ⟨hcz6_0, hcz6_1, hcz6_2, hcz6_3, hfz6_0, hfz6_1, hfz6_2, hfz6_3⟩ := zc4 BK252) | ((with_reducible refine gate_callee (f := 8) rfl ?_); refine gl 4 Try.func8 #[.agg #[.int .i64 a0_0, .int .i64 a0_1, .int .i64 a0_2, .int .i64 a0_3]] ?_; (with_reducible refine (impl_RangeOk.calls a0_0 a0_1 a0_2 a0_3 true _ A2.out).mono ?_); rintro e w7 ⟨rfl, hb⟩; refine ⟨_, rfl, ?_⟩; replace BK252 := zb BK252 hb rfl; replace HB := zS hb; try clear hb; obtain ⟨hcz8_0, hcz8_1, hcz8_2, hcz8_3, hfz8_0, hfz8_1, hfz8_2, hfz8_3⟩ := zc4 BK252) | (go_at_call 32; (with_reducible refine (impl_Range_least.calls k a0_0 a0_1 a0_2 a0_3 t254 _ A4.out).mono ?_); rintro e w9 ⟨rfl, hb⟩; replace BK252 := zb BK252 hb rfl; replace HB := zS hb; try clear hb))
  go_ret
  exact ⟨zR, zB⟩
 ·replace c3 := Bool.eq_false_iff.mpr c3
  subst c3
  rw [if_neg (show ¬ (false = true) by decide)] at H
  obtain rfl := Option.some.inj H
  go_enter Try.func20, Try.ntmps20
  go_wp2_with (first | ((with_reducible refine gate_dst (N := 1) rfl ?_); refine be 1 #[.int .i64 a0_0, .int .i64 a0_1, .int .i64 a0_2, .int .i64 a0_3] 24 ?_; intro gb252 hg w10 hbox hb; have BK252 := Aside0.mk hbox; have GW252 := zW hg; replace HB := zS hb; have GE252 := GW252; clear hb hbox hg; obtain ⟨hcz11_0, hcz11_1, hcz11_2, hcz11_3, hfz11_0, hfz11_1, hfz11_2, hfz11_3⟩ := zc4 BK252) | ((with_reducible refine gate_callee (f := 8) rfl ?_); refine gl 4 Try.func8 #[.agg #[.int .i64 a0_0, .int .i64 a0_1, .int .i64 a0_2, .int .i64 a0_3]] ?_; (with_reducible refine (impl_RangeOk.calls a0_0 a0_1 a0_2 a0_3 false _ A2.out).mono ?_); rintro e w12 ⟨rfl, hb⟩; refine ⟨_, rfl, ?_⟩; replace BK252 := zb BK252 hb rfl; replace HB := zS hb; try clear hb))
  go_ret
  exact ⟨zR, zB⟩

/-! ### impl_noRange: function 21 -/
def impl_noRange.f  : Option (Int × Int × Int × Int) := some (1, 0, 0, 0)
set_option maxHeartbeats 8000000 in
set_option maxRecDepth 100000 in
theorem impl_noRange.calls  (r1 : Int) (r2 : Int) (r3 : Int) (r4 : Int) (w : World) (h : impl_noRange.f  = some (r1, r2, r3, r4)) :
  Calls Try.prog 21 #[] w fun e w' => e = .returned (.agg #[.int .i64 r1, .int .i64 r2, .int .i64 r3, .int .i64 r4]) ∧ Below w.heap.size w w' := by
 have hu24 := Try.underlying24
 have HB := Aside0.mk (Below.refl w.heap.size w)
 have H : (some (1, 0, 0, 0)) = some (r1, r2, r3, r4) := h
 clear h
 simp only [Option.some.injEq, Prod.mk.injEq] at H
 obtain ⟨rfl, rfl, rfl, rfl⟩ := H
 go_enter Try.func21, Try.ntmps21
 go_wp2_with (first | ((with_reducible refine gate_dst (N := 0) rfl ?_); refine be 0 #[.int .i64 0, .int .i64 0, .int .i64 0, .int .i64 0] 24 ?_; intro gb255 hg w1 hbox hb; have BK255 := Aside0.mk hbox; have GW255 := zW hg; replace HB := zS hb; have GE255 := GW255; clear hb hbox hg; obtain ⟨hcz2_0, hcz2_1, hcz2_2, hcz2_3, hfz2_0, hfz2_1, hfz2_2, hfz2_3⟩ := zc4 BK255))
 refine bodyPost_ret (results_cell_row rfl _ _ gb255 24 #[.int .i64 1, .int .i64 0, .int .i64 0, .int .i64 0] (0, 0) _ rfl (by refine bq ?_; refine blk_put (cs := #[.int .i64 1, .int .i64 0, .int .i64 0, .int .i64 0]) ?_ 3 _ rfl; refine bq ?_; refine blk_put (cs := #[.int .i64 1, .int .i64 0, .int .i64 0, .int .i64 0]) ?_ 2 _ rfl; refine bq ?_; refine blk_put (cs := #[.int .i64 1, .int .i64 0, .int .i64 0, .int .i64 0]) ?_ 1 _ rfl; refine bq ?_; refine blk_put (cs := #[.int .i64 0, .int .i64 0, .int .i64 0, .int .i64 0]) ?_ 0 _ rfl; exact bq BK255.out) Try.underlying24 rfl (by kernel_rfl)) rfl ?_
 exact ⟨zR, zB⟩

/-! ### impl_RangeOne: function 13 -/
def impl_RangeOne.f (a0 : Int) : Option (Int × Int × Int × Int) := (impl_numOk.f a0).bind fun t257 => (if t257 = true then (some (a0, a0, a0, 0)) else ((impl_noRange.f).bind fun bt258 => (some (bt258.1, bt258.2.1, bt258.2.2.1, bt258.2.2.2))))
set_option maxHeartbeats 8000000 in
set_option maxRecDepth 100000 in
theorem impl_RangeOne.calls (a0 : Int) (r1 : Int) (r2 : Int) (r3 : Int) (r4 : Int) (w : World) (h : impl_RangeOne.f a0 = some (r1, r2, r3, r4)) :
  Calls Try.prog 13 #[.int .i64 a0] w fun e w' => e = .returned (.agg #[.int .i64 r1, .int .i64 r2, .int .i64 r3, .int .i64 r4]) ∧ Below w.heap.size w w' := by
 have hu24 := Try.underlying24
 have HB := Aside0.mk (Below.refl w.heap.size w)
 have H : ((impl_numOk.f a0).bind fun t257 => (if t257 = true then (some (a0, a0, a0, 0)) else ((impl_noRange.f).bind fun bt258 => (some (bt258.1, bt258.2.1, bt258.2.2.1, bt258.2.2.2))))) = some (r1, r2, r3, r4) := h
 clear h
 replace H := Option.bind_eq_some_iff.mp H
 obtain ⟨t257, A20, H⟩ := H
 try dsimp only at H
 have A2 := Aside0.mk A20
 clear A20
 by_cases c3 : t257 = true
 ·subst c3
  rw [if_pos rfl] at H
  simp only [Option.some.injEq, Prod.mk.injEq] at H
  obtain ⟨rfl, rfl, rfl, rfl⟩ := H
  go_enter Try.func13, Try.ntmps13
  go_wp2_with (first | ((with_reducible refine gate_dst (N := 2) rfl ?_); refine be 2 #[.int .i64 0, .int .i64 0, .int .i64 0, .int .i64 0] 24 ?_; intro gb256 hg w4 hbox hb; have BK256 := Aside0.mk hbox; have GW256 := zW hg; replace HB := zS hb; have GE256 := GW256; clear hb hbox hg) | ((with_reducible refine gate_callee (f := 28) rfl ?_); refine gl 4 Try.func28 #[.int .i64 a0] ?_; (with_reducible refine (impl_numOk.calls a0 true _ A2.out).mono ?_); rintro e w' ⟨rfl, ⟨nd, rfl⟩⟩; refine ⟨_, rfl, ?_⟩; (try (rw [drewN_self w4]; generalize hq_ : World.drewN w4 _ = w4; have n0_ : Aside0 (w4.heap[gb256]? = some (.cells #[.int .i64 0, .int .i64 0, .int .i64 0, .int .i64 0] 24 (0, 0))) := ⟨by rw [← hq_]; exact (by exact bq BK256.out)⟩; have n1_ : Aside0 (Below w.heap.size w w4) := ⟨by rw [← hq_]; exact zB⟩; clear BK256 HB hq_; have BK256 := n0_; have HB := n1_; clear n0_ n1_)); obtain ⟨hcz5_0, hcz5_1, hcz5_2, hcz5_3, hfz5_0, hfz5_1, hfz5_2, hfz5_3⟩ := zc4 BK256))
  refine bodyPost_ret (results_cell_row rfl _ _ gb256 24 #[.int .i64 a0, .int .i64 a0, .int .i64 a0, .int .i64 0] (0, 0) _ rfl (by refine bq ?_; refine blk_put (cs := #[.int .i64 a0, .int .i64 a0, .int .i64 a0, .int .i64 0]) ?_ 3 _ rfl; refine bq ?_; refine blk_put (cs := #[.int .i64 a0, .int .i64 a0, .int .i64 0, .int .i64 0]) ?_ 2 _ rfl; refine bq ?_; refine blk_put (cs := #[.int .i64 a0, .int .i64 0, .int .i64 0, .int .i64 0]) ?_ 1 _ rfl; refine bq ?_; refine blk_put (cs := #[.int .i64 0, .int .i64 0, .int .i64 0, .int .i64 0]) ?_ 0 _ rfl; exact bq BK256.out) Try.underlying24 rfl (by kernel_rfl)) rfl ?_
  exact ⟨zR, zB⟩
 ·replace c3 := Bool.eq_false_iff.mpr c3
  subst c3
  rw [if_neg (show ¬ (false = true) by decide)] at H
  replace H := Option.bind_eq_some_iff.mp H
  obtain ⟨⟨t258, t259, t260, t261⟩, A60, H⟩ := H
  try dsimp only at H
  have A6 := Aside0.mk A60
  clear A60
  simp only [Option.some.injEq, Prod.mk.injEq] at H
  obtain ⟨rfl, rfl, rfl, rfl⟩ := H
  go_enter Try.func13, Try.ntmps13
  go_wp2_with (first | ((with_reducible refine gate_dst (N := 2) rfl ?_); refine be 2 #[.int .i64 0, .int .i64 0, .int .i64 0, .int .i64 0] 24 ?_; intro gb256 hg w7 hbox hb; have BK256 := Aside0.mk hbox; have GW256 := zW hg; replace HB := zS hb; have GE256 := GW256; clear hb hbox hg) | ((with_reducible refine gate_callee (f := 28) rfl ?_); refine gl 4 Try.func28 #[.int .i64 a0] ?_; (with_reducible refine (impl_numOk.calls a0 false _ A2.out).mono ?_); rintro e w' ⟨rfl, ⟨nd, rfl⟩⟩; refine ⟨_, rfl, ?_⟩; (try (rw [drewN_self w7]; generalize hq_ : World.drewN w7 _ = w7; have n0_ : Aside0 (w7.heap[gb256]? = some (.cells #[.int .i64 0, .int .i64 0, .int .i64 0, .int .i64 0] 24 (0, 0))) := ⟨by rw [← hq_]; exact (by exact bq BK256.out)⟩; have n1_ : Aside0 (Below w.heap.size w w7) := ⟨by rw [← hq_]; exact zB⟩; clear BK256 HB hq_; have BK256 := n0_; have HB := n1_; clear n0_ n1_))) | ((with_reducible refine gate_callee (f := 21) rfl ?_); refine gl 6 Try.func21 #[] ?_; (with_reducible refine (impl_noRange.calls  t258 t259 t260 t261 _ A6.out).mono ?_); rintro e w8 ⟨rfl, hb⟩; refine ⟨_, rfl, ?_⟩; replace BK256 := zb BK256 hb rfl; replace HB := zS hb; try clear hb; obtain ⟨hcz9_0, hcz9_1, hcz9_2, hcz9_3, hfz9_0, hfz9_1, hfz9_2, hfz9_3⟩ := zc4 BK256))
  refine bodyPost_ret (results_cell_row rfl _ _ gb256 24 #[.int .i64 t258, .int .i64 t259, .int .i64 t260, .int .i64 t261] (0, 0) _ rfl (by refine bq ?_; refine blk_put (cs := #[.int .i64 t258, .int .i64 t259, .int .i64 t260, .int .i64 0]) ?_ 3 _ rfl; refine bq ?_; refine blk_put (cs := #[.int .i64 t258, .int .i64 t259, .int .i64 0, .int .i64 0]) ?_ 2 _ rfl; refine bq ?_; refine blk_put (cs := #[.int .i64 t258, .int .i64 0, .int .i64 0, .int .i64 0]) ?_ 1 _ rfl; refine bq ?_; refine blk_put (cs := #[.int .i64 0, .int .i64 0, .int .i64 0, .int .i64 0]) ?_ 0 _ rfl; exact bq BK256.out) Try.underlying24 rfl (by kernel_rfl)) rfl ?_
  exact ⟨zR, zB⟩

/-! ### impl_reckon: function 31 -/
def impl_reckon.f (a0 : Int) (a1 : Int) (a2 : Int) : Option (Int) := if a0 = 2 then (some (Go.bits .and .i64 (wrap64 (a1 + a2)) 4294967295)) else (if a0 = 3 then (some (Go.bits .and .i64 (wrap64 (a1 - a2)) 4294967295)) else (if a0 = 4 then (some ((((a1) % 4294967296) * ((a2) % 4294967296)) % 4294967296)) else (if a0 = 5 then (some (Go.bits .and .i64 a1 a2)) else (if a0 = 6 then (some (Go.bits .or .i64 a1 a2)) else (if a0 = 7 then (some (Go.bits .xor .i64 a1 a2)) else (if a0 = 8 then (if 0 ≤ (Int.tmod a2 32) then (some (Go.bits .and .i64 (shl .i64 a1 (Int.tmod a2 32)) 4294967295)) else (none)) else (if a0 = 9 then (if 0 ≤ (Int.tmod a2 32) then (some (shr .i64 a1 (Int.tmod a2 32))) else (none)) else (if a0 = 10 then (if a2 = 0 then (some 0) else (some (wrap64 (Int.tdiv a1 a2)))) else (if a0 = 11 then (if a2 = 0 then (some a1) else (some (Int.tmod a1 a2))) else (some a2))))))))))
set_option maxHeartbeats 8000000 in
set_option maxRecDepth 100000 in
theorem impl_reckon.calls (a0 : Int) (a1 : Int) (a2 : Int) (r : Int) (w : World) (h : impl_reckon.f a0 a1 a2 = some r) :
  Calls Try.prog 31 #[.int .i64 a0, .int .i64 a1, .int .i64 a2] w fun e w' => e = .returned (.int .i64 r) ∧ Drawn0 w w' := by
 have H : (if a0 = 2 then (some (Go.bits .and .i64 (wrap64 (a1 + a2)) 4294967295)) else (if a0 = 3 then (some (Go.bits .and .i64 (wrap64 (a1 - a2)) 4294967295)) else (if a0 = 4 then (some ((((a1) % 4294967296) * ((a2) % 4294967296)) % 4294967296)) else (if a0 = 5 then (some (Go.bits .and .i64 a1 a2)) else (if a0 = 6 then (some (Go.bits .or .i64 a1 a2)) else (if a0 = 7 then (some (Go.bits .xor .i64 a1 a2)) else (if a0 = 8 then (if 0 ≤ (Int.tmod a2 32) then (some (Go.bits .and .i64 (shl .i64 a1 (Int.tmod a2 32)) 4294967295)) else (none)) else (if a0 = 9 then (if 0 ≤ (Int.tmod a2 32) then (some (shr .i64 a1 (Int.tmod a2 32))) else (none)) else (if a0 = 10 then (if a2 = 0 then (some 0) else (some (wrap64 (Int.tdiv a1 a2)))) else (if a0 = 11 then (if a2 = 0 then (some a1) else (some (Int.tmod a1 a2))) else (some a2))))))))))) = some r := h
 clear h
 by_cases c4 : a0 = 2
 ·rw [if_pos c4] at H
  have c4b0 : (a0 == 2) = true := beq_iff_eq.mpr c4
  have c4b1 : (a0 != 2) = false := bne_eq_false_iff_eq.mpr c4
  clear c4
  obtain rfl := Option.some.inj H
  go_enter Try.func31, Try.ntmps31
  go_wp2
  go_ret
  exact ⟨by first | rfl | (simp; done) | (simp [*]; done), by repeat (first | exact Drawn0.refl _ | apply Drawn0.step)⟩
 ·rw [if_neg c4] at H
  have c4b0 : (a0 == 2) = false := beq_eq_false_iff_ne.mpr c4
  have c4b1 : (a0 != 2) = true := bne_iff_ne.mpr c4
  by_cases c5 : a0 = 3
  ·rw [if_pos c5] at H
   have c5b0 : (a0 == 3) = true := beq_iff_eq.mpr c5
   have c5b1 : (a0 != 3) = false := bne_eq_false_iff_eq.mpr c5
   clear c5
   obtain rfl := Option.some.inj H
   go_enter Try.func31, Try.ntmps31
   go_wp2
   go_ret
   exact ⟨by first | rfl | (simp; done) | (simp [*]; done), by repeat (first | exact Drawn0.refl _ | apply Drawn0.step)⟩
  ·rw [if_neg c5] at H
   have c5b0 : (a0 == 3) = false := beq_eq_false_iff_ne.mpr c5
   have c5b1 : (a0 != 3) = true := bne_iff_ne.mpr c5
   by_cases c6 : a0 = 4
   ·rw [if_pos c6] at H
    have c6b0 : (a0 == 4) = true := beq_iff_eq.mpr c6
    have c6b1 : (a0 != 4) = false := bne_eq_false_iff_eq.mpr c6
    clear c6
    obtain rfl := Option.some.inj H
    go_enter Try.func31, Try.ntmps31
    go_wp2
    go_ret
    exact ⟨by first | rfl | (simp; done) | (simp [*]; done), by repeat (first | exact Drawn0.refl _ | apply Drawn0.step)⟩
   ·rw [if_neg c6] at H
    have c6b0 : (a0 == 4) = false := beq_eq_false_iff_ne.mpr c6
    have c6b1 : (a0 != 4) = true := bne_iff_ne.mpr c6
    by_cases c7 : a0 = 5
    ·rw [if_pos c7] at H
     have c7b0 : (a0 == 5) = true := beq_iff_eq.mpr c7
     have c7b1 : (a0 != 5) = false := bne_eq_false_iff_eq.mpr c7
     clear c7
     obtain rfl := Option.some.inj H
     go_enter Try.func31, Try.ntmps31
     go_wp2
     go_ret
     exact ⟨by first | rfl | (simp; done) | (simp [*]; done), by repeat (first | exact Drawn0.refl _ | apply Drawn0.step)⟩
    ·rw [if_neg c7] at H
     have c7b0 : (a0 == 5) = false := beq_eq_false_iff_ne.mpr c7
     have c7b1 : (a0 != 5) = true := bne_iff_ne.mpr c7
     by_cases c8 : a0 = 6
     ·rw [if_pos c8] at H
      have c8b0 : (a0 == 6) = true := beq_iff_eq.mpr c8
      have c8b1 : (a0 != 6) = false := bne_eq_false_iff_eq.mpr c8
      clear c8
      obtain rfl := Option.some.inj H
      go_enter Try.func31, Try.ntmps31
      go_wp2
      go_ret
      exact ⟨by first | rfl | (simp; done) | (simp [*]; done), by repeat (first | exact Drawn0.refl _ | apply Drawn0.step)⟩
     ·rw [if_neg c8] at H
      have c8b0 : (a0 == 6) = false := beq_eq_false_iff_ne.mpr c8
      have c8b1 : (a0 != 6) = true := bne_iff_ne.mpr c8
      by_cases c9 : a0 = 7
      ·rw [if_pos c9] at H
       have c9b0 : (a0 == 7) = true := beq_iff_eq.mpr c9
       have c9b1 : (a0 != 7) = false := bne_eq_false_iff_eq.mpr c9
       clear c9
       obtain rfl := Option.some.inj H
       go_enter Try.func31, Try.ntmps31
       go_wp2
       go_ret
       exact ⟨by first | rfl | (simp; done) | (simp [*]; done), by repeat (first | exact Drawn0.refl _ | apply Drawn0.step)⟩
      ·rw [if_neg c9] at H
       have c9b0 : (a0 == 7) = false := beq_eq_false_iff_ne.mpr c9
       have c9b1 : (a0 != 7) = true := bne_iff_ne.mpr c9
       by_cases c10 : a0 = 8
       ·rw [if_pos c10] at H
        have c10b0 : (a0 == 8) = true := beq_iff_eq.mpr c10
        have c10b1 : (a0 != 8) = false := bne_eq_false_iff_eq.mpr c10
        clear c10
        obtain ⟨ji11, hji11⟩ : ∃ j_ : Int, (Int.tmod a2 32) = j_ := ⟨_, rfl⟩
        replace H : (if 0 ≤ (ji11) then (some (Go.bits .and .i64 (shl .i64 a1 (ji11)) 4294967295)) else (none)) = some r := by first | (rw [hji11] at H; exact H) | (simp only [hji11] at H ⊢; exact H)
        by_cases c12 : 0 ≤ (ji11)
        ·rw [if_pos c12] at H
         have c12b0 := eq_true c12
         have c12b1 : decide (0 ≤ (ji11)) = true := decide_eq_true c12
         clear c12
         obtain ⟨ji13, hji13⟩ : ∃ j_ : Int, (shl .i64 a1 (ji11)) = j_ := ⟨_, rfl⟩
         replace H : (some (Go.bits .and .i64 (ji13) 4294967295)) = some r := by first | (rw [hji13] at H; exact H) | (simp only [hji13] at H ⊢; exact H)
         have hji13_ : (IntKind.i64.wrap (a1 * 2 ^ min (ji11).toNat 64)) = ji13 := hji13
         have hji13z : (ji11) ≤ 64 → (IntKind.i64.wrap (a1 * 2 ^ (ji11).toNat)) = ji13 := shl_small hji13
         have hji13y : (wrap64 (a1 * 2 ^ min (ji11).toNat 64)) = ji13 := (i64_w _).symm.trans hji13_
         have hji13x : (ji11) ≤ 64 → (wrap64 (a1 * 2 ^ (ji11).toNat)) = ji13 := fun h_ => (i64_w _).symm.trans (hji13z h_)
         obtain rfl := Option.some.inj H
         go_enter Try.func31, Try.ntmps31
         go_wp2
         go_ret
         exact ⟨by first | rfl | (simp; done) | (simp only [← hji11, ← hji13] <;> (first | rfl | simp)) | (simp [*]; done), by repeat (first | exact Drawn0.refl _ | apply Drawn0.step)⟩
        ·rw [if_neg c12] at H
         exact absurd H (by simp)
       ·rw [if_neg c10] at H
        have c10b0 : (a0 == 8) = false := beq_eq_false_iff_ne.mpr c10
        have c10b1 : (a0 != 8) = true := bne_iff_ne.mpr c10
        by_cases c14 : a0 = 9
        ·rw [if_pos c14] at H
         have c14b0 : (a0 == 9) = true := beq_iff_eq.mpr c14
         have c14b1 : (a0 != 9) = false := bne_eq_false_iff_eq.mpr c14
         clear c14
         obtain ⟨ji15, hji15⟩ : ∃ j_ : Int, (Int.tmod a2 32) = j_ := ⟨_, rfl⟩
         replace H : (if 0 ≤ (ji15) then (some (shr .i64 a1 (ji15))) else (none)) = some r := by first | (rw [hji15] at H; exact H) | (simp only [hji15] at H ⊢; exact H)
         by_cases c16 : 0 ≤ (ji15)
         ·rw [if_pos c16] at H
          have c16b0 := eq_true c16
          have c16b1 : decide (0 ≤ (ji15)) = true := decide_eq_true c16
          clear c16
          obtain ⟨ji17, hji17⟩ : ∃ j_ : Int, (shr .i64 a1 (ji15)) = j_ := ⟨_, rfl⟩
          replace H : (some ji17) = some r := by first | (rw [hji17] at H; exact H) | (simp only [hji17] at H ⊢; exact H)
          have hji17_ : (a1 / 2 ^ min (ji15).toNat 64) = ji17 := hji17
          have hji17z : (ji15) ≤ 64 → (a1 / 2 ^ (ji15).toNat) = ji17 := shr_small hji17
          obtain rfl := Option.some.inj H
          go_enter Try.func31, Try.ntmps31
          go_wp2
          go_ret
          exact ⟨by first | rfl | (simp; done) | (simp only [← hji15, ← hji17] <;> (first | rfl | simp)) | (simp [*]; done), by repeat (first | exact Drawn0.refl _ | apply Drawn0.step)⟩
         ·rw [if_neg c16] at H
          exact absurd H (by simp)
        ·rw [if_neg c14] at H
         have c14b0 : (a0 == 9) = false := beq_eq_false_iff_ne.mpr c14
         have c14b1 : (a0 != 9) = true := bne_iff_ne.mpr c14
         by_cases c18 : a0 = 10
         ·rw [if_pos c18] at H
          have c18b0 : (a0 == 10) = true := beq_iff_eq.mpr c18
          have c18b1 : (a0 != 10) = false := bne_eq_false_iff_eq.mpr c18
          clear c18
          by_cases c19 : a2 = 0
          ·rw [if_pos c19] at H
           have c19b0 : (a2 == 0) = true := beq_iff_eq.mpr c19
           have c19b1 : (a2 != 0) = false := bne_eq_false_iff_eq.mpr c19
           clear c19
           obtain rfl := Option.some.inj H
           go_enter Try.func31, Try.ntmps31
           go_wp2
           go_ret
           exact ⟨by first | rfl | (simp; done) | (simp [*]; done), by repeat (first | exact Drawn0.refl _ | apply Drawn0.step)⟩
          ·rw [if_neg c19] at H
           have c19b0 : (a2 == 0) = false := beq_eq_false_iff_ne.mpr c19
           have c19b1 : (a2 != 0) = true := bne_iff_ne.mpr c19
           obtain rfl := Option.some.inj H
           go_enter Try.func31, Try.ntmps31
           go_wp2
           go_ret
           exact ⟨by first | rfl | (simp; done) | (simp [*]; done), by repeat (first | exact Drawn0.refl _ | apply Drawn0.step)⟩
         ·rw [if_neg c18] at H
          have c18b0 : (a0 == 10) = false := beq_eq_false_iff_ne.mpr c18
          have c18b1 : (a0 != 10) = true := bne_iff_ne.mpr c18
          by_cases c20 : a0 = 11
          ·rw [if_pos c20] at H
           have c20b0 : (a0 == 11) = true := beq_iff_eq.mpr c20
           have c20b1 : (a0 != 11) = false := bne_eq_false_iff_eq.mpr c20
           clear c20
           by_cases c21 : a2 = 0
           ·rw [if_pos c21] at H
            have c21b0 : (a2 == 0) = true := beq_iff_eq.mpr c21
            have c21b1 : (a2 != 0) = false := bne_eq_false_iff_eq.mpr c21
            clear c21
            obtain rfl := Option.some.inj H
            go_enter Try.func31, Try.ntmps31
            go_wp2
            go_ret
            exact ⟨by first | rfl | (simp; done) | (simp [*]; done), by repeat (first | exact Drawn0.refl _ | apply Drawn0.step)⟩
           ·rw [if_neg c21] at H
            have c21b0 : (a2 == 0) = false := beq_eq_false_iff_ne.mpr c21
            have c21b1 : (a2 != 0) = true := bne_iff_ne.mpr c21
            obtain rfl := Option.some.inj H
            go_enter Try.func31, Try.ntmps31
            go_wp2
            go_ret
            exact ⟨by first | rfl | (simp; done) | (simp [*]; done), by repeat (first | exact Drawn0.refl _ | apply Drawn0.step)⟩
          ·rw [if_neg c20] at H
           have c20b0 : (a0 == 11) = false := beq_eq_false_iff_ne.mpr c20
           have c20b1 : (a0 != 11) = true := bne_iff_ne.mpr c20
           obtain rfl := Option.some.inj H
           go_enter Try.func31, Try.ntmps31
           go_wp2
           go_ret
           exact ⟨by first | rfl | (simp; done) | (simp [*]; done), by repeat (first | exact Drawn0.refl _ | apply Drawn0.step)⟩

/-! ### bits_Len: function 58 -/
def bits_Len.f (a0 : Int) : Option (Int) := if 0 ≤ a0 then (if a0 ≤ 18446744073709551615 then some ((Lib.bitLen a0.toNat : Nat) : Int) else none) else none
theorem bits_Len.calls (a0 : Int) (r : Int) (w : World) (h : bits_Len.f a0 = some r) :
  Calls Try.prog 58 #[.int .u64 a0] w fun e w' => e = .returned (.int .i64 r) ∧ Drawn0 w w' := by
 unfold bits_Len.f at h
 split at h
 ·split at h
  ·obtain rfl := Option.some.inj h
   refine (Try.bits_Len a0 w ‹_› ‹_›).mono ?_
   rintro e w' ⟨rfl, rfl⟩
   exact ⟨rfl, Drawn0.refl _⟩
  ·cases h
 ·cases h


/-! ### impl_Range_tidy: function 40 -/
def impl_Range_tidy.f (a0_0 : Int) (a0_1 : Int) (a0_2 : Int) (a0_3 : Int) : Option (Int × Int × Int × Int) := (bits_Len.f (IntKind.u64.wrap (Go.bits .xor .i64 a0_0 a0_1))).bind fun t264 => (if 0 ≤ t264 then (some (mx a0_0 (Go.bits .andNot .i64 (Go.bits .or .i64 a0_2 (Go.bits .andNot .i64 a0_0 (wrap64 ((shl .i64 1 t264) - 1)))) (Go.bits .and .i64 a0_3 (wrap64 ((shl .i64 1 t264) - 1)))), mn a0_1 (Go.bits .or .i64 (Go.bits .andNot .i64 (Go.bits .or .i64 a0_2 (Go.bits .andNot .i64 a0_0 (wrap64 ((shl .i64 1 t264) - 1)))) (Go.bits .and .i64 a0_3 (wrap64 ((shl .i64 1 t264) - 1)))) (Go.bits .and .i64 a0_3 (wrap64 ((shl .i64 1 t264) - 1)))), Go.bits .andNot .i64 (Go.bits .or .i64 a0_2 (Go.bits .andNot .i64 a0_0 (wrap64 ((shl .i64 1 t264) - 1)))) (Go.bits .and .i64 a0_3 (wrap64 ((shl .i64 1 t264) - 1))), Go.bits .and .i64 a0_3 (wrap64 ((shl .i64 1 t264) - 1)))) else (none))
def impl_Range_tidy.T4 : Bool × List (List Nat × List Nat) := (true, [([], []), ([0], [0]), ([], []), ([2], [2]), ([1, 3], [1, 3]), ([], []), ([5], [5]), ([], []), ([7], [7]), ([], []), ([9], [9]), ([8, 10], [8, 10]), ([6, 11], [6, 11]), ([0, 1, 2, 3, 4, 7, 8, 9, 10], []), ([13, 4, 0, 1, 2, 3, 4, 7, 8, 9, 10], [4, 13]), ([0, 1, 2, 3, 4, 5, 6, 7, 8, 9, 10, 11, 12, 13, 14], []), ([15, 12, 14, 0, 1, 2, 3, 4, 5, 6, 7, 8, 9, 10, 11, 12, 13, 14], [12, 15])])
def impl_Range_tidy.B4 : List Nat := [0, 1, 0, 4, 15, 0, 32, 0, 128, 0, 512, 1920, 4064, 1951, 10143, 32767, 65535]
theorem impl_Range_tidy.tab4 : rtab .any (opsOf Try.f40 4) = impl_Range_tidy.T4 := by kernel_rfl
theorem impl_Range_tidy.bits4 : waitsOk impl_Range_tidy.T4.2 impl_Range_tidy.B4 = true := by kernel_rfl
set_option maxHeartbeats 8000000 in
set_option maxRecDepth 100000 in
theorem impl_Range_tidy.calls (a0_0 : Int) (a0_1 : Int) (a0_2 : Int) (a0_3 : Int) (r1 : Int) (r2 : Int) (r3 : Int) (r4 : Int) (w : World) (h : impl_Range_tidy.f a0_0 a0_1 a0_2 a0_3 = some (r1, r2, r3, r4)) :
  Calls Try.prog 40 #[.agg #[.int .i64 a0_0, .int .i64 a0_1, .int .i64 a0_2, .int .i64 a0_3]] w fun e w' => e = .returned (.agg #[.int .i64 r1, .int .i64 r2, .int .i64 r3, .int .i64 r4]) ∧ Below w.heap.size w w' := by
 have hu24 := Try.underlying24
 have HB := Aside0.mk (Below.refl w.heap.size w)
 have H : ((bits_Len.f (IntKind.u64.wrap (Go.bits .xor .i64 a0_0 a0_1))).bind fun t264 => (if 0 ≤ t264 then (some (mx a0_0 (Go.bits .andNot .i64 (Go.bits .or .i64 a0_2 (Go.bits .andNot .i64 a0_0 (wrap64 ((shl .i64 1 t264) - 1)))) (Go.bits .and .i64 a0_3 (wrap64 ((shl .i64 1 t264) - 1)))), mn a0_1 (Go.bits .or .i64 (Go.bits .andNot .i64 (Go.bits .or .i64 a0_2 (Go.bits .andNot .i64 a0_0 (wrap64 ((shl .i64 1 t264) - 1)))) (Go.bits .and .i64 a0_3 (wrap64 ((shl .i64 1 t264) - 1)))) (Go.bits .and .i64 a0_3 (wrap64 ((shl .i64 1 t264) - 1)))), Go.bits .andNot .i64 (Go.bits .or .i64 a0_2 (Go.bits .andNot .i64 a0_0 (wrap64 ((shl .i64 1 t264) - 1)))) (Go.bits .and .i64 a0_3 (wrap64 ((shl .i64 1 t264) - 1))), Go.bits .and .i64 a0_3 (wrap64 ((shl .i64 1 t264) - 1)))) else (none))) = some (r1, r2, r3, r4) := h
 clear h
 replace H := Option.bind_eq_some_iff.mp H
 obtain ⟨t264, A20, H⟩ := H
 try dsimp only at H
 have A2 := Aside0.mk A20
 clear A20
 by_cases c3 : 0 ≤ t264
 ·rw [if_pos c3] at H
  have c3b0 := eq_true c3
  have c3b1 : decide (0 ≤ t264) = true := decide_eq_true c3
  clear c3
  obtain ⟨ji4, hji4⟩ : ∃ j_ : Int, (shl .i64 1 t264) = j_ := ⟨_, rfl⟩
  replace H : (some (mx a0_0 (Go.bits .andNot .i64 (Go.bits .or .i64 a0_2 (Go.bits .andNot .i64 a0_0 (wrap64 ((ji4) - 1)))) (Go.bits .and .i64 a0_3 (wrap64 ((ji4) - 1)))), mn a0_1 (Go.bits .or .i64 (Go.bits .andNot .i64 (Go.bits .or .i64 a0_2 (Go.bits .andNot .i64 a0_0 (wrap64 ((ji4) - 1)))) (Go.bits .and .i64 a0_3 (wrap64 ((ji4) - 1)))) (Go.bits .and .i64 a0_3 (wrap64 ((ji4) - 1)))), Go.bits .andNot .i64 (Go.bits .or .i64 a0_2 (Go.bits .andNot .i64 a0_0 (wrap64 ((ji4) - 1)))) (Go.bits .and .i64 a0_3 (wrap64 ((ji4) - 1))), Go.bits .and .i64 a0_3 (wrap64 ((ji4) - 1)))) = some (r1, r2, r3, r4) := by first | (rw [hji4] at H; exact H) | (simp only [hji4] at H ⊢; exact H)
  (try rw [hji4] at A2)
  have hji4_ : (IntKind.i64.wrap (1 * 2 ^ min t264.toNat 64)) = ji4 := hji4
  have hji4z : t264 ≤ 64 → (IntKind.i64.wrap (1 * 2 ^ t264.toNat)) = ji4 := shl_small hji4
  have hji4u : (IntKind.i64.wrap (2 ^ min t264.toNat 64)) = ji4 := by have h_ := hji4_; rw [Int.one_mul] at h_; exact h_
  have hji4v : t264 ≤ 64 → (IntKind.i64.wrap (2 ^ t264.toNat)) = ji4 := fun hle_ => by have h_ := hji4z hle_; rw [Int.one_mul] at h_; exact h_
  have hji4y : (wrap64 (1 * 2 ^ min t264.toNat 64)) = ji4 := (i64_w _).symm.trans hji4_
  have hji4x : t264 ≤ 64 → (wrap64 (1 * 2 ^ t264.toNat)) = ji4 := fun h_ => (i64_w _).symm.trans (hji4z h_)
  obtain ⟨ji5, hji5⟩ : ∃ j_ : Int, (mx a0_0 (Go.bits .andNot .i64 (Go.bits .or .i64 a0_2 (Go.bits .andNot .i64 a0_0 (wrap64 ((ji4) - 1)))) (Go.bits .and .i64 a0_3 (wrap64 ((ji4) - 1))))) = j_ := ⟨_, rfl⟩
  replace H : (some (ji5, mn a0_1 (Go.bits .or .i64 (Go.bits .andNot .i64 (Go.bits .or .i64 a0_2 (Go.bits .andNot .i64 a0_0 (wrap64 ((ji4) - 1)))) (Go.bits .and .i64 a0_3 (wrap64 ((ji4) - 1)))) (Go.bits .and .i64 a0_3 (wrap64 ((ji4) - 1)))), Go.bits .andNot .i64 (Go.bits .or .i64 a0_2 (Go.bits .andNot .i64 a0_0 (wrap64 ((ji4) - 1)))) (Go.bits .and .i64 a0_3 (wrap64 ((ji4) - 1))), Go.bits .and .i64 a0_3 (wrap64 ((ji4) - 1)))) = some (r1, r2, r3, r4) := by first | (rw [hji5] at H; exact H) | (simp only [hji5] at H ⊢; exact H)
  (try rw [hji5] at A2)
  have hji5_ : (if a0_0 < (Go.bits .andNot .i64 (Go.bits .or .i64 a0_2 (Go.bits .andNot .i64 a0_0 (wrap64 ((ji4) - 1)))) (Go.bits .and .i64 a0_3 (wrap64 ((ji4) - 1)))) then (Go.bits .andNot .i64 (Go.bits .or .i64 a0_2 (Go.bits .andNot .i64 a0_0 (wrap64 ((ji4) - 1)))) (Go.bits .and .i64 a0_3 (wrap64 ((ji4) - 1)))) else a0_0) = ji5 := hji5
  obtain ⟨ji6, hji6⟩ : ∃ j_ : Int, (mn a0_1 (Go.bits .or .i64 (Go.bits .andNot .i64 (Go.bits .or .i64 a0_2 (Go.bits .andNot .i64 a0_0 (wrap64 ((ji4) - 1)))) (Go.bits .and .i64 a0_3 (wrap64 ((ji4) - 1)))) (Go.bits .and .i64 a0_3 (wrap64 ((ji4) - 1))))) = j_ := ⟨_, rfl⟩
  replace H : (some (ji5, ji6, Go.bits .andNot .i64 (Go.bits .or .i64 a0_2 (Go.bits .andNot .i64 a0_0 (wrap64 ((ji4) - 1)))) (Go.bits .and .i64 a0_3 (wrap64 ((ji4) - 1))), Go.bits .and .i64 a0_3 (wrap64 ((ji4) - 1)))) = some (r1, r2, r3, r4) := by first | (rw [hji6] at H; exact H) | (simp only [hji6] at H ⊢; exact H)
  (try rw [hji6] at A2)
  have hji6_ : (if (Go.bits .or .i64 (Go.bits .andNot .i64 (Go.bits .or .i64 a0_2 (Go.bits .andNot .i64 a0_0 (wrap64 ((ji4) - 1)))) (Go.bits .and .i64 a0_3 (wrap64 ((ji4) - 1)))) (Go.bits .and .i64 a0_3 (wrap64 ((ji4) - 1)))) < a0_1 then (Go.bits .or .i64 (Go.bits .andNot .i64 (Go.bits .or .i64 a0_2 (Go.bits .andNot .i64 a0_0 (wrap64 ((ji4) - 1)))) (Go.bits .and .i64 a0_3 (wrap64 ((ji4) - 1)))) (Go.bits .and .i64 a0_3 (wrap64 ((ji4) - 1)))) else a0_1) = ji6 := hji6
  simp only [Option.some.injEq, Prod.mk.injEq] at H
  obtain ⟨rfl, rfl, rfl, rfl⟩ := H
  go_enter Try.func40, Try.ntmps40
  try go_wp2_with (first | ((with_reducible refine gate_dst (N := 1) rfl ?_); refine be 1 #[.int .i64 a0_0, .int .i64 a0_1, .int .i64 a0_2, .int .i64 a0_3] 24 ?_; intro gb262 hg w7 hbox hb; have BK262 := Aside0.mk hbox; have GW262 := zW hg; replace HB := zS hb; have GE262 := GW262; clear hb hbox hg) | ((with_reducible refine gate_dst (N := 2) rfl ?_); refine be 2 #[.int .i64 0, .int .i64 0, .int .i64 0, .int .i64 0] 24 ?_; intro gb263 hg w8 hbox hb; have BK263 := Aside0.mk hbox; have GW263 := zW hg; replace HB := zS hb; have GE263 := GW263; have NB262_263 := zl BK262 hg rfl; have NB263_262 := zg BK262 hg rfl; replace BK262 := zb BK262 hb rfl; clear hb hbox hg; have hnb9 := NB262_263.out; have hnc9 := NB263_262.out; obtain ⟨hcz10_0, hcz10_1, hcz10_2, hcz10_3, hfz10_0, hfz10_1, hfz10_2, hfz10_3⟩ := zc4 BK262) | ((with_reducible refine gate_callee (f := 58) rfl ?_); refine gl 11 Try.func58 #[.int .u64 (IntKind.u64.wrap (Go.bits .xor .i64 a0_0 a0_1))] ?_; (with_reducible refine (bits_Len.calls (IntKind.u64.wrap (Go.bits .xor .i64 a0_0 a0_1)) t264 _ A2.out).mono ?_); rintro e w' ⟨rfl, ⟨nd, rfl⟩⟩; refine ⟨_, rfl, ?_⟩; (try (rw [drewN_self w8]; generalize hq_ : World.drewN w8 _ = w8; have n0_ : Aside0 (w8.heap[gb262]? = some (.cells #[.int .i64 a0_0, .int .i64 a0_1, .int .i64 a0_2, .int .i64 a0_3] 24 (0, 0))) := ⟨by rw [← hq_]; exact (by exact bq BK262.out)⟩; have n1_ : Aside0 (w8.heap[gb263]? = some (.cells #[.int .i64 0, .int .i64 0, .int .i64 0, .int .i64 0] 24 (0, 0))) := ⟨by rw [← hq_]; exact (by exact bq BK263.out)⟩; have n2_ : Aside0 (Below w.heap.size w w8) := ⟨by rw [← hq_]; exact zB⟩; clear BK262 BK263 HB hq_; have BK262 := n0_; have BK263 := n1_; have HB := n2_; clear n0_ n1_ n2_)); obtain ⟨hcz11_0, hcz11_1, hcz11_2, hcz11_3, hfz11_0, hfz11_1, hfz11_2, hfz11_3⟩ := zc4 BK262) | ((with_reducible refine gate_dst (N := 4) rfl ?_); refine be 4 #[.int .i64 0, .int .i64 0, .int .i64 0, .int .i64 0] 24 ?_; intro gb265 hg w12 hbox hb; have BK265 := Aside0.mk hbox; have GW265 := zW hg; replace HB := zS hb; have GE265 := GW265; have NB262_265 := zl BK262 hg rfl; have NB265_262 := zg BK262 hg rfl; replace BK262 := zb BK262 hb rfl; have NB263_265 := zl BK263 hg rfl; have NB265_263 := zg BK263 hg rfl; replace BK263 := zb BK263 hb rfl; clear hb hbox hg; have hnb13 := NB265_262.out; have hnc13 := NB262_265.out; have hnb14 := NB265_263.out; have hnc14 := NB263_265.out; obtain ⟨hcz15_0, hcz15_1, hcz15_2, hcz15_3, hfz15_0, hfz15_1, hfz15_2, hfz15_3⟩ := zc4 BK265; obtain ⟨hcz16_0, hcz16_1, hcz16_2, hcz16_3, hfz16_0, hfz16_1, hfz16_2, hfz16_3⟩ := zc4 BK262))
  have n0_ : Aside0 ((((((w12.setCell ⟨gb265, 0, none⟩ (.int .i64 0)).setCell ⟨gb265, 1, none⟩ (.int .i64 0)).setCell ⟨gb265, 2, none⟩ (.int .i64 0)).setCell ⟨gb265, 3, none⟩ (.int .i64 (Go.bits .and .i64 a0_3 (wrap64 ((ji4) - 1))))).setCell ⟨gb265, 2, none⟩ (.int .i64 (Go.bits .andNot .i64 (Go.bits .or .i64 a0_2 (Go.bits .andNot .i64 a0_0 (wrap64 ((ji4) - 1)))) (Go.bits .and .i64 a0_3 (wrap64 ((ji4) - 1)))))).heap[gb262]? = some (.cells #[.int .i64 a0_0, .int .i64 a0_1, .int .i64 a0_2, .int .i64 a0_3] 24 (0, 0))) := ⟨by refine fq ?_ NB262_265.out; refine fq ?_ NB262_265.out; refine fq ?_ NB262_265.out; refine fq ?_ NB262_265.out; refine fq ?_ NB262_265.out; exact bq BK262.out⟩
  have n1_ : Aside0 ((((((w12.setCell ⟨gb265, 0, none⟩ (.int .i64 0)).setCell ⟨gb265, 1, none⟩ (.int .i64 0)).setCell ⟨gb265, 2, none⟩ (.int .i64 0)).setCell ⟨gb265, 3, none⟩ (.int .i64 (Go.bits .and .i64 a0_3 (wrap64 ((ji4) - 1))))).setCell ⟨gb265, 2, none⟩ (.int .i64 (Go.bits .andNot .i64 (Go.bits .or .i64 a0_2 (Go.bits .andNot .i64 a0_0 (wrap64 ((ji4) - 1)))) (Go.bits .and .i64 a0_3 (wrap64 ((ji4) - 1)))))).heap[gb263]? = some (.cells #[.int .i64 0, .int .i64 0, .int .i64 0, .int .i64 0] 24 (0, 0))) := ⟨by refine fq ?_ NB263_265.out; refine fq ?_ NB263_265.out; refine fq ?_ NB263_265.out; refine fq ?_ NB263_265.out; refine fq ?_ NB263_265.out; exact bq BK263.out⟩
  have n2_ : Aside0 ((((((w12.setCell ⟨gb265, 0, none⟩ (.int .i64 0)).setCell ⟨gb265, 1, none⟩ (.int .i64 0)).setCell ⟨gb265, 2, none⟩ (.int .i64 0)).setCell ⟨gb265, 3, none⟩ (.int .i64 (Go.bits .and .i64 a0_3 (wrap64 ((ji4) - 1))))).setCell ⟨gb265, 2, none⟩ (.int .i64 (Go.bits .andNot .i64 (Go.bits .or .i64 a0_2 (Go.bits .andNot .i64 a0_0 (wrap64 ((ji4) - 1)))) (Go.bits .and .i64 a0_3 (wrap64 ((ji4) - 1)))))).heap[gb265]? = some (.cells #[.int .i64 0, .int .i64 0, .int .i64 (Go.bits .andNot .i64 (Go.bits .or .i64 a0_2 (Go.bits .andNot .i64 a0_0 (wrap64 ((ji4) - 1)))) (Go.bits .and .i64 a0_3 (wrap64 ((ji4) - 1)))), .int .i64 (Go.bits .and .i64 a0_3 (wrap64 ((ji4) - 1)))] 24 (0, 0))) := ⟨by refine bq ?_; refine blk_put (cs := #[.int .i64 0, .int .i64 0, .int .i64 0, .int .i64 (Go.bits .and .i64 a0_3 (wrap64 ((ji4) - 1)))]) ?_ 2 _ rfl; refine bq ?_; refine blk_put (cs := #[.int .i64 0, .int .i64 0, .int .i64 0, .int .i64 0]) ?_ 3 _ rfl; refine bq ?_; refine blk_put (cs := #[.int .i64 0, .int .i64 0, .int .i64 0, .int .i64 0]) ?_ 2 _ rfl; refine bq ?_; refine blk_put (cs := #[.int .i64 0, .int .i64 0, .int .i64 0, .int .i64 0]) ?_ 1 _ rfl; refine bq ?_; refine blk_put (cs := #[.int .i64 0, .int .i64 0, .int .i64 0, .int .i64 0]) ?_ 0 _ rfl; exact bq BK265.out⟩
  have n3_ : Aside0 (Below w.heap.size w (((((w12.setCell ⟨gb265, 0, none⟩ (.int .i64 0)).setCell ⟨gb265, 1, none⟩ (.int .i64 0)).setCell ⟨gb265, 2, none⟩ (.int .i64 0)).setCell ⟨gb265, 3, none⟩ (.int .i64 (Go.bits .and .i64 a0_3 (wrap64 ((ji4) - 1))))).setCell ⟨gb265, 2, none⟩ (.int .i64 (Go.bits .andNot .i64 (Go.bits .or .i64 a0_2 (Go.bits .andNot .i64 a0_0 (wrap64 ((ji4) - 1)))) (Go.bits .and .i64 a0_3 (wrap64 ((ji4) - 1))))))) := ⟨zB⟩
  (try clear BK262)
  (try clear BK263)
  (try clear BK265)
  (try clear HB)
  generalize (((((w12.setCell ⟨gb265, 0, none⟩ (.int .i64 0)).setCell ⟨gb265, 1, none⟩ (.int .i64 0)).setCell ⟨gb265, 2, none⟩ (.int .i64 0)).setCell ⟨gb265, 3, none⟩ (.int .i64 (Go.bits .and .i64 a0_3 (wrap64 ((ji4) - 1))))).setCell ⟨gb265, 2, none⟩ (.int .i64 (Go.bits .andNot .i64 (Go.bits .or .i64 a0_2 (Go.bits .andNot .i64 a0_0 (wrap64 ((ji4) - 1)))) (Go.bits .and .i64 a0_3 (wrap64 ((ji4) - 1)))))) = w17 at n0_ n1_ n2_ n3_ ⊢
  have BK262 := n0_
  have BK263 := n1_
  have BK265 := n2_
  have HB := n3_
  clear n0_ n1_ n2_ n3_
  replace BK262 := Aside0.mk (blk_drew BK262.out)
  replace BK263 := Aside0.mk (blk_drew BK263.out)
  replace BK265 := Aside0.mk (blk_drew BK265.out)
  replace HB := Aside0.mk (below_drew1 HB.out)
  refine start_ (n := 17) (S := fun w' => w'.cell? ⟨gb262, 0, none⟩ = some (.int .i64 a0_0) ∧ w'.cell? ⟨gb262, 1, none⟩ = some (.int .i64 a0_1) ∧ w'.cell? ⟨gb262, 2, none⟩ = some (.int .i64 a0_2) ∧ w'.cell? ⟨gb262, 3, none⟩ = some (.int .i64 a0_3) ∧ w'.cell? ⟨gb265, 2, none⟩ = some (.int .i64 (Go.bits .andNot .i64 (Go.bits .or .i64 a0_2 (Go.bits .andNot .i64 a0_0 (wrap64 ((ji4) - 1)))) (Go.bits .and .i64 a0_3 (wrap64 ((ji4) - 1))))) ∧ w'.cell? ⟨gb265, 3, none⟩ = some (.int .i64 (Go.bits .and .i64 a0_3 (wrap64 ((ji4) - 1))))) (ds := []) #[false, false, false, false, false, false, false, false, false, false, false, false, false, false, false, false, false] (by kernel_rfl) rfl rfl ⟨(blk_cell BK262.out 0).trans rfl, (blk_cell BK262.out 1).trans rfl, (blk_cell BK262.out 2).trans rfl, (blk_cell BK262.out 3).trans rfl, (blk_cell BK265.out 2).trans rfl, (blk_cell BK265.out 3).trans rfl⟩ (fun hHeld => ?_); refine with_tabW impl_Range_tidy.tab4 impl_Range_tidy.bits4 (fun HT_ HW_ => ?_)
  generalize w17.drew = w18 at BK262 BK263 BK265 HB hHeld ⊢
  refine pz 0 30 ?_
  refine pz 2 32 ?_
  refine pz 5 35 ?_
  refine pz 7 37 ?_
  refine pz 9 39 ?_
  refine tz 1 31 ?_
  refine tz 3 33 ?_
  refine pz 4 34 ?_
  refine tz 6 36 ?_
  refine tz 8 38 ?_
  refine tz 10 40 ?_
  refine pz 11 41 ?_
  refine pz 12 42 ?_
  refine pz 13 43 ?_
  refine oN 14 fun K hK => ?_
  have hs19 : w18.cell? ⟨gb265, 0, none⟩ = some (.int .i64 0) := (blk_cell BK265.out 0).trans rfl
  have hfs19 := blk_frozen BK265.out 0
  have hns19_0 := NB262_265.out
  have hns19_1 := NB263_265.out
  have hms19_0 := NB265_262.out
  have hms19_1 := NB265_263.out
  refine skip_ (w1 := ?_) (by rfl) rfl ?_ ?_
  rotate_left
  ·go_simp
   rfl
  refine hK.out _ _ ⟨((cell_far (p := ⟨gb265, _, none⟩) NB262_265.out _).trans (hHeld.1)), ((cell_far (p := ⟨gb265, _, none⟩) NB262_265.out _).trans (hHeld.2.1)), ((cell_far (p := ⟨gb265, _, none⟩) NB262_265.out _).trans (hHeld.2.2.1)), ((cell_far (p := ⟨gb265, _, none⟩) NB262_265.out _).trans (hHeld.2.2.2.1)), ((World.cell?_setCell_other _ _ _ _ (by simp)).trans (hHeld.2.2.2.2.1)), ((World.cell?_setCell_other _ _ _ _ (by simp)).trans (hHeld.2.2.2.2.2))⟩ (fun hHeld => ?_)
  clear hK K
  refine pz 15 44 ?_
  refine oN 16 fun K hK => ?_
  have hs20 : w18.cell? ⟨gb265, 1, none⟩ = some (.int .i64 0) := (blk_cell BK265.out 1).trans rfl
  have hfs20 := blk_frozen BK265.out 1
  have hns20_0 := NB262_265.out
  have hns20_1 := NB263_265.out
  have hms20_0 := NB265_262.out
  have hms20_1 := NB265_263.out
  refine skip_ (w1 := ?_) (by rfl) rfl ?_ ?_
  rotate_left
  ·go_simp
   rfl
  refine hK.out _ _ ⟨((cell_far (p := ⟨gb265, _, none⟩) NB262_265.out _).trans (hHeld.1)), ((cell_far (p := ⟨gb265, _, none⟩) NB262_265.out _).trans (hHeld.2.1)), ((cell_far (p := ⟨gb265, _, none⟩) NB262_265.out _).trans (hHeld.2.2.1)), ((cell_far (p := ⟨gb265, _, none⟩) NB262_265.out _).trans (hHeld.2.2.2.1)), ((World.cell?_setCell_other _ _ _ _ (by simp)).trans (hHeld.2.2.2.2.1)), ((World.cell?_setCell_other _ _ _ _ (by simp)).trans (hHeld.2.2.2.2.2))⟩ (fun hHeld => ?_)
  clear hK K
  refine done_ (done_of HT_.out (by kernel_rfl)) ?_
  have hcz21_0 : w18.cell? ⟨gb265, 0, none⟩ = some (.int .i64 0) := (blk_cell BK265.out 0).trans rfl
  have hcz21_1 : w18.cell? ⟨gb265, 1, none⟩ = some (.int .i64 0) := (blk_cell BK265.out 1).trans rfl
  have hcz21_2 : w18.cell? ⟨gb265, 2, none⟩ = some (.int .i64 (Go.bits .andNot .i64 (Go.bits .or .i64 a0_2 (Go.bits .andNot .i64 a0_0 (wrap64 ((ji4) - 1)))) (Go.bits .and .i64 a0_3 (wrap64 ((ji4) - 1))))) := (blk_cell BK265.out 2).trans rfl
  have hcz21_3 : w18.cell? ⟨gb265, 3, none⟩ = some (.int .i64 (Go.bits .and .i64 a0_3 (wrap64 ((ji4) - 1)))) := (blk_cell BK265.out 3).trans rfl
  have hfz21_0 := blk_frozen BK265.out 0
  have hfz21_1 := blk_frozen BK265.out 1
  have hfz21_2 := blk_frozen BK265.out 2
  have hfz21_3 := blk_frozen BK265.out 3
  obtain ⟨hcz22_0, hcz22_1, hcz22_2, hcz22_3, hfz22_0, hfz22_1, hfz22_2, hfz22_3⟩ := zc4 BK263
  try go_wp2
  refine bodyPost_ret (results_cell_row rfl _ _ gb263 24 #[.int .i64 ji5, .int .i64 ji6, .int .i64 (Go.bits .andNot .i64 (Go.bits .or .i64 a0_2 (Go.bits .andNot .i64 a0_0 (wrap64 ((ji4) - 1)))) (Go.bits .and .i64 a0_3 (wrap64 ((ji4) - 1)))), .int .i64 (Go.bits .and .i64 a0_3 (wrap64 ((ji4) - 1)))] (0, 0) _ rfl (by refine bq ?_; refine blk_put (cs := #[.int .i64 ji5, .int .i64 ji6, .int .i64 (Go.bits .andNot .i64 (Go.bits .or .i64 a0_2 (Go.bits .andNot .i64 a0_0 (wrap64 ((ji4) - 1)))) (Go.bits .and .i64 a0_3 (wrap64 ((ji4) - 1)))), .int .i64 0]) ?_ 3 _ rfl; refine bq ?_; refine blk_put (cs := #[.int .i64 ji5, .int .i64 ji6, .int .i64 0, .int .i64 0]) ?_ 2 _ rfl; refine bq ?_; refine blk_put (cs := #[.int .i64 ji5, .int .i64 0, .int .i64 0, .int .i64 0]) ?_ 1 _ rfl; refine bq ?_; refine blk_put (cs := #[.int .i64 0, .int .i64 0, .int .i64 0, .int .i64 0]) ?_ 0 _ rfl; refine fq ?_ NB263_265.out; refine fq ?_ NB263_265.out; exact bq BK263.out) Try.underlying24 rfl (by kernel_rfl)) rfl ?_
  exact ⟨by first | rfl | (simp [errW_none, errW_some] <;> rfl) | (simp only [← hji4, ← hji5, ← hji6]; first | rfl | (simp [errW_none, errW_some] <;> rfl)) | (simp [*, errW_none, errW_some] <;> rfl), zB⟩
 ·rw [if_neg c3] at H
  exact absurd H (by simp)

end Go.Proofs.Ytdhijcfohbkpoaa.Q
