/- The machine's side of this seat's laws: Go functions as Lean functions, and their contracts. By a program of this work over the kit's print. -/
import Derived.Test.YtdhijcfohbkpoaaQ0
import Derived.Test.YtdhijcfohbkpoaaQ6
import Derived.Test.YtdhijcfohbkpoaaQ20
namespace Go.Proofs.Ytdhijcfohbkpoaa.Q
open Go.RowKit Go.Proofs.YtdhijcfohbkpoaaW.PrintWords Go.Proofs.YtdhijcfohbkpoaaW.PrintLast Go.Proofs.YtdhijcfohbkpoaaW.PrintMore
attribute [local go_sem] max2_int min2_int max_two min_two max_three min_three max_four min_four Go.Proofs.YtdhijcfohbkpoaaN.not_i64 Go.Proofs.YtdhijcfohbkpoaaN.isSome_setCell   -- for this text's walks alone
set_option linter.unusedVariables false
set_option linter.unusedSimpArgs false

/-! ### laws_sgSome: function 9 -/
def laws_sgSome.l0 : Nat → Int → Int → Int → Int → Int → Int → Int → Int → Int → Int → Option (Int)
 | 0, _, _, _, _, _, _, _, _, _, _ => none
 | k + 1, x1, x6, x544000, x544001, x544002, x544003, x545000, x545001, x545002, x545003 => if x6 > 0 then ((impl_RangeLeast.f k x545000 x545001 x545002 x545003).bind fun t546 => ((impl_RangeLeast.f k (wrap64 ((wrap64 (t546 + 1)) + (wrap64 (x1 * 31)))) x545001 x545002 x545003).bind fun t547 => (if t547 < 0 then ((impl_RangeLeast.f k x544000 x544001 x544002 x544003).bind fun t548 => (some t548)) else (laws_sgSome.l0 k x1 (wrap64 (x6 - 1)) x544000 x544001 x544002 x544003 (wrap64 ((wrap64 (t546 + 1)) + (wrap64 (x1 * 31)))) x545001 x545002 x545003)))) else ((impl_RangeLeast.f k x545000 x545001 x545002 x545003).bind fun t549 => (some t549))
def laws_sgSome.f (k : Nat) (a0_0 : Int) (a0_1 : Int) (a0_2 : Int) (a0_3 : Int) (a1 : Int) : Option (Int) := (impl_RangeLeast.f k a0_0 a0_1 a0_2 a0_3).bind fun t545 => (if t545 < 0 then (some (-1)) else (laws_sgSome.l0 k a1 (Int.tmod a1 5) a0_0 a0_1 a0_2 a0_3 a0_0 a0_1 a0_2 a0_3))


set_option maxHeartbeats 8000000 in
set_option maxRecDepth 100000 in
theorem laws_sgSome.calls (k : Nat) (a0_0 : Int) (a0_1 : Int) (a0_2 : Int) (a0_3 : Int) (a1 : Int) (r : Int) (w : World) (h : laws_sgSome.f k a0_0 a0_1 a0_2 a0_3 a1 = some r) :
  Calls Try.prog 9 #[.agg #[.int .i64 a0_0, .int .i64 a0_1, .int .i64 a0_2, .int .i64 a0_3], .int .i64 a1] w fun e w' => e = .returned (.int .i64 r) ∧ Below w.heap.size w w' := by
 have hu24 := Try.underlying24
 have HB := Aside0.mk (Below.refl w.heap.size w)
 have H : ((impl_RangeLeast.f k a0_0 a0_1 a0_2 a0_3).bind fun t545 => (if t545 < 0 then (some (-1)) else (laws_sgSome.l0 k a1 (Int.tmod a1 5) a0_0 a0_1 a0_2 a0_3 a0_0 a0_1 a0_2 a0_3))) = some r := h
 clear h
 replace H := Option.bind_eq_some_iff.mp H
 obtain ⟨t545, A30, H⟩ := H
 try dsimp only at H
 have A3 := Aside0.mk A30
 clear A30
 by_cases c4 : t545 < 0
 ·rw [if_pos c4] at H
  have c4b0 : decide (t545 < 0) = true := decide_eq_true c4
  clear c4
  obtain rfl := Option.some.inj H
  go_enter Try.func9, Try.ntmps9
  go_wp2_with (first | ((with_reducible refine gate_dst (N := 2) rfl ?_); refine be 2 #[.int .i64 a0_0, .int .i64 a0_1, .int .i64 a0_2, .int .i64 a0_3] 24 ?_; intro gb543 hg w5 hbox hb; have BK543 := Aside0.mk hbox; have GW543 := zW hg; replace HB := zS hb; have GE543 := GW543; clear hb hbox hg; obtain ⟨hcz6_0, hcz6_1, hcz6_2, hcz6_3, hfz6_0, hfz6_1, hfz6_2, hfz6_3⟩ := zc4 BK543) | ((with_reducible refine gate_dst (N := 5) rfl ?_); refine be 5 #[.int .i64 0, .int .i64 0, .int .i64 0, .int .i64 0] 24 ?_; intro gb544 hg w7 hbox hb; have BK544 := Aside0.mk hbox; have GW544 := zW hg; replace HB := zS hb; have GE544 := GW544; have NB543_544 := zl BK543 hg rfl; have NB544_543 := zg BK543 hg rfl; replace BK543 := zb BK543 hb rfl; clear hb hbox hg; have hnb8 := NB544_543.out; have hnc8 := NB543_544.out; obtain ⟨hcz9_0, hcz9_1, hcz9_2, hcz9_3, hfz9_0, hfz9_1, hfz9_2, hfz9_3⟩ := zc4 BK544; obtain ⟨hcz10_0, hcz10_1, hcz10_2, hcz10_3, hfz10_0, hfz10_1, hfz10_2, hfz10_3⟩ := zc4 BK543) | ((with_reducible refine gate_callee (f := 12) rfl ?_); refine gl 9 Try.func12 #[.agg #[.int .i64 a0_0, .int .i64 a0_1, .int .i64 a0_2, .int .i64 a0_3]] ?_; (with_reducible refine (impl_RangeLeast.calls k a0_0 a0_1 a0_2 a0_3 t545 _ A3.out).mono ?_); rintro e w11 ⟨rfl, hb⟩; refine ⟨_, rfl, ?_⟩; replace BK543 := Aside0.mk (blk_below (g := gb543) (o := .cells #[.int .i64 a0_0, .int .i64 a0_1, .int .i64 a0_2, .int .i64 a0_3] 24 (0, 0)) (by refine fq ?_ NB543_544.out; refine fq ?_ NB543_544.out; refine fq ?_ NB543_544.out; refine fq ?_ NB543_544.out; exact bq BK543.out) hb); replace BK544 := Aside0.mk (blk_below (g := gb544) (o := .cells #[.int .i64 a0_0, .int .i64 a0_1, .int .i64 a0_2, .int .i64 a0_3] 24 (0, 0)) (by refine bq ?_; refine blk_put (cs := #[.int .i64 a0_0, .int .i64 a0_1, .int .i64 a0_2, .int .i64 0]) ?_ 3 _ rfl; refine bq ?_; refine blk_put (cs := #[.int .i64 a0_0, .int .i64 a0_1, .int .i64 0, .int .i64 0]) ?_ 2 _ rfl; refine bq ?_; refine blk_put (cs := #[.int .i64 a0_0, .int .i64 0, .int .i64 0, .int .i64 0]) ?_ 1 _ rfl; refine bq ?_; refine blk_put (cs := #[.int .i64 0, .int .i64 0, .int .i64 0, .int .i64 0]) ?_ 0 _ rfl; exact bq BK544.out) hb); replace HB := zS hb; try clear hb))
  go_ret
  exact ⟨zR, zB⟩
 ·rw [if_neg c4] at H
  have c4b0 : decide (t545 < 0) = false := decide_eq_false c4
  clear c4
  have H' := Aside0.mk H
  clear H
  go_enter Try.func9, Try.ntmps9
  go_wp2_with (first | ((with_reducible refine gate_dst (N := 2) rfl ?_); refine be 2 #[.int .i64 a0_0, .int .i64 a0_1, .int .i64 a0_2, .int .i64 a0_3] 24 ?_; intro gb543 hg w12 hbox hb; have BK543 := Aside0.mk hbox; have GW543 := zW hg; replace HB := zS hb; have GE543 := GW543; clear hb hbox hg; obtain ⟨hcz13_0, hcz13_1, hcz13_2, hcz13_3, hfz13_0, hfz13_1, hfz13_2, hfz13_3⟩ := zc4 BK543) | ((with_reducible refine gate_dst (N := 5) rfl ?_); refine be 5 #[.int .i64 0, .int .i64 0, .int .i64 0, .int .i64 0] 24 ?_; intro gb544 hg w14 hbox hb; have BK544 := Aside0.mk hbox; have GW544 := zW hg; replace HB := zS hb; have GE544 := GW544; have NB543_544 := zl BK543 hg rfl; have NB544_543 := zg BK543 hg rfl; replace BK543 := zb BK543 hb rfl; clear hb hbox hg; have hnb15 := NB544_543.out; have hnc15 := NB543_544.out; obtain ⟨hcz16_0, hcz16_1, hcz16_2, hcz16_3, hfz16_0, hfz16_1, hfz16_2, hfz16_3⟩ := zc4 BK544; obtain ⟨hcz17_0, hcz17_1, hcz17_2, hcz17_3, hfz17_0, hfz17_1, hfz17_2, hfz17_3⟩ := zc4 BK543) | ((with_reducible refine gate_callee (f := 12) rfl ?_); refine gl 9 Try.func12 #[.agg #[.int .i64 a0_0, .int .i64 a0_1, .int .i64 a0_2, .int .i64 a0_3]] ?_; (with_reducible refine (impl_RangeLeast.calls k a0_0 a0_1 a0_2 a0_3 t545 _ A3.out).mono ?_); rintro e w18 ⟨rfl, hb⟩; refine ⟨_, rfl, ?_⟩; replace BK543 := Aside0.mk (blk_below (g := gb543) (o := .cells #[.int .i64 a0_0, .int .i64 a0_1, .int .i64 a0_2, .int .i64 a0_3] 24 (0, 0)) (by refine fq ?_ NB543_544.out; refine fq ?_ NB543_544.out; refine fq ?_ NB543_544.out; refine fq ?_ NB543_544.out; exact bq BK543.out) hb); replace BK544 := Aside0.mk (blk_below (g := gb544) (o := .cells #[.int .i64 a0_0, .int .i64 a0_1, .int .i64 a0_2, .int .i64 a0_3] 24 (0, 0)) (by refine bq ?_; refine blk_put (cs := #[.int .i64 a0_0, .int .i64 a0_1, .int .i64 a0_2, .int .i64 0]) ?_ 3 _ rfl; refine bq ?_; refine blk_put (cs := #[.int .i64 a0_0, .int .i64 a0_1, .int .i64 0, .int .i64 0]) ?_ 2 _ rfl; refine bq ?_; refine blk_put (cs := #[.int .i64 a0_0, .int .i64 0, .int .i64 0, .int .i64 0]) ?_ 1 _ rfl; refine bq ?_; refine blk_put (cs := #[.int .i64 0, .int .i64 0, .int .i64 0, .int .i64 0]) ?_ 0 _ rfl; exact bq BK544.out) hb); replace HB := zS hb; try clear hb))
  go_loopg [6] k (fun kq v6 w' => ∃ (x6_1 : Int) (x545000_1 : Int), v6 = .int .i64 x6_1 ∧ Aside0 (laws_sgSome.l0 kq a1 x6_1 a0_0 a0_1 a0_2 a0_3 x545000_1 a0_1 a0_2 a0_3 = some r) ∧ Aside0 (kq ≤ k) ∧ Aside0 (w'.heap[gb543]? = some (.cells #[.int .i64 a0_0, .int .i64 a0_1, .int .i64 a0_2, .int .i64 a0_3] 24 (0, 0))) ∧ Aside0 (w'.heap[gb544]? = some (.cells #[.int .i64 x545000_1, .int .i64 a0_1, .int .i64 a0_2, .int .i64 a0_3] 24 (0, 0))) ∧ Aside0 (Below w.heap.size w w'))
  case atStart => exact ⟨(Int.tmod a1 5), (a0_0), (by first | rfl | (simp; done) | (simp [*]; done)), H', ⟨Nat.le_refl _⟩, ⟨by exact bq BK543.out⟩, ⟨by exact bq BK544.out⟩, ⟨zB⟩⟩
  case round =>
   clear H'
   try clear c1
   try clear p2
   try clear c4
   try clear c4b0
   try clear c8
   try clear c9
   try clear c12
   try clear c15
   try clear hcz10_0 hcz10_1 hcz10_2 hcz10_3 hfz10_0 hfz10_1 hfz10_2 hfz10_3
   try clear hcz13_0 hcz13_1 hcz13_2 hcz13_3 hfz13_0 hfz13_1 hfz13_2 hfz13_3
   try clear hcz16_0 hcz16_1 hcz16_2 hcz16_3 hfz16_0 hfz16_1 hfz16_2 hfz16_3
   try clear hcz17_0 hcz17_1 hcz17_2 hcz17_3 hfz17_0 hfz17_1 hfz17_2 hfz17_3
   try clear hcz6_0 hcz6_1 hcz6_2 hcz6_3 hfz6_0 hfz6_1 hfz6_2 hfz6_3
   try clear hcz9_0 hcz9_1 hcz9_2 hcz9_3 hfz9_0 hfz9_1 hfz9_2 hfz9_3
   obtain ⟨x6_1, x545000_1, rfl, HA, HK1, BK543, BK544, HB⟩ := hrel
   cases gk with
   | zero => exact absurd HA.out (by simp [laws_sgSome.l0])
   | succ k1 =>
    have H := HA.out
    clear HA
    simp only [laws_sgSome.l0] at H
    by_cases c19 : x6_1 > 0
    ·rw [if_pos c19] at H
     have c19b0 : decide (0 < x6_1) = true := decide_eq_true c19
     clear c19
     replace H := Option.bind_eq_some_iff.mp H
     obtain ⟨t546, A200, H⟩ := H
     try dsimp only at H
     have A20 := Aside0.mk A200
     clear A200
     replace H := Option.bind_eq_some_iff.mp H
     obtain ⟨t547, A210, H⟩ := H
     try dsimp only at H
     have A21 := Aside0.mk A210
     clear A210
     by_cases c22 : t547 < 0
     ·rw [if_pos c22] at H
      have c22b0 : decide (t547 < 0) = true := decide_eq_true c22
      clear c22
      replace H := Option.bind_eq_some_iff.mp H
      obtain ⟨t548, A230, H⟩ := H
      try dsimp only at H
      have A23 := Aside0.mk A230
      clear A230
      obtain rfl := Option.some.inj H
      have hnb24 := NB544_543.out
      have hnc24 := NB543_544.out
      obtain ⟨hcz25_0, hcz25_1, hcz25_2, hcz25_3, hfz25_0, hfz25_1, hfz25_2, hfz25_3⟩ := zc4 BK544
      go_wp2_with (first | ((with_reducible refine gate_callee (f := 12) rfl ?_); refine gl 18 Try.func12 #[.agg #[.int .i64 x545000_1, .int .i64 a0_1, .int .i64 a0_2, .int .i64 a0_3]] ?_; (with_reducible refine (impl_RangeLeast.calls k1 x545000_1 a0_1 a0_2 a0_3 t546 _ A20.out).mono ?_); rintro e w26 ⟨rfl, hb⟩; refine ⟨_, rfl, ?_⟩; replace BK543 := zb BK543 hb rfl; replace BK544 := zb BK544 hb rfl; replace HB := zS hb; try clear hb; obtain ⟨hcz27_0, hcz27_1, hcz27_2, hcz27_3, hfz27_0, hfz27_1, hfz27_2, hfz27_3⟩ := zc4 BK544) | ((with_reducible refine gate_callee (f := 12) rfl ?_); refine gl 25 Try.func12 #[.agg #[.int .i64 (wrap64 ((wrap64 (t546 + 1)) + (wrap64 (a1 * 31)))), .int .i64 a0_1, .int .i64 a0_2, .int .i64 a0_3]] ?_; (with_reducible refine (impl_RangeLeast.calls k1 (wrap64 ((wrap64 (t546 + 1)) + (wrap64 (a1 * 31)))) a0_1 a0_2 a0_3 t547 _ A21.out).mono ?_); rintro e w28 ⟨rfl, hb⟩; refine ⟨_, rfl, ?_⟩; replace BK543 := Aside0.mk (blk_below (g := gb543) (o := .cells #[.int .i64 a0_0, .int .i64 a0_1, .int .i64 a0_2, .int .i64 a0_3] 24 (0, 0)) (by refine fq ?_ NB543_544.out; exact bq BK543.out) hb); replace BK544 := Aside0.mk (blk_below (g := gb544) (o := .cells #[.int .i64 (wrap64 ((wrap64 (t546 + 1)) + (wrap64 (a1 * 31)))), .int .i64 a0_1, .int .i64 a0_2, .int .i64 a0_3] 24 (0, 0)) (by refine bq ?_; refine blk_put (cs := #[.int .i64 x545000_1, .int .i64 a0_1, .int .i64 a0_2, .int .i64 a0_3]) ?_ 0 _ rfl; exact bq BK544.out) hb); replace HB := zS hb; try clear hb; obtain ⟨hcz29_0, hcz29_1, hcz29_2, hcz29_3, hfz29_0, hfz29_1, hfz29_2, hfz29_3⟩ := zc4 BK543) | ((with_reducible refine gate_callee (f := 12) rfl ?_); refine gl 28 Try.func12 #[.agg #[.int .i64 a0_0, .int .i64 a0_1, .int .i64 a0_2, .int .i64 a0_3]] ?_; (with_reducible refine (impl_RangeLeast.calls k1 a0_0 a0_1 a0_2 a0_3 t548 _ A23.out).mono ?_); rintro e w30 ⟨rfl, hb⟩; refine ⟨_, rfl, ?_⟩; replace BK543 := zb BK543 hb rfl; replace BK544 := zb BK544 hb rfl; replace HB := zS hb; try clear hb))
      go_ret
      exact ⟨zR, zB⟩
     ·rw [if_neg c22] at H
      have c22b0 : decide (t547 < 0) = false := decide_eq_false c22
      clear c22
      have H' := Aside0.mk H
      clear H
      have hnb31 := NB544_543.out
      have hnc31 := NB543_544.out
      obtain ⟨hcz32_0, hcz32_1, hcz32_2, hcz32_3, hfz32_0, hfz32_1, hfz32_2, hfz32_3⟩ := zc4 BK544
      go_wp2_with (first | ((with_reducible refine gate_callee (f := 12) rfl ?_); refine gl 18 Try.func12 #[.agg #[.int .i64 x545000_1, .int .i64 a0_1, .int .i64 a0_2, .int .i64 a0_3]] ?_; (with_reducible refine (impl_RangeLeast.calls k1 x545000_1 a0_1 a0_2 a0_3 t546 _ A20.out).mono ?_); rintro e w33 ⟨rfl, hb⟩; refine ⟨_, rfl, ?_⟩; replace BK543 := zb BK543 hb rfl; replace BK544 := zb BK544 hb rfl; replace HB := zS hb; try clear hb; obtain ⟨hcz34_0, hcz34_1, hcz34_2, hcz34_3, hfz34_0, hfz34_1, hfz34_2, hfz34_3⟩ := zc4 BK544) | ((with_reducible refine gate_callee (f := 12) rfl ?_); refine gl 25 Try.func12 #[.agg #[.int .i64 (wrap64 ((wrap64 (t546 + 1)) + (wrap64 (a1 * 31)))), .int .i64 a0_1, .int .i64 a0_2, .int .i64 a0_3]] ?_; (with_reducible refine (impl_RangeLeast.calls k1 (wrap64 ((wrap64 (t546 + 1)) + (wrap64 (a1 * 31)))) a0_1 a0_2 a0_3 t547 _ A21.out).mono ?_); rintro e w35 ⟨rfl, hb⟩; refine ⟨_, rfl, ?_⟩; replace BK543 := Aside0.mk (blk_below (g := gb543) (o := .cells #[.int .i64 a0_0, .int .i64 a0_1, .int .i64 a0_2, .int .i64 a0_3] 24 (0, 0)) (by refine fq ?_ NB543_544.out; exact bq BK543.out) hb); replace BK544 := Aside0.mk (blk_below (g := gb544) (o := .cells #[.int .i64 (wrap64 ((wrap64 (t546 + 1)) + (wrap64 (a1 * 31)))), .int .i64 a0_1, .int .i64 a0_2, .int .i64 a0_3] 24 (0, 0)) (by refine bq ?_; refine blk_put (cs := #[.int .i64 x545000_1, .int .i64 a0_1, .int .i64 a0_2, .int .i64 a0_3]) ?_ 0 _ rfl; exact bq BK544.out) hb); replace HB := zS hb; try clear hb))
      go_roundg k1
      case measure => have := HK1.out; omega
      case rel => exact ⟨(wrap64 (x6_1 - 1)), (wrap64 ((wrap64 (t546 + 1)) + (wrap64 (a1 * 31)))), (by first | rfl | (simp; done) | (simp [*]; done)), H', ⟨by have := HK1.out; omega⟩, ⟨by exact bq BK543.out⟩, ⟨by exact bq BK544.out⟩, ⟨zB⟩⟩
    ·rw [if_neg c19] at H
     have c19b0 : decide (0 < x6_1) = false := decide_eq_false c19
     clear c19
     replace H := Option.bind_eq_some_iff.mp H
     obtain ⟨t549, A360, H⟩ := H
     try dsimp only at H
     have A36 := Aside0.mk A360
     clear A360
     obtain rfl := Option.some.inj H
     have hnb37 := NB544_543.out
     have hnc37 := NB543_544.out
     obtain ⟨hcz38_0, hcz38_1, hcz38_2, hcz38_3, hfz38_0, hfz38_1, hfz38_2, hfz38_3⟩ := zc4 BK544
     go_wp2_with (first | ((with_reducible refine gate_callee (f := 12) rfl ?_); refine gl 30 Try.func12 #[.agg #[.int .i64 x545000_1, .int .i64 a0_1, .int .i64 a0_2, .int .i64 a0_3]] ?_; (with_reducible refine (impl_RangeLeast.calls k1 x545000_1 a0_1 a0_2 a0_3 t549 _ A36.out).mono ?_); rintro e w39 ⟨rfl, hb⟩; refine ⟨_, rfl, ?_⟩; replace BK543 := zb BK543 hb rfl; replace BK544 := zb BK544 hb rfl; replace HB := zS hb; try clear hb))
     go_ret
     exact ⟨zR, zB⟩

/-! ### impl_RangeHas: function 10 -/
def impl_RangeHas.f (a0_0 : Int) (a0_1 : Int) (a0_2 : Int) (a0_3 : Int) (a1 : Int) : Option (Bool) := (impl_RangeOk.f a0_0 a0_1 a0_2 a0_3).bind fun t551 => (if t551 = true then ((impl_Range_has.f a0_0 a0_1 a0_2 a0_3 a1).bind fun t552 => (some t552)) else (some false))
set_option maxHeartbeats 8000000 in
set_option maxRecDepth 100000 in
theorem impl_RangeHas.calls (a0_0 : Int) (a0_1 : Int) (a0_2 : Int) (a0_3 : Int) (a1 : Int) (r : Bool) (w : World) (h : impl_RangeHas.f a0_0 a0_1 a0_2 a0_3 a1 = some r) :
  Calls Try.prog 10 #[.agg #[.int .i64 a0_0, .int .i64 a0_1, .int .i64 a0_2, .int .i64 a0_3], .int .i64 a1] w fun e w' => e = .returned (.bool r) ∧ Below w.heap.size w w' := by
 have hu24 := Try.underlying24
 have HB := Aside0.mk (Below.refl w.heap.size w)
 have H : ((impl_RangeOk.f a0_0 a0_1 a0_2 a0_3).bind fun t551 => (if t551 = true then ((impl_Range_has.f a0_0 a0_1 a0_2 a0_3 a1).bind fun t552 => (some t552)) else (some false))) = some r := h
 clear h
 replace H := Option.bind_eq_some_iff.mp H
 obtain ⟨t551, A30, H⟩ := H
 try dsimp only at H
 have A3 := Aside0.mk A30
 clear A30
 by_cases c4 : t551 = true
 ·subst c4
  rw [if_pos rfl] at H
  replace H := Option.bind_eq_some_iff.mp H
  obtain ⟨t552, A50, H⟩ := H
  try dsimp only at H
  have A5 := Aside0.mk A50
  clear A50
  obtain rfl := Option.some.inj H
  go_enter Try.func10, Try.ntmps10
  go_wp2_with (first | ((with_reducible refine gate_dst (N := 2) rfl ?_); refine be 2 #[.int .i64 a0_0, .int .i64 a0_1, .int .i64 a0_2, .int .i64 a0_3] 24 ?_; intro gb550 hg w6 hbox hb; have BK550 := Aside0.mk hbox; have GW550 := zW hg; replace HB := zS hb; have GE550 := GW550; clear hb hbox hg; obtain ⟨hcz7_0, hcz7_1, hcz7_2, hcz7_3, hfz7_0, hfz7_1, hfz7_2, hfz7_3⟩ := zc4 BK550) | ((with_reducible refine gate_callee (f := 8) rfl ?_); refine gl 6 Try.func8 #[.agg #[.int .i64 a0_0, .int .i64 a0_1, .int .i64 a0_2, .int .i64 a0_3]] ?_; (with_reducible refine (impl_RangeOk.calls a0_0 a0_1 a0_2 a0_3 true _ A3.out).mono ?_); rintro e w8 ⟨rfl, hb⟩; refine ⟨_, rfl, ?_⟩; replace BK550 := zb BK550 hb rfl; replace HB := zS hb; try clear hb; obtain ⟨hcz9_0, hcz9_1, hcz9_2, hcz9_3, hfz9_0, hfz9_1, hfz9_2, hfz9_3⟩ := zc4 BK550) | (go_at_call 30; (with_reducible refine (impl_Range_has.calls a0_0 a0_1 a0_2 a0_3 a1 t552 _ A5.out).mono ?_); rintro e w10 ⟨rfl, hb⟩; replace BK550 := zb BK550 hb rfl; replace HB := zS hb; try clear hb))
  go_ret
  exact ⟨zR, zB⟩
 ·replace c4 := Bool.eq_false_iff.mpr c4
  subst c4
  rw [if_neg (show ¬ (false = true) by decide)] at H
  obtain rfl := Option.some.inj H
  go_enter Try.func10, Try.ntmps10
  go_wp2_with (first | ((with_reducible refine gate_dst (N := 2) rfl ?_); refine be 2 #[.int .i64 a0_0, .int .i64 a0_1, .int .i64 a0_2, .int .i64 a0_3] 24 ?_; intro gb550 hg w11 hbox hb; have BK550 := Aside0.mk hbox; have GW550 := zW hg; replace HB := zS hb; have GE550 := GW550; clear hb hbox hg; obtain ⟨hcz12_0, hcz12_1, hcz12_2, hcz12_3, hfz12_0, hfz12_1, hfz12_2, hfz12_3⟩ := zc4 BK550) | ((with_reducible refine gate_callee (f := 8) rfl ?_); refine gl 6 Try.func8 #[.agg #[.int .i64 a0_0, .int .i64 a0_1, .int .i64 a0_2, .int .i64 a0_3]] ?_; (with_reducible refine (impl_RangeOk.calls a0_0 a0_1 a0_2 a0_3 false _ A3.out).mono ?_); rintro e w13 ⟨rfl, hb⟩; refine ⟨_, rfl, ?_⟩; replace BK550 := zb BK550 hb rfl; replace HB := zS hb; try clear hb))
  go_ret
  exact ⟨zR, zB⟩

end Go.Proofs.Ytdhijcfohbkpoaa.Q
