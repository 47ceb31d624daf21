/- The machine's side of this seat's laws: Go functions as Lean functions, and their contracts. By a program of this work over the kit's print. -/
import Derived.Test.YtdhijcfohbkpoaaQ0
import Derived.Test.YtdhijcfohbkpoaaQ2
import Derived.Test.YtdhijcfohbkpoaaQ6
import Derived.Test.YtdhijcfohbkpoaaQ7
import Derived.Test.YtdhijcfohbkpoaaQ12
import Derived.Test.YtdhijcfohbkpoaaQ13
import Derived.Test.YtdhijcfohbkpoaaQ14
import Derived.Test.YtdhijcfohbkpoaaQ19
namespace Go.Proofs.Ytdhijcfohbkpoaa.Q
open Go.RowKit Go.Proofs.YtdhijcfohbkpoaaW.PrintWords Go.Proofs.YtdhijcfohbkpoaaW.PrintLast Go.Proofs.YtdhijcfohbkpoaaW.PrintMore
attribute [local go_sem] max2_int min2_int max_two min_two max_three min_three max_four min_four Go.Proofs.YtdhijcfohbkpoaaN.not_i64 Go.Proofs.YtdhijcfohbkpoaaN.isSome_setCell   -- for this text's walks alone
set_option linter.unusedVariables false
set_option linter.unusedSimpArgs false

/-! ### spec_RangeOf: function 7 -/
def spec_RangeOf.j0 : Nat → Int → Bool → Int → Int → Int → Int → Int → Int → Int → Int → Option (Int × Int × Int × Int)
 | 0, _, _, _, _, _, _, _, _, _, _ => none
 | k + 1, x0, x29, x521000, x521001, x521002, x521003, x522000, x522001, x522002, x522003 => if x29 = true then (some (1, 0, 0, 0)) else ((spec_l2Tidy.f k x521000 x521001 x521002 x521003).bind fun bt528 => ((spec_l2Tidy.f k x522000 x522001 x522002 x522003).bind fun bt532 => ((spec_l2Of.f k x0 bt528.1 bt528.2.1 bt528.2.2.1 bt528.2.2.2 bt532.1 bt532.2.1 bt532.2.2.1 bt532.2.2.2).bind fun bt536 => (some (bt536.1, bt536.2.1, bt536.2.2.1, bt536.2.2.2)))))
def spec_RangeOf.f (k : Nat) (a0 : Int) (a1_0 : Int) (a1_1 : Int) (a1_2 : Int) (a1_3 : Int) (a2_0 : Int) (a2_1 : Int) (a2_2 : Int) (a2_3 : Int) : Option (Int × Int × Int × Int) := (spec_l1Alu.f a0).bind fun t523 => (if t523 = true then ((spec_l2Ok.f a1_0 a1_1 a1_2 a1_3).bind fun t524 => (if t524 = true then ((spec_l2Ok.f a2_0 a2_1 a2_2 a2_3).bind fun t525 => (if t525 = true then ((spec_l2Some.f k a1_0 a1_1 a1_2 a1_3).bind fun t526 => (if t526 = true then ((spec_l2Some.f k a2_0 a2_1 a2_2 a2_3).bind fun t527 => (spec_RangeOf.j0 k a0 (!t527) a1_0 a1_1 a1_2 a1_3 a2_0 a2_1 a2_2 a2_3)) else (spec_RangeOf.j0 k a0 true a1_0 a1_1 a1_2 a1_3 a2_0 a2_1 a2_2 a2_3))) else (spec_RangeOf.j0 k a0 true a1_0 a1_1 a1_2 a1_3 a2_0 a2_1 a2_2 a2_3))) else (spec_RangeOf.j0 k a0 true a1_0 a1_1 a1_2 a1_3 a2_0 a2_1 a2_2 a2_3))) else (spec_RangeOf.j0 k a0 true a1_0 a1_1 a1_2 a1_3 a2_0 a2_1 a2_2 a2_3))


set_option maxHeartbeats 8000000 in
set_option maxRecDepth 100000 in
theorem spec_RangeOf.calls (k : Nat) (a0 : Int) (a1_0 : Int) (a1_1 : Int) (a1_2 : Int) (a1_3 : Int) (a2_0 : Int) (a2_1 : Int) (a2_2 : Int) (a2_3 : Int) (r1 : Int) (r2 : Int) (r3 : Int) (r4 : Int) (w : World) (h : spec_RangeOf.f k a0 a1_0 a1_1 a1_2 a1_3 a2_0 a2_1 a2_2 a2_3 = some (r1, r2, r3, r4)) :
  Calls Try.prog 7 #[.int .i64 a0, .agg #[.int .i64 a1_0, .int .i64 a1_1, .int .i64 a1_2, .int .i64 a1_3], .agg #[.int .i64 a2_0, .int .i64 a2_1, .int .i64 a2_2, .int .i64 a2_3]] w fun e w' => e = .returned (.agg #[.int .i64 r1, .int .i64 r2, .int .i64 r3, .int .i64 r4]) ∧ Below w.heap.size w w' := by
 have hu24 := Try.underlying24
 have HB := Aside0.mk (Below.refl w.heap.size w)
 have H : ((spec_l1Alu.f a0).bind fun t523 => (if t523 = true then ((spec_l2Ok.f a1_0 a1_1 a1_2 a1_3).bind fun t524 => (if t524 = true then ((spec_l2Ok.f a2_0 a2_1 a2_2 a2_3).bind fun t525 => (if t525 = true then ((spec_l2Some.f k a1_0 a1_1 a1_2 a1_3).bind fun t526 => (if t526 = true then ((spec_l2Some.f k a2_0 a2_1 a2_2 a2_3).bind fun t527 => (spec_RangeOf.j0 k a0 (!t527) a1_0 a1_1 a1_2 a1_3 a2_0 a2_1 a2_2 a2_3)) else (spec_RangeOf.j0 k a0 true a1_0 a1_1 a1_2 a1_3 a2_0 a2_1 a2_2 a2_3))) else (spec_RangeOf.j0 k a0 true a1_0 a1_1 a1_2 a1_3 a2_0 a2_1 a2_2 a2_3))) else (spec_RangeOf.j0 k a0 true a1_0 a1_1 a1_2 a1_3 a2_0 a2_1 a2_2 a2_3))) else (spec_RangeOf.j0 k a0 true a1_0 a1_1 a1_2 a1_3 a2_0 a2_1 a2_2 a2_3))) = some (r1, r2, r3, r4) := h
 clear h
 have HC4 := Aside0.mk H
 clear H
 go_enter Try.func7, Try.ntmps7
 go_upto_region 1 with (first | ((with_reducible refine gate_dst (N := 4) rfl ?_); refine be 4 #[.int .i64 a1_0, .int .i64 a1_1, .int .i64 a1_2, .int .i64 a1_3] 24 ?_; intro gb520 hg w5 hbox hb; have BK520 := Aside0.mk hbox; have GW520 := zW hg; replace HB := zS hb; have GE520 := GW520; clear hb hbox hg) | ((with_reducible refine gate_dst (N := 5) rfl ?_); refine be 5 #[.int .i64 a2_0, .int .i64 a2_1, .int .i64 a2_2, .int .i64 a2_3] 24 ?_; intro gb521 hg w6 hbox hb; have BK521 := Aside0.mk hbox; have GW521 := zW hg; replace HB := zS hb; have GE521 := GW521; have NB520_521 := zl BK520 hg rfl; have NB521_520 := zg BK520 hg rfl; replace BK520 := zb BK520 hb rfl; clear hb hbox hg) | ((with_reducible refine gate_dst (N := 6) rfl ?_); refine be 6 #[.int .i64 0, .int .i64 0, .int .i64 0, .int .i64 0] 24 ?_; intro gb522 hg w7 hbox hb; have BK522 := Aside0.mk hbox; have GW522 := zW hg; replace HB := zS hb; have GE522 := GW522; have NB520_522 := zl BK520 hg rfl; have NB522_520 := zg BK520 hg rfl; replace BK520 := zb BK520 hb rfl; have NB521_522 := zl BK521 hg rfl; have NB522_521 := zg BK521 hg rfl; replace BK521 := zb BK521 hb rfl; clear hb hbox hg))
 (try simp only [Act.put, List.setIfInBounds_toArray, List.set_cons_zero, List.set_cons_succ])
 go_cut [29] (fun v29 wc => ∃ (kq : Nat) (x29_3 : Bool), v29 = .bool x29_3 ∧ Aside0 (spec_RangeOf.j0 kq a0 x29_3 a1_0 a1_1 a1_2 a1_3 a2_0 a2_1 a2_2 a2_3 = some (r1, r2, r3, r4)) ∧ Aside0 (kq ≤ k) ∧ Aside0 (wc.heap[gb520]? = some (.cells #[.int .i64 a1_0, .int .i64 a1_1, .int .i64 a1_2, .int .i64 a1_3] 24 (0, 0))) ∧ Aside0 (wc.heap[gb521]? = some (.cells #[.int .i64 a2_0, .int .i64 a2_1, .int .i64 a2_2, .int .i64 a2_3] 24 (0, 0))) ∧ Aside0 (wc.heap[gb522]? = some (.cells #[.int .i64 0, .int .i64 0, .int .i64 0, .int .i64 0] 24 (0, 0))) ∧ Aside0 (Below w.heap.size w wc))
 case first =>
  have H := HC4.out
  clear HC4
  replace H := Option.bind_eq_some_iff.mp H
  obtain ⟨t523, A80, H⟩ := H
  try dsimp only at H
  have A8 := Aside0.mk A80
  clear A80
  by_cases c9 : t523 = true
  ·subst c9
   rw [if_pos rfl] at H
   replace H := Option.bind_eq_some_iff.mp H
   obtain ⟨t524, A100, H⟩ := H
   try dsimp only at H
   have A10 := Aside0.mk A100
   clear A100
   by_cases c11 : t524 = true
   ·subst c11
    rw [if_pos rfl] at H
    replace H := Option.bind_eq_some_iff.mp H
    obtain ⟨t525, A120, H⟩ := H
    try dsimp only at H
    have A12 := Aside0.mk A120
    clear A120
    by_cases c13 : t525 = true
    ·subst c13
     rw [if_pos rfl] at H
     replace H := Option.bind_eq_some_iff.mp H
     obtain ⟨t526, A140, H⟩ := H
     try dsimp only at H
     have A14 := Aside0.mk A140
     clear A140
     by_cases c15 : t526 = true
     ·subst c15
      rw [if_pos rfl] at H
      replace H := Option.bind_eq_some_iff.mp H
      obtain ⟨t527, A160, H⟩ := H
      try dsimp only at H
      have A16 := Aside0.mk A160
      clear A160
      have H' := Aside0.mk H
      clear H
      go_wp2_with (first | ((with_reducible refine gate_callee (f := 23) rfl ?_); refine gl 8 Try.func23 #[.int .i64 a0] ?_; (with_reducible refine (spec_l1Alu.calls a0 true _ A8.out).mono ?_); rintro e w' ⟨rfl, ⟨nd, rfl⟩⟩; refine ⟨_, rfl, ?_⟩; have hnb17 := NB520_521.out; have hnc17 := NB521_520.out; have hnb18 := NB520_522.out; have hnc18 := NB522_520.out; obtain ⟨hcz19_0, hcz19_1, hcz19_2, hcz19_3, hfz19_0, hfz19_1, hfz19_2, hfz19_3⟩ := zc4 BK520) | (go_at_call 24; (with_reducible refine (spec_l2Ok.calls a1_0 a1_1 a1_2 a1_3 true _ A10.out).mono ?_); rintro e w20 ⟨rfl, hb⟩; replace BK520 := zb BK520 hb rfl; replace BK521 := zb BK521 hb rfl; replace BK522 := zb BK522 hb rfl; replace HB := zS hb; try clear hb; have hnb21 := NB521_522.out; have hnc21 := NB522_521.out; obtain ⟨hcz22_0, hcz22_1, hcz22_2, hcz22_3, hfz22_0, hfz22_1, hfz22_2, hfz22_3⟩ := zc4 BK521) | (go_at_call 24; (with_reducible refine (spec_l2Ok.calls a2_0 a2_1 a2_2 a2_3 true _ A12.out).mono ?_); rintro e w23 ⟨rfl, hb⟩; replace BK520 := zb BK520 hb rfl; replace BK521 := zb BK521 hb rfl; replace BK522 := zb BK522 hb rfl; replace HB := zS hb; try clear hb; obtain ⟨hcz24_0, hcz24_1, hcz24_2, hcz24_3, hfz24_0, hfz24_1, hfz24_2, hfz24_3⟩ := zc4 BK520) | (go_at_call 25; (with_reducible refine (spec_l2Some.calls k a1_0 a1_1 a1_2 a1_3 true _ A14.out).mono ?_); rintro e w25 ⟨rfl, hb⟩; replace BK520 := zb BK520 hb rfl; replace BK521 := zb BK521 hb rfl; replace BK522 := zb BK522 hb rfl; replace HB := zS hb; try clear hb; obtain ⟨hcz26_0, hcz26_1, hcz26_2, hcz26_3, hfz26_0, hfz26_1, hfz26_2, hfz26_3⟩ := zc4 BK521) | (go_at_call 25; (with_reducible refine (spec_l2Some.calls k a2_0 a2_1 a2_2 a2_3 t527 _ A16.out).mono ?_); rintro e w27 ⟨rfl, hb⟩; replace BK520 := zb BK520 hb rfl; replace BK521 := zb BK521 hb rfl; replace BK522 := zb BK522 hb rfl; replace HB := zS hb; try clear hb))
      go_meet
      case rel => exact ⟨_, (!t527), (by first | rfl | (simp; done) | (simp [*]; done)), H', ⟨by first | omega | exact Nat.le_refl _⟩, ⟨by exact bq BK520.out⟩, ⟨by exact bq BK521.out⟩, ⟨by exact bq BK522.out⟩, ⟨zB⟩⟩
     ·replace c15 := Bool.eq_false_iff.mpr c15
      subst c15
      rw [if_neg (show ¬ (false = true) by decide)] at H
      have H' := Aside0.mk H
      clear H
      go_wp2_with (first | ((with_reducible refine gate_callee (f := 23) rfl ?_); refine gl 8 Try.func23 #[.int .i64 a0] ?_; (with_reducible refine (spec_l1Alu.calls a0 true _ A8.out).mono ?_); rintro e w' ⟨rfl, ⟨nd, rfl⟩⟩; refine ⟨_, rfl, ?_⟩; have hnb28 := NB520_521.out; have hnc28 := NB521_520.out; have hnb29 := NB520_522.out; have hnc29 := NB522_520.out; obtain ⟨hcz30_0, hcz30_1, hcz30_2, hcz30_3, hfz30_0, hfz30_1, hfz30_2, hfz30_3⟩ := zc4 BK520) | (go_at_call 24; (with_reducible refine (spec_l2Ok.calls a1_0 a1_1 a1_2 a1_3 true _ A10.out).mono ?_); rintro e w31 ⟨rfl, hb⟩; replace BK520 := zb BK520 hb rfl; replace BK521 := zb BK521 hb rfl; replace BK522 := zb BK522 hb rfl; replace HB := zS hb; try clear hb; have hnb32 := NB521_522.out; have hnc32 := NB522_521.out; obtain ⟨hcz33_0, hcz33_1, hcz33_2, hcz33_3, hfz33_0, hfz33_1, hfz33_2, hfz33_3⟩ := zc4 BK521) | (go_at_call 24; (with_reducible refine (spec_l2Ok.calls a2_0 a2_1 a2_2 a2_3 true _ A12.out).mono ?_); rintro e w34 ⟨rfl, hb⟩; replace BK520 := zb BK520 hb rfl; replace BK521 := zb BK521 hb rfl; replace BK522 := zb BK522 hb rfl; replace HB := zS hb; try clear hb; obtain ⟨hcz35_0, hcz35_1, hcz35_2, hcz35_3, hfz35_0, hfz35_1, hfz35_2, hfz35_3⟩ := zc4 BK520) | (go_at_call 25; (with_reducible refine (spec_l2Some.calls k a1_0 a1_1 a1_2 a1_3 false _ A14.out).mono ?_); rintro e w36 ⟨rfl, hb⟩; replace BK520 := zb BK520 hb rfl; replace BK521 := zb BK521 hb rfl; replace BK522 := zb BK522 hb rfl; replace HB := zS hb; try clear hb))
      go_meet
      case rel => exact ⟨_, (true), (by first | rfl | (simp; done) | (simp [*]; done)), H', ⟨by first | omega | exact Nat.le_refl _⟩, ⟨by exact bq BK520.out⟩, ⟨by exact bq BK521.out⟩, ⟨by exact bq BK522.out⟩, ⟨zB⟩⟩
    ·replace c13 := Bool.eq_false_iff.mpr c13
     subst c13
     rw [if_neg (show ¬ (false = true) by decide)] at H
     have H' := Aside0.mk H
     clear H
     go_wp2_with (first | ((with_reducible refine gate_callee (f := 23) rfl ?_); refine gl 8 Try.func23 #[.int .i64 a0] ?_; (with_reducible refine (spec_l1Alu.calls a0 true _ A8.out).mono ?_); rintro e w' ⟨rfl, ⟨nd, rfl⟩⟩; refine ⟨_, rfl, ?_⟩; have hnb37 := NB520_521.out; have hnc37 := NB521_520.out; have hnb38 := NB520_522.out; have hnc38 := NB522_520.out; obtain ⟨hcz39_0, hcz39_1, hcz39_2, hcz39_3, hfz39_0, hfz39_1, hfz39_2, hfz39_3⟩ := zc4 BK520) | (go_at_call 24; (with_reducible refine (spec_l2Ok.calls a1_0 a1_1 a1_2 a1_3 true _ A10.out).mono ?_); rintro e w40 ⟨rfl, hb⟩; replace BK520 := zb BK520 hb rfl; replace BK521 := zb BK521 hb rfl; replace BK522 := zb BK522 hb rfl; replace HB := zS hb; try clear hb; have hnb41 := NB521_522.out; have hnc41 := NB522_521.out; obtain ⟨hcz42_0, hcz42_1, hcz42_2, hcz42_3, hfz42_0, hfz42_1, hfz42_2, hfz42_3⟩ := zc4 BK521) | (go_at_call 24; (with_reducible refine (spec_l2Ok.calls a2_0 a2_1 a2_2 a2_3 false _ A12.out).mono ?_); rintro e w43 ⟨rfl, hb⟩; replace BK520 := zb BK520 hb rfl; replace BK521 := zb BK521 hb rfl; replace BK522 := zb BK522 hb rfl; replace HB := zS hb; try clear hb))
     go_meet
     case rel => exact ⟨_, (true), (by first | rfl | (simp; done) | (simp [*]; done)), H', ⟨by first | omega | exact Nat.le_refl _⟩, ⟨by exact bq BK520.out⟩, ⟨by exact bq BK521.out⟩, ⟨by exact bq BK522.out⟩, ⟨zB⟩⟩
   ·replace c11 := Bool.eq_false_iff.mpr c11
    subst c11
    rw [if_neg (show ¬ (false = true) by decide)] at H
    have H' := Aside0.mk H
    clear H
    go_wp2_with (first | ((with_reducible refine gate_callee (f := 23) rfl ?_); refine gl 8 Try.func23 #[.int .i64 a0] ?_; (with_reducible refine (spec_l1Alu.calls a0 true _ A8.out).mono ?_); rintro e w' ⟨rfl, ⟨nd, rfl⟩⟩; refine ⟨_, rfl, ?_⟩; have hnb44 := NB520_521.out; have hnc44 := NB521_520.out; have hnb45 := NB520_522.out; have hnc45 := NB522_520.out; obtain ⟨hcz46_0, hcz46_1, hcz46_2, hcz46_3, hfz46_0, hfz46_1, hfz46_2, hfz46_3⟩ := zc4 BK520) | (go_at_call 24; (with_reducible refine (spec_l2Ok.calls a1_0 a1_1 a1_2 a1_3 false _ A10.out).mono ?_); rintro e w47 ⟨rfl, hb⟩; replace BK520 := zb BK520 hb rfl; replace BK521 := zb BK521 hb rfl; replace BK522 := zb BK522 hb rfl; replace HB := zS hb; try clear hb))
    go_meet
    case rel => exact ⟨_, (true), (by first | rfl | (simp; done) | (simp [*]; done)), H', ⟨by first | omega | exact Nat.le_refl _⟩, ⟨by exact bq BK520.out⟩, ⟨by exact bq BK521.out⟩, ⟨by exact bq BK522.out⟩, ⟨zB⟩⟩
  ·replace c9 := Bool.eq_false_iff.mpr c9
   subst c9
   rw [if_neg (show ¬ (false = true) by decide)] at H
   have H' := Aside0.mk H
   clear H
   go_wp2_with (first | ((with_reducible refine gate_callee (f := 23) rfl ?_); refine gl 8 Try.func23 #[.int .i64 a0] ?_; (with_reducible refine (spec_l1Alu.calls a0 false _ A8.out).mono ?_); rintro e w' ⟨rfl, ⟨nd, rfl⟩⟩; refine ⟨_, rfl, ?_⟩))
   go_meet
   case rel => exact ⟨_, (true), (by first | rfl | (simp; done) | (simp [*]; done)), H', ⟨by first | omega | exact Nat.le_refl _⟩, ⟨by exact bq BK520.out⟩, ⟨by exact bq BK521.out⟩, ⟨by exact bq BK522.out⟩, ⟨zB⟩⟩
 case rest =>
  clear HC4
  try clear c1
  try clear c2
  try clear p2
  try clear c3
  try clear c4
  try clear c7
  try clear c9
  try clear c11
  try clear c13
  try clear c15
  try clear c17
  try clear c18
  try clear c21
  try clear c23
  try clear c28
  try clear c29
  try clear c32
  try clear c37
  try clear c38
  try clear c41
  try clear c44
  try clear c45
  try clear hcz19_0 hcz19_1 hcz19_2 hcz19_3 hfz19_0 hfz19_1 hfz19_2 hfz19_3
  try clear hcz22_0 hcz22_1 hcz22_2 hcz22_3 hfz22_0 hfz22_1 hfz22_2 hfz22_3
  try clear hcz24_0 hcz24_1 hcz24_2 hcz24_3 hfz24_0 hfz24_1 hfz24_2 hfz24_3
  try clear hcz26_0 hcz26_1 hcz26_2 hcz26_3 hfz26_0 hfz26_1 hfz26_2 hfz26_3
  try clear hcz30_0 hcz30_1 hcz30_2 hcz30_3 hfz30_0 hfz30_1 hfz30_2 hfz30_3
  try clear hcz33_0 hcz33_1 hcz33_2 hcz33_3 hfz33_0 hfz33_1 hfz33_2 hfz33_3
  try clear hcz35_0 hcz35_1 hcz35_2 hcz35_3 hfz35_0 hfz35_1 hfz35_2 hfz35_3
  try clear hcz39_0 hcz39_1 hcz39_2 hcz39_3 hfz39_0 hfz39_1 hfz39_2 hfz39_3
  try clear hcz42_0 hcz42_1 hcz42_2 hcz42_3 hfz42_0 hfz42_1 hfz42_2 hfz42_3
  try clear hcz46_0 hcz46_1 hcz46_2 hcz46_3 hfz46_0 hfz46_1 hfz46_2 hfz46_3
  obtain ⟨kq, x29_3, rfl, HA, HJ3, BK520, BK521, BK522, HB⟩ := hcut
  cases kq with
  | zero => exact absurd HA.out (by simp [spec_RangeOf.j0])
  | succ kj3 =>
   have H := HA.out
   clear HA
   simp only [spec_RangeOf.j0] at H
   by_cases c48 : x29_3 = true
   ·subst c48
    rw [if_pos rfl] at H
    simp only [Option.some.injEq, Prod.mk.injEq] at H
    obtain ⟨rfl, rfl, rfl, rfl⟩ := H
    have hnb49 := NB522_520.out
    have hnc49 := NB520_522.out
    have hnb50 := NB522_521.out
    have hnc50 := NB521_522.out
    obtain ⟨hcz51_0, hcz51_1, hcz51_2, hcz51_3, hfz51_0, hfz51_1, hfz51_2, hfz51_3⟩ := zc4 BK522
    go_wp2
    refine bodyPost_ret (results_cell_row rfl _ _ gb522 24 #[.int .i64 1, .int .i64 0, .int .i64 0, .int .i64 0] (0, 0) _ rfl (by refine bq ?_; refine blk_put (cs := #[.int .i64 1, .int .i64 0, .int .i64 0, .int .i64 0]) ?_ 3 _ rfl; refine bq ?_; refine blk_put (cs := #[.int .i64 1, .int .i64 0, .int .i64 0, .int .i64 0]) ?_ 2 _ rfl; refine bq ?_; refine blk_put (cs := #[.int .i64 1, .int .i64 0, .int .i64 0, .int .i64 0]) ?_ 1 _ rfl; refine bq ?_; refine blk_put (cs := #[.int .i64 0, .int .i64 0, .int .i64 0, .int .i64 0]) ?_ 0 _ rfl; exact bq BK522.out) Try.underlying24 rfl (by kernel_rfl)) rfl ?_
    exact ⟨zR, zB⟩
   ·replace c48 := Bool.eq_false_iff.mpr c48
    subst c48
    rw [if_neg (show ¬ (false = true) by decide)] at H
    replace H := Option.bind_eq_some_iff.mp H
    obtain ⟨⟨t528, t529, t530, t531⟩, A520, H⟩ := H
    try dsimp only at H
    have A52 := Aside0.mk A520
    clear A520
    replace H := Option.bind_eq_some_iff.mp H
    obtain ⟨⟨t532, t533, t534, t535⟩, A530, H⟩ := H
    try dsimp only at H
    have A53 := Aside0.mk A530
    clear A530
    replace H := Option.bind_eq_some_iff.mp H
    obtain ⟨⟨t536, t537, t538, t539⟩, A540, H⟩ := H
    try dsimp only at H
    have A54 := Aside0.mk A540
    clear A540
    simp only [Option.some.injEq, Prod.mk.injEq] at H
    obtain ⟨rfl, rfl, rfl, rfl⟩ := H
    try go_wp2
    replace BK520 := Aside0.mk (blk_drew BK520.out)
    replace BK521 := Aside0.mk (blk_drew BK521.out)
    replace BK522 := Aside0.mk (blk_drew BK522.out)
    replace HB := Aside0.mk (below_drew1 HB.out)
    refine start_ (n := 7) (S := fun w' => w'.cell? ⟨gb520, 0, none⟩ = some (.int .i64 a1_0) ∧ w'.cell? ⟨gb520, 1, none⟩ = some (.int .i64 a1_1) ∧ w'.cell? ⟨gb520, 2, none⟩ = some (.int .i64 a1_2) ∧ w'.cell? ⟨gb520, 3, none⟩ = some (.int .i64 a1_3) ∧ w'.cell? ⟨gb521, 0, none⟩ = some (.int .i64 a2_0) ∧ w'.cell? ⟨gb521, 1, none⟩ = some (.int .i64 a2_1) ∧ w'.cell? ⟨gb521, 2, none⟩ = some (.int .i64 a2_2) ∧ w'.cell? ⟨gb521, 3, none⟩ = some (.int .i64 a2_3)) (ds := []) #[false, false, false, false, false, false, false] (by kernel_rfl) rfl rfl ⟨(blk_cell BK520.out 0).trans rfl, (blk_cell BK520.out 1).trans rfl, (blk_cell BK520.out 2).trans rfl, (blk_cell BK520.out 3).trans rfl, (blk_cell BK521.out 0).trans rfl, (blk_cell BK521.out 1).trans rfl, (blk_cell BK521.out 2).trans rfl, (blk_cell BK521.out 3).trans rfl⟩ (fun hHeld => ?_)
    generalize wc.drew = w55 at BK520 BK521 BK522 HB hHeld ⊢
    refine pz 0 31 ?_
    refine tz 1 32 ?_
    refine tz 3 34 ?_
    refine oz 2 33 fun K hK => ?_
    refine gz Try.func27 #[.agg #[.int .i64 a1_0, .int .i64 a1_1, .int .i64 a1_2, .int .i64 a1_3]] ?_
    with_reducible refine (spec_l2Tidy.calls kj3 a1_0 a1_1 a1_2 a1_3 t528 t529 t530 t531 _ A52.out).mono ?_
    rintro e w56 ⟨rfl, hb⟩
    refine ⟨_, rfl, ?_⟩
    replace BK520 := zb BK520 hb rfl
    replace BK521 := zb BK521 hb rfl
    replace BK522 := zb BK522 hb rfl
    replace HB := zS hb
    try clear hb
    refine hK.out _ _ ⟨(blk_cell BK520.out 0).trans rfl, (blk_cell BK520.out 1).trans rfl, (blk_cell BK520.out 2).trans rfl, (blk_cell BK520.out 3).trans rfl, (blk_cell BK521.out 0).trans rfl, (blk_cell BK521.out 1).trans rfl, (blk_cell BK521.out 2).trans rfl, (blk_cell BK521.out 3).trans rfl⟩ (fun hHeld => ?_)
    clear hK K
    refine nz ?_
    refine oz 4 35 fun K hK => ?_
    refine gz Try.func27 #[.agg #[.int .i64 a2_0, .int .i64 a2_1, .int .i64 a2_2, .int .i64 a2_3]] ?_
    with_reducible refine (spec_l2Tidy.calls kj3 a2_0 a2_1 a2_2 a2_3 t532 t533 t534 t535 _ A53.out).mono ?_
    rintro e w57 ⟨rfl, hb⟩
    refine ⟨_, rfl, ?_⟩
    replace BK520 := zb BK520 hb rfl
    replace BK521 := zb BK521 hb rfl
    replace BK522 := zb BK522 hb rfl
    replace HB := zS hb
    try clear hb
    refine hK.out _ _ ⟨(blk_cell BK520.out 0).trans rfl, (blk_cell BK520.out 1).trans rfl, (blk_cell BK520.out 2).trans rfl, (blk_cell BK520.out 3).trans rfl, (blk_cell BK521.out 0).trans rfl, (blk_cell BK521.out 1).trans rfl, (blk_cell BK521.out 2).trans rfl, (blk_cell BK521.out 3).trans rfl⟩ (fun hHeld => ?_)
    clear hK K
    refine nz ?_
    refine oz 5 36 fun K hK => ?_
    refine gz Try.func26 #[.int .i64 a0, .agg #[.int .i64 t528, .int .i64 t529, .int .i64 t530, .int .i64 t531], .agg #[.int .i64 t532, .int .i64 t533, .int .i64 t534, .int .i64 t535]] ?_
    with_reducible refine (spec_l2Of.calls kj3 a0 t528 t529 t530 t531 t532 t533 t534 t535 t536 t537 t538 t539 _ A54.out).mono ?_
    rintro e w58 ⟨rfl, hb⟩
    refine ⟨_, rfl, ?_⟩
    replace BK520 := zb BK520 hb rfl
    replace BK521 := zb BK521 hb rfl
    replace BK522 := zb BK522 hb rfl
    replace HB := zS hb
    try clear hb
    refine hK.out _ _ ⟨(blk_cell BK520.out 0).trans rfl, (blk_cell BK520.out 1).trans rfl, (blk_cell BK520.out 2).trans rfl, (blk_cell BK520.out 3).trans rfl, (blk_cell BK521.out 0).trans rfl, (blk_cell BK521.out 1).trans rfl, (blk_cell BK521.out 2).trans rfl, (blk_cell BK521.out 3).trans rfl⟩ (fun hHeld => ?_)
    clear hK K
    refine nz ?_
    refine oN 6 fun K hK => ?_
    have hs59 : w58.cell? ⟨gb522, 0, none⟩ = some (.int .i64 0) := (blk_cell BK522.out 0).trans rfl
    have hfs59 := blk_frozen BK522.out 0
    have hns59_0 := NB520_522.out
    have hns59_1 := NB521_522.out
    have hms59_0 := NB522_520.out
    have hms59_1 := NB522_521.out
    have hs60 : w58.cell? ⟨gb522, 1, none⟩ = some (.int .i64 0) := (blk_cell BK522.out 1).trans rfl
    have hfs60 := blk_frozen BK522.out 1
    have hns60_0 := NB520_522.out
    have hns60_1 := NB521_522.out
    have hms60_0 := NB522_520.out
    have hms60_1 := NB522_521.out
    have hs61 : w58.cell? ⟨gb522, 2, none⟩ = some (.int .i64 0) := (blk_cell BK522.out 2).trans rfl
    have hfs61 := blk_frozen BK522.out 2
    have hns61_0 := NB520_522.out
    have hns61_1 := NB521_522.out
    have hms61_0 := NB522_520.out
    have hms61_1 := NB522_521.out
    have hs62 : w58.cell? ⟨gb522, 3, none⟩ = some (.int .i64 0) := (blk_cell BK522.out 3).trans rfl
    have hfs62 := blk_frozen BK522.out 3
    have hns62_0 := NB520_522.out
    have hns62_1 := NB521_522.out
    have hms62_0 := NB522_520.out
    have hms62_1 := NB522_521.out
    refine skip_ (w1 := ?_) (by rfl) rfl ?_ ?_
    rotate_left
    ·go_simp
     rfl
    refine hK.out _ _ ⟨((cell_far (p := ⟨gb522, _, none⟩) NB520_522.out _).trans (((cell_far (p := ⟨gb522, _, none⟩) NB520_522.out _).trans (((cell_far (p := ⟨gb522, _, none⟩) NB520_522.out _).trans (((cell_far (p := ⟨gb522, _, none⟩) NB520_522.out _).trans (hHeld.1)))))))), ((cell_far (p := ⟨gb522, _, none⟩) NB520_522.out _).trans (((cell_far (p := ⟨gb522, _, none⟩) NB520_522.out _).trans (((cell_far (p := ⟨gb522, _, none⟩) NB520_522.out _).trans (((cell_far (p := ⟨gb522, _, none⟩) NB520_522.out _).trans (hHeld.2.1)))))))), ((cell_far (p := ⟨gb522, _, none⟩) NB520_522.out _).trans (((cell_far (p := ⟨gb522, _, none⟩) NB520_522.out _).trans (((cell_far (p := ⟨gb522, _, none⟩) NB520_522.out _).trans (((cell_far (p := ⟨gb522, _, none⟩) NB520_522.out _).trans (hHeld.2.2.1)))))))), ((cell_far (p := ⟨gb522, _, none⟩) NB520_522.out _).trans (((cell_far (p := ⟨gb522, _, none⟩) NB520_522.out _).trans (((cell_far (p := ⟨gb522, _, none⟩) NB520_522.out _).trans (((cell_far (p := ⟨gb522, _, none⟩) NB520_522.out _).trans (hHeld.2.2.2.1)))))))), ((cell_far (p := ⟨gb522, _, none⟩) NB521_522.out _).trans (((cell_far (p := ⟨gb522, _, none⟩) NB521_522.out _).trans (((cell_far (p := ⟨gb522, _, none⟩) NB521_522.out _).trans (((cell_far (p := ⟨gb522, _, none⟩) NB521_522.out _).trans (hHeld.2.2.2.2.1)))))))), ((cell_far (p := ⟨gb522, _, none⟩) NB521_522.out _).trans (((cell_far (p := ⟨gb522, _, none⟩) NB521_522.out _).trans (((cell_far (p := ⟨gb522, _, none⟩) NB521_522.out _).trans (((cell_far (p := ⟨gb522, _, none⟩) NB521_522.out _).trans (hHeld.2.2.2.2.2.1)))))))), ((cell_far (p := ⟨gb522, _, none⟩) NB521_522.out _).trans (((cell_far (p := ⟨gb522, _, none⟩) NB521_522.out _).trans (((cell_far (p := ⟨gb522, _, none⟩) NB521_522.out _).trans (((cell_far (p := ⟨gb522, _, none⟩) NB521_522.out _).trans (hHeld.2.2.2.2.2.2.1)))))))), ((cell_far (p := ⟨gb522, _, none⟩) NB521_522.out _).trans (((cell_far (p := ⟨gb522, _, none⟩) NB521_522.out _).trans (((cell_far (p := ⟨gb522, _, none⟩) NB521_522.out _).trans (((cell_far (p := ⟨gb522, _, none⟩) NB521_522.out _).trans (hHeld.2.2.2.2.2.2.2))))))))⟩ (fun hHeld => ?_)
    clear hK K
    refine done_ (by kernel_rfl) ?_
    try go_wp2
    refine bodyPost_ret (results_cell_row rfl _ _ gb522 24 #[.int .i64 t536, .int .i64 t537, .int .i64 t538, .int .i64 t539] (0, 0) _ rfl (by refine bq ?_; refine blk_put (cs := #[.int .i64 t536, .int .i64 t537, .int .i64 t538, .int .i64 0]) ?_ 3 _ rfl; refine bq ?_; refine blk_put (cs := #[.int .i64 t536, .int .i64 t537, .int .i64 0, .int .i64 0]) ?_ 2 _ rfl; refine bq ?_; refine blk_put (cs := #[.int .i64 t536, .int .i64 0, .int .i64 0, .int .i64 0]) ?_ 1 _ rfl; refine bq ?_; refine blk_put (cs := #[.int .i64 0, .int .i64 0, .int .i64 0, .int .i64 0]) ?_ 0 _ rfl; exact bq BK522.out) Try.underlying24 rfl (by kernel_rfl)) rfl ?_
    exact ⟨zR, zB⟩

/-! ### impl_RangeLeast: function 12 -/
def impl_RangeLeast.f (k : Nat) (a0_0 : Int) (a0_1 : Int) (a0_2 : Int) (a0_3 : Int) : Option (Int) := (impl_RangeOk.f a0_0 a0_1 a0_2 a0_3).bind fun t541 => (if t541 = true then ((impl_Range_least.f k a0_0 a0_1 a0_2 a0_3).bind fun t542 => (some t542)) else (some (-1)))

set_option maxHeartbeats 8000000 in
set_option maxRecDepth 100000 in
theorem impl_RangeLeast.calls (k : Nat) (a0_0 : Int) (a0_1 : Int) (a0_2 : Int) (a0_3 : Int) (r : Int) (w : World) (h : impl_RangeLeast.f k a0_0 a0_1 a0_2 a0_3 = some r) :
  Calls Try.prog 12 #[.agg #[.int .i64 a0_0, .int .i64 a0_1, .int .i64 a0_2, .int .i64 a0_3]] w fun e w' => e = .returned (.int .i64 r) ∧ Below w.heap.size w w' := by
 have hu24 := Try.underlying24
 have HB := Aside0.mk (Below.refl w.heap.size w)
 have H : ((impl_RangeOk.f a0_0 a0_1 a0_2 a0_3).bind fun t541 => (if t541 = true then ((impl_Range_least.f k a0_0 a0_1 a0_2 a0_3).bind fun t542 => (some t542)) else (some (-1)))) = some r := h
 clear h
 replace H := Option.bind_eq_some_iff.mp H
 obtain ⟨t541, A20, H⟩ := H
 try dsimp only at H
 have A2 := Aside0.mk A20
 clear A20
 by_cases c3 : t541 = true
 ·subst c3
  rw [if_pos rfl] at H
  replace H := Option.bind_eq_some_iff.mp H
  obtain ⟨t542, A40, H⟩ := H
  try dsimp only at H
  have A4 := Aside0.mk A40
  clear A40
  obtain rfl := Option.some.inj H
  go_enter Try.func12, Try.ntmps12
  go_wp2_with (first | ((with_reducible refine gate_dst (N := 1) rfl ?_); refine be 1 #[.int .i64 a0_0, .int .i64 a0_1, .int .i64 a0_2, .int .i64 a0_3] 24 ?_; intro gb540 hg w5 hbox hb; have BK540 := Aside0.mk hbox; have GW540 := zW hg; replace HB := zS hb; have GE540 := GW540; clear hb hbox hg; obtain ⟨hcz6_0, hcz6_1, hcz6_2, hcz6_3, hfz6_0, hfz6_1, hfz6_2, hfz6_3⟩ := zc4 BK540) | ((with_reducible refine gate_callee (f := 8) rfl ?_); refine gl 4 Try.func8 #[.agg #[.int .i64 a0_0, .int .i64 a0_1, .int .i64 a0_2, .int .i64 a0_3]] ?_; (with_reducible refine (impl_RangeOk.calls a0_0 a0_1 a0_2 a0_3 true _ A2.out).mono ?_); rintro e w7 ⟨rfl, hb⟩; refine ⟨_, rfl, ?_⟩; replace BK540 := zb BK540 hb rfl; replace HB := zS hb; try clear hb; obtain ⟨hcz8_0, hcz8_1, hcz8_2, hcz8_3, hfz8_0, hfz8_1, hfz8_2, hfz8_3⟩ := zc4 BK540) | ((with_reducible refine gate_callee (f := 32) rfl ?_); refine gl 7 Try.func32 #[.agg #[.int .i64 a0_0, .int .i64 a0_1, .int .i64 a0_2, .int .i64 a0_3]] ?_; (with_reducible refine (impl_Range_least.calls k a0_0 a0_1 a0_2 a0_3 t542 _ A4.out).mono ?_); rintro e w9 ⟨rfl, hb⟩; refine ⟨_, rfl, ?_⟩; replace BK540 := zb BK540 hb rfl; replace HB := zS hb; try clear hb))
  go_ret
  exact ⟨zR, zB⟩
 ·replace c3 := Bool.eq_false_iff.mpr c3
  subst c3
  rw [if_neg (show ¬ (false = true) by decide)] at H
  obtain rfl := Option.some.inj H
  go_enter Try.func12, Try.ntmps12
  go_wp2_with (first | ((with_reducible refine gate_dst (N := 1) rfl ?_); refine be 1 #[.int .i64 a0_0, .int .i64 a0_1, .int .i64 a0_2, .int .i64 a0_3] 24 ?_; intro gb540 hg w10 hbox hb; have BK540 := Aside0.mk hbox; have GW540 := zW hg; replace HB := zS hb; have GE540 := GW540; clear hb hbox hg; obtain ⟨hcz11_0, hcz11_1, hcz11_2, hcz11_3, hfz11_0, hfz11_1, hfz11_2, hfz11_3⟩ := zc4 BK540) | ((with_reducible refine gate_callee (f := 8) rfl ?_); refine gl 4 Try.func8 #[.agg #[.int .i64 a0_0, .int .i64 a0_1, .int .i64 a0_2, .int .i64 a0_3]] ?_; (with_reducible refine (impl_RangeOk.calls a0_0 a0_1 a0_2 a0_3 false _ A2.out).mono ?_); rintro e w12 ⟨rfl, hb⟩; refine ⟨_, rfl, ?_⟩; replace BK540 := zb BK540 hb rfl; replace HB := zS hb; try clear hb))
  go_ret
  exact ⟨zR, zB⟩

/-! ### impl_RangeDo: function 11 -/
def impl_RangeDo.j0 : Nat → Int → Int → Int → Bool → Option (Int)
 | 0, _, _, _, _ => none
 | k + 1, x0, x1, x2, x19 => if x19 = true then (some (-1)) else ((impl_reckon.f x0 x1 x2).bind fun t556 => (some t556))
def impl_RangeDo.f (k : Nat) (a0 : Int) (a1 : Int) (a2 : Int) : Option (Int) := (impl_kind_reckons.f a0).bind fun t553 => (if t553 = true then ((impl_numOk.f a1).bind fun t554 => (if t554 = true then ((impl_numOk.f a2).bind fun t555 => (impl_RangeDo.j0 k a0 a1 a2 (!t555))) else (impl_RangeDo.j0 k a0 a1 a2 true))) else (impl_RangeDo.j0 k a0 a1 a2 true))


set_option maxHeartbeats 8000000 in
set_option maxRecDepth 100000 in
theorem impl_RangeDo.calls (k : Nat) (a0 : Int) (a1 : Int) (a2 : Int) (r : Int) (w : World) (h : impl_RangeDo.f k a0 a1 a2 = some r) :
  Calls Try.prog 11 #[.int .i64 a0, .int .i64 a1, .int .i64 a2] w fun e w' => e = .returned (.int .i64 r) ∧ Drawn0 w w' := by
 have H : ((impl_kind_reckons.f a0).bind fun t553 => (if t553 = true then ((impl_numOk.f a1).bind fun t554 => (if t554 = true then ((impl_numOk.f a2).bind fun t555 => (impl_RangeDo.j0 k a0 a1 a2 (!t555))) else (impl_RangeDo.j0 k a0 a1 a2 true))) else (impl_RangeDo.j0 k a0 a1 a2 true))) = some r := h
 clear h
 have HC4 := Aside0.mk H
 clear H
 go_enter Try.func11, Try.ntmps11
 go_upto_region 1 with (fail)
 go_cut [19] (fun v19 wc => ∃ (kq : Nat) (x19_3 : Bool), v19 = .bool x19_3 ∧ Aside0 (impl_RangeDo.j0 kq a0 a1 a2 x19_3 = some r) ∧ Aside0 (kq ≤ k) ∧ Drawn0 w wc)
 case first =>
  have H := HC4.out
  clear HC4
  replace H := Option.bind_eq_some_iff.mp H
  obtain ⟨t553, A50, H⟩ := H
  try dsimp only at H
  have A5 := Aside0.mk A50
  clear A50
  by_cases c6 : t553 = true
  ·subst c6
   rw [if_pos rfl] at H
   replace H := Option.bind_eq_some_iff.mp H
   obtain ⟨t554, A70, H⟩ := H
   try dsimp only at H
   have A7 := Aside0.mk A70
   clear A70
   by_cases c8 : t554 = true
   ·subst c8
    rw [if_pos rfl] at H
    replace H := Option.bind_eq_some_iff.mp H
    obtain ⟨t555, A90, H⟩ := H
    try dsimp only at H
    have A9 := Aside0.mk A90
    clear A90
    have H' := Aside0.mk H
    clear H
    go_wp2_with (first | ((with_reducible refine gate_callee (f := 19) rfl ?_); refine gl 8 Try.func19 #[.int .i64 a0] ?_; (with_reducible refine (impl_kind_reckons.calls a0 true _ A5.out).mono ?_); rintro e w' ⟨rfl, ⟨nd, rfl⟩⟩; refine ⟨_, rfl, ?_⟩) | (go_at_call 28; (with_reducible refine (impl_numOk.calls a1 true _ A7.out).mono ?_); rintro e w' ⟨rfl, ⟨nd, rfl⟩⟩) | (go_at_call 28; (with_reducible refine (impl_numOk.calls a2 t555 _ A9.out).mono ?_); rintro e w' ⟨rfl, ⟨nd, rfl⟩⟩))
    go_meet
    case rel => exact ⟨_, (!t555), (by first | rfl | (simp; done) | (simp [*]; done)), H', ⟨by first | omega | exact Nat.le_refl _⟩, by repeat (first | exact Drawn0.refl _ | apply Drawn0.step)⟩
   ·replace c8 := Bool.eq_false_iff.mpr c8
    subst c8
    rw [if_neg (show ¬ (false = true) by decide)] at H
    have H' := Aside0.mk H
    clear H
    go_wp2_with (first | ((with_reducible refine gate_callee (f := 19) rfl ?_); refine gl 8 Try.func19 #[.int .i64 a0] ?_; (with_reducible refine (impl_kind_reckons.calls a0 true _ A5.out).mono ?_); rintro e w' ⟨rfl, ⟨nd, rfl⟩⟩; refine ⟨_, rfl, ?_⟩) | (go_at_call 28; (with_reducible refine (impl_numOk.calls a1 false _ A7.out).mono ?_); rintro e w' ⟨rfl, ⟨nd, rfl⟩⟩))
    go_meet
    case rel => exact ⟨_, (true), (by first | rfl | (simp; done) | (simp [*]; done)), H', ⟨by first | omega | exact Nat.le_refl _⟩, by repeat (first | exact Drawn0.refl _ | apply Drawn0.step)⟩
  ·replace c6 := Bool.eq_false_iff.mpr c6
   subst c6
   rw [if_neg (show ¬ (false = true) by decide)] at H
   have H' := Aside0.mk H
   clear H
   go_wp2_with (first | ((with_reducible refine gate_callee (f := 19) rfl ?_); refine gl 8 Try.func19 #[.int .i64 a0] ?_; (with_reducible refine (impl_kind_reckons.calls a0 false _ A5.out).mono ?_); rintro e w' ⟨rfl, ⟨nd, rfl⟩⟩; refine ⟨_, rfl, ?_⟩))
   go_meet
   case rel => exact ⟨_, (true), (by first | rfl | (simp; done) | (simp [*]; done)), H', ⟨by first | omega | exact Nat.le_refl _⟩, by repeat (first | exact Drawn0.refl _ | apply Drawn0.step)⟩
 case rest =>
  clear HC4
  try clear c1
  try clear p2
  try clear c6
  try clear c8
  obtain ⟨kq, x19_3, rfl, HA, HJ3, ⟨mc3, rfl⟩⟩ := hcut
  cases kq with
  | zero => exact absurd HA.out (by simp [impl_RangeDo.j0])
  | succ kj3 =>
   have H := HA.out
   clear HA
   simp only [impl_RangeDo.j0] at H
   by_cases c10 : x19_3 = true
   ·subst c10
    rw [if_pos rfl] at H
    obtain rfl := Option.some.inj H
    go_wp2
    go_ret
    exact ⟨by first | rfl | (simp; done) | (simp [*]; done), by repeat (first | exact Drawn0.refl _ | apply Drawn0.step)⟩
   ·replace c10 := Bool.eq_false_iff.mpr c10
    subst c10
    rw [if_neg (show ¬ (false = true) by decide)] at H
    replace H := Option.bind_eq_some_iff.mp H
    obtain ⟨t556, A110, H⟩ := H
    try dsimp only at H
    have A11 := Aside0.mk A110
    clear A110
    obtain rfl := Option.some.inj H
    go_wp2_with (first | ((with_reducible refine gate_callee (f := 31) rfl ?_); refine gl 23 Try.func31 #[.int .i64 a0, .int .i64 a1, .int .i64 a2] ?_; (with_reducible refine (impl_reckon.calls a0 a1 a2 t556 _ A11.out).mono ?_); rintro e w' ⟨rfl, ⟨nd, rfl⟩⟩; refine ⟨_, rfl, ?_⟩))
    go_ret
    exact ⟨by first | rfl | (simp; done) | (simp [*]; done), by repeat (first | exact Drawn0.refl _ | apply Drawn0.step)⟩

end Go.Proofs.Ytdhijcfohbkpoaa.Q
