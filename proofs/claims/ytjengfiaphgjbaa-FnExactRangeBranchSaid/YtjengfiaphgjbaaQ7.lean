/- The machine's side of this seat's laws: Go functions as Lean functions, and their contracts. By a program of this work over the kit's print. -/
import Derived.Test.YtjengfiaphgjbaaQ0
import Derived.Test.YtjengfiaphgjbaaQ1
import Derived.Test.YtjengfiaphgjbaaQ2
import Derived.Test.YtjengfiaphgjbaaQ3
import Derived.Test.YtjengfiaphgjbaaQ6
namespace Go.Proofs.Ytjengfiaphgjbaa.Q
open Go.RowKit Go.Proofs.YtjengfiaphgjbaaW.PrintWords Go.Proofs.YtjengfiaphgjbaaW.PrintLast Go.Proofs.YtjengfiaphgjbaaW.PrintMore
attribute [local go_sem] max2_int min2_int max_two min_two max_three min_three max_four min_four Go.Proofs.YtjengfiaphgjbaaN.not_i64 Go.Proofs.YtjengfiaphgjbaaN.isSome_setCell   -- for this text's walks alone
set_option linter.unusedVariables false
set_option linter.unusedSimpArgs false

/-! ### spec_RangeBranch: function 4 -/
def spec_RangeBranch.j0 : Nat → Int → Bool → Bool → Int → Int → Int → Int → Int → Int → Int → Int → Option (Int × Int × Int × Int × Int × Int × Int × Int × Bool)
 | 0, _, _, _, _, _, _, _, _, _, _, _ => none
 | k + 1, x0, x3, x33, x218000, x218001, x218002, x218003, x219000, x219001, x219002, x219003 => if x33 = true then (some (1, 0, 0, 0, 1, 0, 0, 0, false)) else ((spec_l2Tidy.f k x218000 x218001 x218002 x218003).bind fun bt226 => ((spec_l2Tidy.f k x219000 x219001 x219002 x219003).bind fun bt230 => ((spec_l2Branch.f k x0 bt226.1 bt226.2.1 bt226.2.2.1 bt226.2.2.2 bt230.1 bt230.2.1 bt230.2.2.1 bt230.2.2.2 x3).bind fun bt234 => (some (bt234.1, bt234.2.1, bt234.2.2.1, bt234.2.2.2.1, bt234.2.2.2.2.1, bt234.2.2.2.2.2.1, bt234.2.2.2.2.2.2.1, bt234.2.2.2.2.2.2.2.1, bt234.2.2.2.2.2.2.2.2)))))
def spec_RangeBranch.f (k : Nat) (a0 : Int) (a1_0 : Int) (a1_1 : Int) (a1_2 : Int) (a1_3 : Int) (a2_0 : Int) (a2_1 : Int) (a2_2 : Int) (a2_3 : Int) (a3 : Bool) : Option (Int × Int × Int × Int × Int × Int × Int × Int × Bool) := (spec_l1Jump.f a0).bind fun t221 => (if t221 = true then ((spec_l2Ok.f a1_0 a1_1 a1_2 a1_3).bind fun t222 => (if t222 = true then ((spec_l2Ok.f a2_0 a2_1 a2_2 a2_3).bind fun t223 => (if t223 = true then ((spec_l2Some.f k a1_0 a1_1 a1_2 a1_3).bind fun t224 => (if t224 = true then ((spec_l2Some.f k a2_0 a2_1 a2_2 a2_3).bind fun t225 => (spec_RangeBranch.j0 k a0 a3 (!t225) a1_0 a1_1 a1_2 a1_3 a2_0 a2_1 a2_2 a2_3)) else (spec_RangeBranch.j0 k a0 a3 true a1_0 a1_1 a1_2 a1_3 a2_0 a2_1 a2_2 a2_3))) else (spec_RangeBranch.j0 k a0 a3 true a1_0 a1_1 a1_2 a1_3 a2_0 a2_1 a2_2 a2_3))) else (spec_RangeBranch.j0 k a0 a3 true a1_0 a1_1 a1_2 a1_3 a2_0 a2_1 a2_2 a2_3))) else (spec_RangeBranch.j0 k a0 a3 true a1_0 a1_1 a1_2 a1_3 a2_0 a2_1 a2_2 a2_3))


def spec_RangeBranch.T3 : Bool × List (List Nat × List Nat) := (true, [([], []), ([], []), ([1], [1]), ([], []), ([3, 2], [3]), ([], []), ([0, 2, 4, 5, 4], [0, 2, 4, 5]), ([6], [6]), ([6], [6]), ([6], [6]), ([7, 6, 0, 1, 2, 3, 4, 5, 6, 7, 8, 9], [7]), ([8, 10, 0, 1, 2, 3, 4, 5, 6, 7, 8, 9, 10], [8]), ([9, 11, 0, 1, 2, 3, 4, 5, 6, 7, 8, 9, 10, 11], [9])])
def spec_RangeBranch.B3 : List Nat := [0, 0, 2, 0, 14, 0, 63, 127, 127, 127, 1023, 2047, 4095]
theorem spec_RangeBranch.tab3 : rtab .any (opsOf Try.f4 3) = spec_RangeBranch.T3 := by kernel_rfl
theorem spec_RangeBranch.bits3 : waitsOk spec_RangeBranch.T3.2 spec_RangeBranch.B3 = true := by kernel_rfl
set_option maxHeartbeats 8000000 in
set_option maxRecDepth 100000 in
theorem spec_RangeBranch.calls (k : Nat) (a0 : Int) (a1_0 : Int) (a1_1 : Int) (a1_2 : Int) (a1_3 : Int) (a2_0 : Int) (a2_1 : Int) (a2_2 : Int) (a2_3 : Int) (a3 : Bool) (r1 : Int) (r2 : Int) (r3 : Int) (r4 : Int) (r5 : Int) (r6 : Int) (r7 : Int) (r8 : Int) (r9 : Bool) (w : World) (h : spec_RangeBranch.f k a0 a1_0 a1_1 a1_2 a1_3 a2_0 a2_1 a2_2 a2_3 a3 = some (r1, r2, r3, r4, r5, r6, r7, r8, r9)) :
  Calls Try.prog 4 #[.int .i64 a0, .agg #[.int .i64 a1_0, .int .i64 a1_1, .int .i64 a1_2, .int .i64 a1_3], .agg #[.int .i64 a2_0, .int .i64 a2_1, .int .i64 a2_2, .int .i64 a2_3], .bool a3] w fun e w' => e = .returned (.tuple #[.agg #[.int .i64 r1, .int .i64 r2, .int .i64 r3, .int .i64 r4], .agg #[.int .i64 r5, .int .i64 r6, .int .i64 r7, .int .i64 r8], .bool r9]) ∧ Below w.heap.size w w' := by
 have hu24 := Try.underlying24
 have HB := Aside0.mk (Below.refl w.heap.size w)
 have H : ((spec_l1Jump.f a0).bind fun t221 => (if t221 = true then ((spec_l2Ok.f a1_0 a1_1 a1_2 a1_3).bind fun t222 => (if t222 = true then ((spec_l2Ok.f a2_0 a2_1 a2_2 a2_3).bind fun t223 => (if t223 = true then ((spec_l2Some.f k a1_0 a1_1 a1_2 a1_3).bind fun t224 => (if t224 = true then ((spec_l2Some.f k a2_0 a2_1 a2_2 a2_3).bind fun t225 => (spec_RangeBranch.j0 k a0 a3 (!t225) a1_0 a1_1 a1_2 a1_3 a2_0 a2_1 a2_2 a2_3)) else (spec_RangeBranch.j0 k a0 a3 true a1_0 a1_1 a1_2 a1_3 a2_0 a2_1 a2_2 a2_3))) else (spec_RangeBranch.j0 k a0 a3 true a1_0 a1_1 a1_2 a1_3 a2_0 a2_1 a2_2 a2_3))) else (spec_RangeBranch.j0 k a0 a3 true a1_0 a1_1 a1_2 a1_3 a2_0 a2_1 a2_2 a2_3))) else (spec_RangeBranch.j0 k a0 a3 true a1_0 a1_1 a1_2 a1_3 a2_0 a2_1 a2_2 a2_3))) = some (r1, r2, r3, r4, r5, r6, r7, r8, r9) := h
 clear h
 have HC5 := Aside0.mk H
 clear H
 go_enter Try.func4, Try.ntmps4
 go_upto_region 1 with (first | ((with_reducible refine gate_dst (N := 5) rfl ?_); refine be 5 #[.int .i64 a1_0, .int .i64 a1_1, .int .i64 a1_2, .int .i64 a1_3] 24 ?_; intro gb217 hg w6 hbox hb; have BK217 := Aside0.mk hbox; have GW217 := zW hg; replace HB := zS hb; have GE217 := GW217; clear hb hbox hg) | ((with_reducible refine gate_dst (N := 6) rfl ?_); refine be 6 #[.int .i64 a2_0, .int .i64 a2_1, .int .i64 a2_2, .int .i64 a2_3] 24 ?_; intro gb218 hg w7 hbox hb; have BK218 := Aside0.mk hbox; have GW218 := zW hg; replace HB := zS hb; have GE218 := GW218; have NB217_218 := zl BK217 hg rfl; have NB218_217 := zg BK217 hg rfl; replace BK217 := zb BK217 hb rfl; clear hb hbox hg) | ((with_reducible refine gate_dst (N := 8) rfl ?_); refine be 8 #[.int .i64 0, .int .i64 0, .int .i64 0, .int .i64 0] 24 ?_; intro gb219 hg w8 hbox hb; have BK219 := Aside0.mk hbox; have GW219 := zW hg; replace HB := zS hb; have GE219 := GW219; have NB217_219 := zl BK217 hg rfl; have NB219_217 := zg BK217 hg rfl; replace BK217 := zb BK217 hb rfl; have NB218_219 := zl BK218 hg rfl; have NB219_218 := zg BK218 hg rfl; replace BK218 := zb BK218 hb rfl; clear hb hbox hg) | ((with_reducible refine gate_dst (N := 9) rfl ?_); refine be 9 #[.int .i64 0, .int .i64 0, .int .i64 0, .int .i64 0] 24 ?_; intro gb220 hg w9 hbox hb; have BK220 := Aside0.mk hbox; have GW220 := zW hg; replace HB := zS hb; have GE220 := GW220; have NB217_220 := zl BK217 hg rfl; have NB220_217 := zg BK217 hg rfl; replace BK217 := zb BK217 hb rfl; have NB218_220 := zl BK218 hg rfl; have NB220_218 := zg BK218 hg rfl; replace BK218 := zb BK218 hb rfl; have NB219_220 := zl BK219 hg rfl; have NB220_219 := zg BK219 hg rfl; replace BK219 := zb BK219 hb rfl; clear hb hbox hg))
 (try simp only [Act.put, List.setIfInBounds_toArray, List.set_cons_zero, List.set_cons_succ])
 go_cut [33] (fun v33 wc => ∃ (kq : Nat) (x33_4 : Bool), v33 = .bool x33_4 ∧ Aside0 (spec_RangeBranch.j0 kq a0 a3 x33_4 a1_0 a1_1 a1_2 a1_3 a2_0 a2_1 a2_2 a2_3 = some (r1, r2, r3, r4, r5, r6, r7, r8, r9)) ∧ Aside0 (kq ≤ k) ∧ Aside0 (wc.heap[gb217]? = some (.cells #[.int .i64 a1_0, .int .i64 a1_1, .int .i64 a1_2, .int .i64 a1_3] 24 (0, 0))) ∧ Aside0 (wc.heap[gb218]? = some (.cells #[.int .i64 a2_0, .int .i64 a2_1, .int .i64 a2_2, .int .i64 a2_3] 24 (0, 0))) ∧ Aside0 (wc.heap[gb219]? = some (.cells #[.int .i64 0, .int .i64 0, .int .i64 0, .int .i64 0] 24 (0, 0))) ∧ Aside0 (wc.heap[gb220]? = some (.cells #[.int .i64 0, .int .i64 0, .int .i64 0, .int .i64 0] 24 (0, 0))) ∧ Aside0 (Below w.heap.size w wc))
 case first =>
  have H := HC5.out
  clear HC5
  replace H := Option.bind_eq_some_iff.mp H
  obtain ⟨t221, A100, H⟩ := H
  try dsimp only at H
  have A10 := Aside0.mk A100
  clear A100
  by_cases c11 : t221 = true
  ·subst c11
   rw [if_pos rfl] at H
   replace H := Option.bind_eq_some_iff.mp H
   obtain ⟨t222, A120, H⟩ := H
   try dsimp only at H
   have A12 := Aside0.mk A120
   clear A120
   by_cases c13 : t222 = true
   ·subst c13
    rw [if_pos rfl] at H
    replace H := Option.bind_eq_some_iff.mp H
    obtain ⟨t223, A140, H⟩ := H
    try dsimp only at H
    have A14 := Aside0.mk A140
    clear A140
    by_cases c15 : t223 = true
    ·subst c15
     rw [if_pos rfl] at H
     replace H := Option.bind_eq_some_iff.mp H
     obtain ⟨t224, A160, H⟩ := H
     try dsimp only at H
     have A16 := Aside0.mk A160
     clear A160
     by_cases c17 : t224 = true
     ·subst c17
      rw [if_pos rfl] at H
      replace H := Option.bind_eq_some_iff.mp H
      obtain ⟨t225, A180, H⟩ := H
      try dsimp only at H
      have A18 := Aside0.mk A180
      clear A180
      have H' := Aside0.mk H
      clear H
      go_wp2_with (first | ((with_reducible refine gate_callee (f := 8) rfl ?_); refine gl 12 Try.func8 #[.int .i64 a0] ?_; (with_reducible refine (spec_l1Jump.calls a0 true _ A10.out).mono ?_); rintro e w' ⟨rfl, ⟨nd, rfl⟩⟩; refine ⟨_, rfl, ?_⟩; have hnb19 := NB217_218.out; have hnc19 := NB218_217.out; have hnb20 := NB217_219.out; have hnc20 := NB219_217.out; have hnb21 := NB217_220.out; have hnc21 := NB220_217.out; obtain ⟨hcz22_0, hcz22_1, hcz22_2, hcz22_3, hfz22_0, hfz22_1, hfz22_2, hfz22_3⟩ := zc4 BK217) | (go_at_call 9; (with_reducible refine (spec_l2Ok.calls a1_0 a1_1 a1_2 a1_3 true _ A12.out).mono ?_); rintro e w23 ⟨rfl, hb⟩; replace BK217 := zb BK217 hb rfl; replace BK218 := zb BK218 hb rfl; replace BK219 := zb BK219 hb rfl; replace BK220 := zb BK220 hb rfl; replace HB := zS hb; try clear hb; have hnb24 := NB218_219.out; have hnc24 := NB219_218.out; have hnb25 := NB218_220.out; have hnc25 := NB220_218.out; obtain ⟨hcz26_0, hcz26_1, hcz26_2, hcz26_3, hfz26_0, hfz26_1, hfz26_2, hfz26_3⟩ := zc4 BK218) | (go_at_call 9; (with_reducible refine (spec_l2Ok.calls a2_0 a2_1 a2_2 a2_3 true _ A14.out).mono ?_); rintro e w27 ⟨rfl, hb⟩; replace BK217 := zb BK217 hb rfl; replace BK218 := zb BK218 hb rfl; replace BK219 := zb BK219 hb rfl; replace BK220 := zb BK220 hb rfl; replace HB := zS hb; try clear hb; obtain ⟨hcz28_0, hcz28_1, hcz28_2, hcz28_3, hfz28_0, hfz28_1, hfz28_2, hfz28_3⟩ := zc4 BK217) | (go_at_call 10; (with_reducible refine (spec_l2Some.calls k a1_0 a1_1 a1_2 a1_3 true _ A16.out).mono ?_); rintro e w29 ⟨rfl, hb⟩; replace BK217 := zb BK217 hb rfl; replace BK218 := zb BK218 hb rfl; replace BK219 := zb BK219 hb rfl; replace BK220 := zb BK220 hb rfl; replace HB := zS hb; try clear hb; obtain ⟨hcz30_0, hcz30_1, hcz30_2, hcz30_3, hfz30_0, hfz30_1, hfz30_2, hfz30_3⟩ := zc4 BK218) | (go_at_call 10; (with_reducible refine (spec_l2Some.calls k a2_0 a2_1 a2_2 a2_3 t225 _ A18.out).mono ?_); rintro e w31 ⟨rfl, hb⟩; replace BK217 := zb BK217 hb rfl; replace BK218 := zb BK218 hb rfl; replace BK219 := zb BK219 hb rfl; replace BK220 := zb BK220 hb rfl; replace HB := zS hb; try clear hb))
      go_meet
      case rel => exact ⟨_, (!t225), (by first | rfl | (simp; done) | (simp [*]; done)), H', ⟨by first | omega | exact Nat.le_refl _⟩, ⟨by exact bq BK217.out⟩, ⟨by exact bq BK218.out⟩, ⟨by exact bq BK219.out⟩, ⟨by exact bq BK220.out⟩, ⟨zB⟩⟩
     ·replace c17 := Bool.eq_false_iff.mpr c17
      subst c17
      rw [if_neg (show ¬ (false = true) by decide)] at H
      have H' := Aside0.mk H
      clear H
      go_wp2_with (first | ((with_reducible refine gate_callee (f := 8) rfl ?_); refine gl 12 Try.func8 #[.int .i64 a0] ?_; (with_reducible refine (spec_l1Jump.calls a0 true _ A10.out).mono ?_); rintro e w' ⟨rfl, ⟨nd, rfl⟩⟩; refine ⟨_, rfl, ?_⟩; have hnb32 := NB217_218.out; have hnc32 := NB218_217.out; have hnb33 := NB217_219.out; have hnc33 := NB219_217.out; have hnb34 := NB217_220.out; have hnc34 := NB220_217.out; obtain ⟨hcz35_0, hcz35_1, hcz35_2, hcz35_3, hfz35_0, hfz35_1, hfz35_2, hfz35_3⟩ := zc4 BK217) | (go_at_call 9; (with_reducible refine (spec_l2Ok.calls a1_0 a1_1 a1_2 a1_3 true _ A12.out).mono ?_); rintro e w36 ⟨rfl, hb⟩; replace BK217 := zb BK217 hb rfl; replace BK218 := zb BK218 hb rfl; replace BK219 := zb BK219 hb rfl; replace BK220 := zb BK220 hb rfl; replace HB := zS hb; try clear hb; have hnb37 := NB218_219.out; have hnc37 := NB219_218.out; have hnb38 := NB218_220.out; have hnc38 := NB220_218.out; obtain ⟨hcz39_0, hcz39_1, hcz39_2, hcz39_3, hfz39_0, hfz39_1, hfz39_2, hfz39_3⟩ := zc4 BK218) | (go_at_call 9; (with_reducible refine (spec_l2Ok.calls a2_0 a2_1 a2_2 a2_3 true _ A14.out).mono ?_); rintro e w40 ⟨rfl, hb⟩; replace BK217 := zb BK217 hb rfl; replace BK218 := zb BK218 hb rfl; replace BK219 := zb BK219 hb rfl; replace BK220 := zb BK220 hb rfl; replace HB := zS hb; try clear hb; obtain ⟨hcz41_0, hcz41_1, hcz41_2, hcz41_3, hfz41_0, hfz41_1, hfz41_2, hfz41_3⟩ := zc4 BK217) | (go_at_call 10; (with_reducible refine (spec_l2Some.calls k a1_0 a1_1 a1_2 a1_3 false _ A16.out).mono ?_); rintro e w42 ⟨rfl, hb⟩; replace BK217 := zb BK217 hb rfl; replace BK218 := zb BK218 hb rfl; replace BK219 := zb BK219 hb rfl; replace BK220 := zb BK220 hb rfl; replace HB := zS hb; try clear hb))
      go_meet
      case rel => exact ⟨_, (true), (by first | rfl | (simp; done) | (simp [*]; done)), H', ⟨by first | omega | exact Nat.le_refl _⟩, ⟨by exact bq BK217.out⟩, ⟨by exact bq BK218.out⟩, ⟨by exact bq BK219.out⟩, ⟨by exact bq BK220.out⟩, ⟨zB⟩⟩
    ·replace c15 := Bool.eq_false_iff.mpr c15
     subst c15
     rw [if_neg (show ¬ (false = true) by decide)] at H
     have H' := Aside0.mk H
     clear H
     go_wp2_with (first | ((with_reducible refine gate_callee (f := 8) rfl ?_); refine gl 12 Try.func8 #[.int .i64 a0] ?_; (with_reducible refine (spec_l1Jump.calls a0 true _ A10.out).mono ?_); rintro e w' ⟨rfl, ⟨nd, rfl⟩⟩; refine ⟨_, rfl, ?_⟩; have hnb43 := NB217_218.out; have hnc43 := NB218_217.out; have hnb44 := NB217_219.out; have hnc44 := NB219_217.out; have hnb45 := NB217_220.out; have hnc45 := NB220_217.out; obtain ⟨hcz46_0, hcz46_1, hcz46_2, hcz46_3, hfz46_0, hfz46_1, hfz46_2, hfz46_3⟩ := zc4 BK217) | (go_at_call 9; (with_reducible refine (spec_l2Ok.calls a1_0 a1_1 a1_2 a1_3 true _ A12.out).mono ?_); rintro e w47 ⟨rfl, hb⟩; replace BK217 := zb BK217 hb rfl; replace BK218 := zb BK218 hb rfl; replace BK219 := zb BK219 hb rfl; replace BK220 := zb BK220 hb rfl; replace HB := zS hb; try clear hb; have hnb48 := NB218_219.out; have hnc48 := NB219_218.out; have hnb49 := NB218_220.out; have hnc49 := NB220_218.out; obtain ⟨hcz50_0, hcz50_1, hcz50_2, hcz50_3, hfz50_0, hfz50_1, hfz50_2, hfz50_3⟩ := zc4 BK218) | (go_at_call 9; (with_reducible refine (spec_l2Ok.calls a2_0 a2_1 a2_2 a2_3 false _ A14.out).mono ?_); rintro e w51 ⟨rfl, hb⟩; replace BK217 := zb BK217 hb rfl; replace BK218 := zb BK218 hb rfl; replace BK219 := zb BK219 hb rfl; replace BK220 := zb BK220 hb rfl; replace HB := zS hb; try clear hb))
     go_meet
     case rel => exact ⟨_, (true), (by first | rfl | (simp; done) | (simp [*]; done)), H', ⟨by first | omega | exact Nat.le_refl _⟩, ⟨by exact bq BK217.out⟩, ⟨by exact bq BK218.out⟩, ⟨by exact bq BK219.out⟩, ⟨by exact bq BK220.out⟩, ⟨zB⟩⟩
   ·replace c13 := Bool.eq_false_iff.mpr c13
    subst c13
    rw [if_neg (show ¬ (false = true) by decide)] at H
    have H' := Aside0.mk H
    clear H
    go_wp2_with (first | ((with_reducible refine gate_callee (f := 8) rfl ?_); refine gl 12 Try.func8 #[.int .i64 a0] ?_; (with_reducible refine (spec_l1Jump.calls a0 true _ A10.out).mono ?_); rintro e w' ⟨rfl, ⟨nd, rfl⟩⟩; refine ⟨_, rfl, ?_⟩; have hnb52 := NB217_218.out; have hnc52 := NB218_217.out; have hnb53 := NB217_219.out; have hnc53 := NB219_217.out; have hnb54 := NB217_220.out; have hnc54 := NB220_217.out; obtain ⟨hcz55_0, hcz55_1, hcz55_2, hcz55_3, hfz55_0, hfz55_1, hfz55_2, hfz55_3⟩ := zc4 BK217) | (go_at_call 9; (with_reducible refine (spec_l2Ok.calls a1_0 a1_1 a1_2 a1_3 false _ A12.out).mono ?_); rintro e w56 ⟨rfl, hb⟩; replace BK217 := zb BK217 hb rfl; replace BK218 := zb BK218 hb rfl; replace BK219 := zb BK219 hb rfl; replace BK220 := zb BK220 hb rfl; replace HB := zS hb; try clear hb))
    go_meet
    case rel => exact ⟨_, (true), (by first | rfl | (simp; done) | (simp [*]; done)), H', ⟨by first | omega | exact Nat.le_refl _⟩, ⟨by exact bq BK217.out⟩, ⟨by exact bq BK218.out⟩, ⟨by exact bq BK219.out⟩, ⟨by exact bq BK220.out⟩, ⟨zB⟩⟩
  ·replace c11 := Bool.eq_false_iff.mpr c11
   subst c11
   rw [if_neg (show ¬ (false = true) by decide)] at H
   have H' := Aside0.mk H
   clear H
   go_wp2_with (first | ((with_reducible refine gate_callee (f := 8) rfl ?_); refine gl 12 Try.func8 #[.int .i64 a0] ?_; (with_reducible refine (spec_l1Jump.calls a0 false _ A10.out).mono ?_); rintro e w' ⟨rfl, ⟨nd, rfl⟩⟩; refine ⟨_, rfl, ?_⟩))
   go_meet
   case rel => exact ⟨_, (true), (by first | rfl | (simp; done) | (simp [*]; done)), H', ⟨by first | omega | exact Nat.le_refl _⟩, ⟨by exact bq BK217.out⟩, ⟨by exact bq BK218.out⟩, ⟨by exact bq BK219.out⟩, ⟨by exact bq BK220.out⟩, ⟨zB⟩⟩
 case rest =>
  clear HC5
  try clear c1
  try clear c2
  try clear p2
  try clear c3
  try clear c4
  try clear c5
  try clear c8
  try clear c11
  try clear c13
  try clear c15
  try clear c17
  try clear c19
  try clear c20
  try clear c21
  try clear c24
  try clear c25
  try clear c32
  try clear c33
  try clear c34
  try clear c37
  try clear c38
  try clear c43
  try clear c44
  try clear c45
  try clear c48
  try clear c49
  try clear c52
  try clear c53
  try clear c54
  try clear hcz22_0 hcz22_1 hcz22_2 hcz22_3 hfz22_0 hfz22_1 hfz22_2 hfz22_3
  try clear hcz26_0 hcz26_1 hcz26_2 hcz26_3 hfz26_0 hfz26_1 hfz26_2 hfz26_3
  try clear hcz28_0 hcz28_1 hcz28_2 hcz28_3 hfz28_0 hfz28_1 hfz28_2 hfz28_3
  try clear hcz30_0 hcz30_1 hcz30_2 hcz30_3 hfz30_0 hfz30_1 hfz30_2 hfz30_3
  try clear hcz35_0 hcz35_1 hcz35_2 hcz35_3 hfz35_0 hfz35_1 hfz35_2 hfz35_3
  try clear hcz39_0 hcz39_1 hcz39_2 hcz39_3 hfz39_0 hfz39_1 hfz39_2 hfz39_3
  try clear hcz41_0 hcz41_1 hcz41_2 hcz41_3 hfz41_0 hfz41_1 hfz41_2 hfz41_3
  try clear hcz46_0 hcz46_1 hcz46_2 hcz46_3 hfz46_0 hfz46_1 hfz46_2 hfz46_3
  try clear hcz50_0 hcz50_1 hcz50_2 hcz50_3 hfz50_0 hfz50_1 hfz50_2 hfz50_3
  try clear hcz55_0 hcz55_1 hcz55_2 hcz55_3 hfz55_0 hfz55_1 hfz55_2 hfz55_3
  obtain ⟨kq, x33_4, rfl, HA, HJ4, BK217, BK218, BK219, BK220, HB⟩ := hcut
  cases kq with
  | zero => exact absurd HA.out (by simp [spec_RangeBranch.j0])
  | succ kj4 =>
   have H := HA.out
   clear HA
   simp only [spec_RangeBranch.j0] at H
   by_cases c57 : x33_4 = true
   ·subst c57
    rw [if_pos rfl] at H
    simp only [Option.some.injEq, Prod.mk.injEq] at H
    obtain ⟨rfl, rfl, rfl, rfl, rfl, rfl, rfl, rfl, rfl⟩ := H
    have hnb58 := NB219_217.out
    have hnc58 := NB217_219.out
    have hnb59 := NB219_218.out
    have hnc59 := NB218_219.out
    have hnb60 := NB219_220.out
    have hnc60 := NB220_219.out
    obtain ⟨hcz61_0, hcz61_1, hcz61_2, hcz61_3, hfz61_0, hfz61_1, hfz61_2, hfz61_3⟩ := zc4 BK219
    have hnb62 := NB220_217.out
    have hnc62 := NB217_220.out
    have hnb63 := NB220_218.out
    have hnc63 := NB218_220.out
    obtain ⟨hcz64_0, hcz64_1, hcz64_2, hcz64_3, hfz64_0, hfz64_1, hfz64_2, hfz64_3⟩ := zc4 BK220
    go_wp2
    refine bodyPost_ret (results_list (rs := [.cell 8 24, .cell 9 24, .tmp 10]) rfl (by simp) (.cell gb219 24 #[.int .i64 1, .int .i64 0, .int .i64 0, .int .i64 0] (0, 0) _ rfl (by refine fq ?_ NB219_220.out; refine fq ?_ NB219_220.out; refine fq ?_ NB219_220.out; refine fq ?_ NB219_220.out; refine bq ?_; refine blk_put (cs := #[.int .i64 1, .int .i64 0, .int .i64 0, .int .i64 0]) ?_ 3 _ rfl; refine bq ?_; refine blk_put (cs := #[.int .i64 1, .int .i64 0, .int .i64 0, .int .i64 0]) ?_ 2 _ rfl; refine bq ?_; refine blk_put (cs := #[.int .i64 1, .int .i64 0, .int .i64 0, .int .i64 0]) ?_ 1 _ rfl; refine bq ?_; refine blk_put (cs := #[.int .i64 0, .int .i64 0, .int .i64 0, .int .i64 0]) ?_ 0 _ rfl; exact bq BK219.out) Try.underlying24 rfl (by kernel_rfl) (.cell gb220 24 #[.int .i64 1, .int .i64 0, .int .i64 0, .int .i64 0] (0, 0) _ rfl (by refine bq ?_; refine blk_put (cs := #[.int .i64 1, .int .i64 0, .int .i64 0, .int .i64 0]) ?_ 3 _ rfl; refine bq ?_; refine blk_put (cs := #[.int .i64 1, .int .i64 0, .int .i64 0, .int .i64 0]) ?_ 2 _ rfl; refine bq ?_; refine blk_put (cs := #[.int .i64 1, .int .i64 0, .int .i64 0, .int .i64 0]) ?_ 1 _ rfl; refine bq ?_; refine blk_put (cs := #[.int .i64 0, .int .i64 0, .int .i64 0, .int .i64 0]) ?_ 0 _ rfl; refine fq ?_ NB220_219.out; refine fq ?_ NB220_219.out; refine fq ?_ NB220_219.out; refine fq ?_ NB220_219.out; exact bq BK220.out) Try.underlying24 rfl (by kernel_rfl) (.tmp .nil)))) rfl ?_
    exact ⟨zR, zB⟩
   ·replace c57 := Bool.eq_false_iff.mpr c57
    subst c57
    rw [if_neg (show ¬ (false = true) by decide)] at H
    replace H := Option.bind_eq_some_iff.mp H
    obtain ⟨⟨t226, t227, t228, t229⟩, A650, H⟩ := H
    try dsimp only at H
    have A65 := Aside0.mk A650
    clear A650
    replace H := Option.bind_eq_some_iff.mp H
    obtain ⟨⟨t230, t231, t232, t233⟩, A660, H⟩ := H
    try dsimp only at H
    have A66 := Aside0.mk A660
    clear A660
    replace H := Option.bind_eq_some_iff.mp H
    obtain ⟨⟨t234, t235, t236, t237, t238, t239, t240, t241, t242⟩, A670, H⟩ := H
    try dsimp only at H
    have A67 := Aside0.mk A670
    clear A670
    simp only [Option.some.injEq, Prod.mk.injEq] at H
    obtain ⟨rfl, rfl, rfl, rfl, rfl, rfl, rfl, rfl, rfl⟩ := H
    try go_wp2
    replace BK217 := Aside0.mk (blk_drew BK217.out)
    replace BK218 := Aside0.mk (blk_drew BK218.out)
    replace BK219 := Aside0.mk (blk_drew BK219.out)
    replace BK220 := Aside0.mk (blk_drew BK220.out)
    replace HB := Aside0.mk (below_drew1 HB.out)
    refine start_ (n := 13) (S := fun w' => w'.cell? ⟨gb217, 0, none⟩ = some (.int .i64 a1_0) ∧ w'.cell? ⟨gb217, 1, none⟩ = some (.int .i64 a1_1) ∧ w'.cell? ⟨gb217, 2, none⟩ = some (.int .i64 a1_2) ∧ w'.cell? ⟨gb217, 3, none⟩ = some (.int .i64 a1_3) ∧ w'.cell? ⟨gb218, 0, none⟩ = some (.int .i64 a2_0) ∧ w'.cell? ⟨gb218, 1, none⟩ = some (.int .i64 a2_1) ∧ w'.cell? ⟨gb218, 2, none⟩ = some (.int .i64 a2_2) ∧ w'.cell? ⟨gb218, 3, none⟩ = some (.int .i64 a2_3)) (ds := []) #[false, false, false, false, false, false, false, false, false, false, false, false, false] (by kernel_rfl) rfl rfl ⟨(blk_cell BK217.out 0).trans rfl, (blk_cell BK217.out 1).trans rfl, (blk_cell BK217.out 2).trans rfl, (blk_cell BK217.out 3).trans rfl, (blk_cell BK218.out 0).trans rfl, (blk_cell BK218.out 1).trans rfl, (blk_cell BK218.out 2).trans rfl, (blk_cell BK218.out 3).trans rfl⟩ (fun hHeld => ?_); refine with_tabW spec_RangeBranch.tab3 spec_RangeBranch.bits3 (fun HT_ HW_ => ?_)
    generalize wc.drew = w68 at BK217 BK218 BK219 BK220 HB hHeld ⊢
    refine pz 0 36 ?_
    refine pz 5 41 ?_
    refine tz 1 37 ?_
    refine tz 3 39 ?_
    refine oz 2 38 fun K hK => ?_
    refine gz Try.func12 #[.agg #[.int .i64 a1_0, .int .i64 a1_1, .int .i64 a1_2, .int .i64 a1_3]] ?_
    with_reducible refine (spec_l2Tidy.calls kj4 a1_0 a1_1 a1_2 a1_3 t226 t227 t228 t229 _ A65.out).mono ?_
    rintro e w69 ⟨rfl, hb⟩
    refine ⟨_, rfl, ?_⟩
    replace BK217 := zb BK217 hb rfl
    replace BK218 := zb BK218 hb rfl
    replace BK219 := zb BK219 hb rfl
    replace BK220 := zb BK220 hb rfl
    replace HB := zS hb
    try clear hb
    refine hK.out _ _ ⟨(blk_cell BK217.out 0).trans rfl, (blk_cell BK217.out 1).trans rfl, (blk_cell BK217.out 2).trans rfl, (blk_cell BK217.out 3).trans rfl, (blk_cell BK218.out 0).trans rfl, (blk_cell BK218.out 1).trans rfl, (blk_cell BK218.out 2).trans rfl, (blk_cell BK218.out 3).trans rfl⟩ (fun hHeld => ?_)
    clear hK K
    refine nz ?_
    refine oz 4 40 fun K hK => ?_
    refine gz Try.func12 #[.agg #[.int .i64 a2_0, .int .i64 a2_1, .int .i64 a2_2, .int .i64 a2_3]] ?_
    with_reducible refine (spec_l2Tidy.calls kj4 a2_0 a2_1 a2_2 a2_3 t230 t231 t232 t233 _ A66.out).mono ?_
    rintro e w70 ⟨rfl, hb⟩
    refine ⟨_, rfl, ?_⟩
    replace BK217 := zb BK217 hb rfl
    replace BK218 := zb BK218 hb rfl
    replace BK219 := zb BK219 hb rfl
    replace BK220 := zb BK220 hb rfl
    replace HB := zS hb
    try clear hb
    refine hK.out _ _ ⟨(blk_cell BK217.out 0).trans rfl, (blk_cell BK217.out 1).trans rfl, (blk_cell BK217.out 2).trans rfl, (blk_cell BK217.out 3).trans rfl, (blk_cell BK218.out 0).trans rfl, (blk_cell BK218.out 1).trans rfl, (blk_cell BK218.out 2).trans rfl, (blk_cell BK218.out 3).trans rfl⟩ (fun hHeld => ?_)
    clear hK K
    refine nz ?_
    refine oz 6 42 fun K hK => ?_
    refine gz Try.func11 #[.int .i64 a0, .agg #[.int .i64 t226, .int .i64 t227, .int .i64 t228, .int .i64 t229], .agg #[.int .i64 t230, .int .i64 t231, .int .i64 t232, .int .i64 t233], .bool a3] ?_
    with_reducible refine (spec_l2Branch.calls kj4 a0 t226 t227 t228 t229 t230 t231 t232 t233 a3 t234 t235 t236 t237 t238 t239 t240 t241 t242 _ A67.out).mono ?_
    rintro e w71 ⟨rfl, hb⟩
    refine ⟨_, rfl, ?_⟩
    replace BK217 := zb BK217 hb rfl
    replace BK218 := zb BK218 hb rfl
    replace BK219 := zb BK219 hb rfl
    replace BK220 := zb BK220 hb rfl
    replace HB := zS hb
    try clear hb
    refine hK.out _ _ ⟨(blk_cell BK217.out 0).trans rfl, (blk_cell BK217.out 1).trans rfl, (blk_cell BK217.out 2).trans rfl, (blk_cell BK217.out 3).trans rfl, (blk_cell BK218.out 0).trans rfl, (blk_cell BK218.out 1).trans rfl, (blk_cell BK218.out 2).trans rfl, (blk_cell BK218.out 3).trans rfl⟩ (fun hHeld => ?_)
    clear hK K
    refine nz ?_
    refine pz 7 43 ?_
    refine pz 8 44 ?_
    refine pz 9 45 ?_
    refine oN 10 fun K hK => ?_
    have hs72 : w71.cell? ⟨gb219, 0, none⟩ = some (.int .i64 0) := (blk_cell BK219.out 0).trans rfl
    have hfs72 := blk_frozen BK219.out 0
    have hns72_0 := NB217_219.out
    have hns72_1 := NB218_219.out
    have hns72_3 := NB220_219.out
    have hms72_0 := NB219_217.out
    have hms72_1 := NB219_218.out
    have hms72_3 := NB219_220.out
    have hs73 : w71.cell? ⟨gb219, 1, none⟩ = some (.int .i64 0) := (blk_cell BK219.out 1).trans rfl
    have hfs73 := blk_frozen BK219.out 1
    have hns73_0 := NB217_219.out
    have hns73_1 := NB218_219.out
    have hns73_3 := NB220_219.out
    have hms73_0 := NB219_217.out
    have hms73_1 := NB219_218.out
    have hms73_3 := NB219_220.out
    have hs74 : w71.cell? ⟨gb219, 2, none⟩ = some (.int .i64 0) := (blk_cell BK219.out 2).trans rfl
    have hfs74 := blk_frozen BK219.out 2
    have hns74_0 := NB217_219.out
    have hns74_1 := NB218_219.out
    have hns74_3 := NB220_219.out
    have hms74_0 := NB219_217.out
    have hms74_1 := NB219_218.out
    have hms74_3 := NB219_220.out
    have hs75 : w71.cell? ⟨gb219, 3, none⟩ = some (.int .i64 0) := (blk_cell BK219.out 3).trans rfl
    have hfs75 := blk_frozen BK219.out 3
    have hns75_0 := NB217_219.out
    have hns75_1 := NB218_219.out
    have hns75_3 := NB220_219.out
    have hms75_0 := NB219_217.out
    have hms75_1 := NB219_218.out
    have hms75_3 := NB219_220.out
    refine skip_ (w1 := ?_) (by rfl) rfl ?_ ?_
    rotate_left
    ·go_simp
     rfl
    refine hK.out _ _ ⟨((cell_far (p := ⟨gb219, _, none⟩) NB217_219.out _).trans (((cell_far (p := ⟨gb219, _, none⟩) NB217_219.out _).trans (((cell_far (p := ⟨gb219, _, none⟩) NB217_219.out _).trans (((cell_far (p := ⟨gb219, _, none⟩) NB217_219.out _).trans (hHeld.1)))))))), ((cell_far (p := ⟨gb219, _, none⟩) NB217_219.out _).trans (((cell_far (p := ⟨gb219, _, none⟩) NB217_219.out _).trans (((cell_far (p := ⟨gb219, _, none⟩) NB217_219.out _).trans (((cell_far (p := ⟨gb219, _, none⟩) NB217_219.out _).trans (hHeld.2.1)))))))), ((cell_far (p := ⟨gb219, _, none⟩) NB217_219.out _).trans (((cell_far (p := ⟨gb219, _, none⟩) NB217_219.out _).trans (((cell_far (p := ⟨gb219, _, none⟩) NB217_219.out _).trans (((cell_far (p := ⟨gb219, _, none⟩) NB217_219.out _).trans (hHeld.2.2.1)))))))), ((cell_far (p := ⟨gb219, _, none⟩) NB217_219.out _).trans (((cell_far (p := ⟨gb219, _, none⟩) NB217_219.out _).trans (((cell_far (p := ⟨gb219, _, none⟩) NB217_219.out _).trans (((cell_far (p := ⟨gb219, _, none⟩) NB217_219.out _).trans (hHeld.2.2.2.1)))))))), ((cell_far (p := ⟨gb219, _, none⟩) NB218_219.out _).trans (((cell_far (p := ⟨gb219, _, none⟩) NB218_219.out _).trans (((cell_far (p := ⟨gb219, _, none⟩) NB218_219.out _).trans (((cell_far (p := ⟨gb219, _, none⟩) NB218_219.out _).trans (hHeld.2.2.2.2.1)))))))), ((cell_far (p := ⟨gb219, _, none⟩) NB218_219.out _).trans (((cell_far (p := ⟨gb219, _, none⟩) NB218_219.out _).trans (((cell_far (p := ⟨gb219, _, none⟩) NB218_219.out _).trans (((cell_far (p := ⟨gb219, _, none⟩) NB218_219.out _).trans (hHeld.2.2.2.2.2.1)))))))), ((cell_far (p := ⟨gb219, _, none⟩) NB218_219.out _).trans (((cell_far (p := ⟨gb219, _, none⟩) NB218_219.out _).trans (((cell_far (p := ⟨gb219, _, none⟩) NB218_219.out _).trans (((cell_far (p := ⟨gb219, _, none⟩) NB218_219.out _).trans (hHeld.2.2.2.2.2.2.1)))))))), ((cell_far (p := ⟨gb219, _, none⟩) NB218_219.out _).trans (((cell_far (p := ⟨gb219, _, none⟩) NB218_219.out _).trans (((cell_far (p := ⟨gb219, _, none⟩) NB218_219.out _).trans (((cell_far (p := ⟨gb219, _, none⟩) NB218_219.out _).trans (hHeld.2.2.2.2.2.2.2))))))))⟩ (fun hHeld => ?_)
    clear hK K
    refine oN 11 fun K hK => ?_
    have hs76 : w71.cell? ⟨gb220, 0, none⟩ = some (.int .i64 0) := (blk_cell BK220.out 0).trans rfl
    have hfs76 := blk_frozen BK220.out 0
    have hns76_0 := NB217_220.out
    have hns76_1 := NB218_220.out
    have hns76_2 := NB219_220.out
    have hms76_0 := NB220_217.out
    have hms76_1 := NB220_218.out
    have hms76_2 := NB220_219.out
    have hs77 : w71.cell? ⟨gb220, 1, none⟩ = some (.int .i64 0) := (blk_cell BK220.out 1).trans rfl
    have hfs77 := blk_frozen BK220.out 1
    have hns77_0 := NB217_220.out
    have hns77_1 := NB218_220.out
    have hns77_2 := NB219_220.out
    have hms77_0 := NB220_217.out
    have hms77_1 := NB220_218.out
    have hms77_2 := NB220_219.out
    have hs78 : w71.cell? ⟨gb220, 2, none⟩ = some (.int .i64 0) := (blk_cell BK220.out 2).trans rfl
    have hfs78 := blk_frozen BK220.out 2
    have hns78_0 := NB217_220.out
    have hns78_1 := NB218_220.out
    have hns78_2 := NB219_220.out
    have hms78_0 := NB220_217.out
    have hms78_1 := NB220_218.out
    have hms78_2 := NB220_219.out
    have hs79 : w71.cell? ⟨gb220, 3, none⟩ = some (.int .i64 0) := (blk_cell BK220.out 3).trans rfl
    have hfs79 := blk_frozen BK220.out 3
    have hns79_0 := NB217_220.out
    have hns79_1 := NB218_220.out
    have hns79_2 := NB219_220.out
    have hms79_0 := NB220_217.out
    have hms79_1 := NB220_218.out
    have hms79_2 := NB220_219.out
    refine skip_ (w1 := ?_) (by rfl) rfl ?_ ?_
    rotate_left
    ·go_simp
     rfl
    refine hK.out _ _ ⟨((cell_far (p := ⟨gb220, _, none⟩) NB217_220.out _).trans (((cell_far (p := ⟨gb220, _, none⟩) NB217_220.out _).trans (((cell_far (p := ⟨gb220, _, none⟩) NB217_220.out _).trans (((cell_far (p := ⟨gb220, _, none⟩) NB217_220.out _).trans (hHeld.1)))))))), ((cell_far (p := ⟨gb220, _, none⟩) NB217_220.out _).trans (((cell_far (p := ⟨gb220, _, none⟩) NB217_220.out _).trans (((cell_far (p := ⟨gb220, _, none⟩) NB217_220.out _).trans (((cell_far (p := ⟨gb220, _, none⟩) NB217_220.out _).trans (hHeld.2.1)))))))), ((cell_far (p := ⟨gb220, _, none⟩) NB217_220.out _).trans (((cell_far (p := ⟨gb220, _, none⟩) NB217_220.out _).trans (((cell_far (p := ⟨gb220, _, none⟩) NB217_220.out _).trans (((cell_far (p := ⟨gb220, _, none⟩) NB217_220.out _).trans (hHeld.2.2.1)))))))), ((cell_far (p := ⟨gb220, _, none⟩) NB217_220.out _).trans (((cell_far (p := ⟨gb220, _, none⟩) NB217_220.out _).trans (((cell_far (p := ⟨gb220, _, none⟩) NB217_220.out _).trans (((cell_far (p := ⟨gb220, _, none⟩) NB217_220.out _).trans (hHeld.2.2.2.1)))))))), ((cell_far (p := ⟨gb220, _, none⟩) NB218_220.out _).trans (((cell_far (p := ⟨gb220, _, none⟩) NB218_220.out _).trans (((cell_far (p := ⟨gb220, _, none⟩) NB218_220.out _).trans (((cell_far (p := ⟨gb220, _, none⟩) NB218_220.out _).trans (hHeld.2.2.2.2.1)))))))), ((cell_far (p := ⟨gb220, _, none⟩) NB218_220.out _).trans (((cell_far (p := ⟨gb220, _, none⟩) NB218_220.out _).trans (((cell_far (p := ⟨gb220, _, none⟩) NB218_220.out _).trans (((cell_far (p := ⟨gb220, _, none⟩) NB218_220.out _).trans (hHeld.2.2.2.2.2.1)))))))), ((cell_far (p := ⟨gb220, _, none⟩) NB218_220.out _).trans (((cell_far (p := ⟨gb220, _, none⟩) NB218_220.out _).trans (((cell_far (p := ⟨gb220, _, none⟩) NB218_220.out _).trans (((cell_far (p := ⟨gb220, _, none⟩) NB218_220.out _).trans (hHeld.2.2.2.2.2.2.1)))))))), ((cell_far (p := ⟨gb220, _, none⟩) NB218_220.out _).trans (((cell_far (p := ⟨gb220, _, none⟩) NB218_220.out _).trans (((cell_far (p := ⟨gb220, _, none⟩) NB218_220.out _).trans (((cell_far (p := ⟨gb220, _, none⟩) NB218_220.out _).trans (hHeld.2.2.2.2.2.2.2))))))))⟩ (fun hHeld => ?_)
    clear hK K
    refine pz 12 10 ?_
    refine done_ (done_of HT_.out (by kernel_rfl)) ?_
    try go_wp2
    refine bodyPost_ret (results_list (rs := [.cell 8 24, .cell 9 24, .tmp 10]) rfl (by simp) (.cell gb219 24 #[.int .i64 t234, .int .i64 t235, .int .i64 t236, .int .i64 t237] (0, 0) _ rfl (by refine fq ?_ NB219_220.out; refine fq ?_ NB219_220.out; refine fq ?_ NB219_220.out; refine fq ?_ NB219_220.out; refine bq ?_; refine blk_put (cs := #[.int .i64 t234, .int .i64 t235, .int .i64 t236, .int .i64 0]) ?_ 3 _ rfl; refine bq ?_; refine blk_put (cs := #[.int .i64 t234, .int .i64 t235, .int .i64 0, .int .i64 0]) ?_ 2 _ rfl; refine bq ?_; refine blk_put (cs := #[.int .i64 t234, .int .i64 0, .int .i64 0, .int .i64 0]) ?_ 1 _ rfl; refine bq ?_; refine blk_put (cs := #[.int .i64 0, .int .i64 0, .int .i64 0, .int .i64 0]) ?_ 0 _ rfl; exact bq BK219.out) Try.underlying24 rfl (by kernel_rfl) (.cell gb220 24 #[.int .i64 t238, .int .i64 t239, .int .i64 t240, .int .i64 t241] (0, 0) _ rfl (by refine bq ?_; refine blk_put (cs := #[.int .i64 t238, .int .i64 t239, .int .i64 t240, .int .i64 0]) ?_ 3 _ rfl; refine bq ?_; refine blk_put (cs := #[.int .i64 t238, .int .i64 t239, .int .i64 0, .int .i64 0]) ?_ 2 _ rfl; refine bq ?_; refine blk_put (cs := #[.int .i64 t238, .int .i64 0, .int .i64 0, .int .i64 0]) ?_ 1 _ rfl; refine bq ?_; refine blk_put (cs := #[.int .i64 0, .int .i64 0, .int .i64 0, .int .i64 0]) ?_ 0 _ rfl; refine fq ?_ NB220_219.out; refine fq ?_ NB220_219.out; refine fq ?_ NB220_219.out; refine fq ?_ NB220_219.out; exact bq BK220.out) Try.underlying24 rfl (by kernel_rfl) (.tmp .nil)))) rfl ?_
    exact ⟨zR, zB⟩

/-! ### laws_toRange: function 5 -/
def laws_toRange.f (a0_0 : Int) (a0_1 : Int) (a0_2 : Int) (a0_3 : Int) : Option (Int × Int × Int × Int) := some (a0_0, a0_1, a0_2, a0_3)
set_option maxHeartbeats 8000000 in
set_option maxRecDepth 100000 in
theorem laws_toRange.calls (a0_0 : Int) (a0_1 : Int) (a0_2 : Int) (a0_3 : Int) (r1 : Int) (r2 : Int) (r3 : Int) (r4 : Int) (w : World) (h : laws_toRange.f a0_0 a0_1 a0_2 a0_3 = some (r1, r2, r3, r4)) :
  Calls Try.prog 5 #[.agg #[.int .i64 a0_0, .int .i64 a0_1, .int .i64 a0_2, .int .i64 a0_3]] w fun e w' => e = .returned (.agg #[.int .i64 r1, .int .i64 r2, .int .i64 r3, .int .i64 r4]) ∧ Below w.heap.size w w' := by
 have hu23 := Try.underlying23
 have hu24 := Try.underlying24
 have HB := Aside0.mk (Below.refl w.heap.size w)
 have H : (some (a0_0, a0_1, a0_2, a0_3)) = some (r1, r2, r3, r4) := h
 clear h
 simp only [Option.some.injEq, Prod.mk.injEq] at H
 obtain ⟨rfl, rfl, rfl, rfl⟩ := H
 go_enter Try.func5, Try.ntmps5
 go_wp2_with (first | ((with_reducible refine gate_dst (N := 1) rfl ?_); refine be 1 #[.int .i64 a0_0, .int .i64 a0_1, .int .i64 a0_2, .int .i64 a0_3] 23 ?_; intro gb243 hg w2 hbox hb; have BK243 := Aside0.mk hbox; have GW243 := zW hg; replace HB := zS hb; have GE243 := GW243; clear hb hbox hg) | ((with_reducible refine gate_dst (N := 2) rfl ?_); refine be 2 #[.int .i64 0, .int .i64 0, .int .i64 0, .int .i64 0] 24 ?_; intro gb244 hg w3 hbox hb; have BK244 := Aside0.mk hbox; have GW244 := zW hg; replace HB := zS hb; have GE244 := GW244; have NB243_244 := zl BK243 hg rfl; have NB244_243 := zg BK243 hg rfl; replace BK243 := zb BK243 hb rfl; clear hb hbox hg) | ((with_reducible refine gate_dst (N := 3) rfl ?_); refine be 3 #[.int .i64 0, .int .i64 0, .int .i64 0, .int .i64 0] 24 ?_; intro gb245 hg w4 hbox hb; have BK245 := Aside0.mk hbox; have GW245 := zW hg; replace HB := zS hb; have GE245 := GW245; have NB243_245 := zl BK243 hg rfl; have NB245_243 := zg BK243 hg rfl; replace BK243 := zb BK243 hb rfl; have NB244_245 := zl BK244 hg rfl; have NB245_244 := zg BK244 hg rfl; replace BK244 := zb BK244 hb rfl; clear hb hbox hg; have hnb5 := NB243_244.out; have hnc5 := NB244_243.out; have hnb6 := NB243_245.out; have hnc6 := NB245_243.out; obtain ⟨hcz7_0, hcz7_1, hcz7_2, hcz7_3, hfz7_0, hfz7_1, hfz7_2, hfz7_3⟩ := zc4 BK243; have hnb8 := NB245_244.out; have hnc8 := NB244_245.out; obtain ⟨hcz9_0, hcz9_1, hcz9_2, hcz9_3, hfz9_0, hfz9_1, hfz9_2, hfz9_3⟩ := zc4 BK245; obtain ⟨hcz10_0, hcz10_1, hcz10_2, hcz10_3, hfz10_0, hfz10_1, hfz10_2, hfz10_3⟩ := zc4 BK244))
 refine bodyPost_ret (results_cell_row rfl _ _ gb244 24 #[.int .i64 a0_0, .int .i64 a0_1, .int .i64 a0_2, .int .i64 a0_3] (0, 0) _ rfl (by refine bq ?_; refine blk_put (cs := #[.int .i64 a0_0, .int .i64 a0_1, .int .i64 a0_2, .int .i64 0]) ?_ 3 _ rfl; refine bq ?_; refine blk_put (cs := #[.int .i64 a0_0, .int .i64 a0_1, .int .i64 0, .int .i64 0]) ?_ 2 _ rfl; refine bq ?_; refine blk_put (cs := #[.int .i64 a0_0, .int .i64 0, .int .i64 0, .int .i64 0]) ?_ 1 _ rfl; refine bq ?_; refine blk_put (cs := #[.int .i64 0, .int .i64 0, .int .i64 0, .int .i64 0]) ?_ 0 _ rfl; refine fq ?_ NB244_245.out; refine fq ?_ NB244_245.out; refine fq ?_ NB244_245.out; refine fq ?_ NB244_245.out; exact bq BK244.out) Try.underlying24 rfl (by kernel_rfl)) rfl ?_
 exact ⟨zR, zB⟩

/-! ### impl_within: function 24 -/
def impl_within.f (a0 : Int) (a1 : Int) (a2 : Int) : Option (Bool) := if a0 ≥ a1 then (some (decide (a0 ≤ a2))) else (some false)
set_option maxHeartbeats 8000000 in
set_option maxRecDepth 100000 in
theorem impl_within.calls (a0 : Int) (a1 : Int) (a2 : Int) (r : Bool) (w : World) (h : impl_within.f a0 a1 a2 = some r) :
  Calls Try.prog 24 #[.int .i64 a0, .int .i64 a1, .int .i64 a2] w fun e w' => e = .returned (.bool r) ∧ Drawn0 w w' := by
 have H : (if a0 ≥ a1 then (some (decide (a0 ≤ a2))) else (some false)) = some r := h
 clear h
 by_cases c4 : a0 ≥ a1
 ·rw [if_pos c4] at H
  have c4b0 : decide (a1 ≤ a0) = true := decide_eq_true c4
  clear c4
  obtain rfl := Option.some.inj H
  go_enter Try.func24, Try.ntmps24
  go_wp2
  go_ret
  exact ⟨by first | rfl | (simp; done) | (simp [*]; done), by repeat (first | exact Drawn0.refl _ | apply Drawn0.step)⟩
 ·rw [if_neg c4] at H
  have c4b0 : decide (a1 ≤ a0) = false := decide_eq_false c4
  clear c4
  obtain rfl := Option.some.inj H
  go_enter Try.func24, Try.ntmps24
  go_wp2
  go_ret
  exact ⟨by first | rfl | (simp; done) | (simp [*]; done), by repeat (first | exact Drawn0.refl _ | apply Drawn0.step)⟩

/-! ### impl_kind_asks: function 13 -/
def impl_kind_asks.f (a0 : Int) : Option (Bool) := (impl_within.f a0 12 15).bind fun t246 => (some t246)
set_option maxHeartbeats 8000000 in
set_option maxRecDepth 100000 in
theorem impl_kind_asks.calls (a0 : Int) (r : Bool) (w : World) (h : impl_kind_asks.f a0 = some r) :
  Calls Try.prog 13 #[.int .i64 a0] w fun e w' => e = .returned (.bool r) ∧ Drawn0 w w' := by
 have H : ((impl_within.f a0 12 15).bind fun t246 => (some t246)) = some r := h
 clear h
 replace H := Option.bind_eq_some_iff.mp H
 obtain ⟨t246, A20, H⟩ := H
 try dsimp only at H
 have A2 := Aside0.mk A20
 clear A20
 obtain rfl := Option.some.inj H
 go_enter Try.func13, Try.ntmps13
 go_wp2_with (first | ((with_reducible refine gate_callee (f := 24) rfl ?_); refine gl 4 Try.func24 #[.int .i64 a0, .int .i64 12, .int .i64 15] ?_; (with_reducible refine (impl_within.calls a0 12 15 t246 _ A2.out).mono ?_); rintro e w' ⟨rfl, ⟨nd, rfl⟩⟩; refine ⟨_, rfl, ?_⟩))
 go_ret
 exact ⟨by first | rfl | (simp; done) | (simp [*]; done), by repeat (first | exact Drawn0.refl _ | apply Drawn0.step)⟩

/-! ### impl_numOk: function 34 -/
def impl_numOk.f (a0 : Int) : Option (Bool) := (impl_within.f a0 0 4294967295).bind fun t247 => (some t247)
set_option maxHeartbeats 8000000 in
set_option maxRecDepth 100000 in
theorem impl_numOk.calls (a0 : Int) (r : Bool) (w : World) (h : impl_numOk.f a0 = some r) :
  Calls Try.prog 34 #[.int .i64 a0] w fun e w' => e = .returned (.bool r) ∧ Drawn0 w w' := by
 have H : ((impl_within.f a0 0 4294967295).bind fun t247 => (some t247)) = some r := h
 clear h
 replace H := Option.bind_eq_some_iff.mp H
 obtain ⟨t247, A20, H⟩ := H
 try dsimp only at H
 have A2 := Aside0.mk A20
 clear A20
 obtain rfl := Option.some.inj H
 go_enter Try.func34, Try.ntmps34
 go_wp2_with (first | ((with_reducible refine gate_callee (f := 24) rfl ?_); refine gl 4 Try.func24 #[.int .i64 a0, .int .i64 0, .int .i64 4294967295] ?_; (with_reducible refine (impl_within.calls a0 0 4294967295 t247 _ A2.out).mono ?_); rintro e w' ⟨rfl, ⟨nd, rfl⟩⟩; refine ⟨_, rfl, ?_⟩))
 go_ret
 exact ⟨by first | rfl | (simp; done) | (simp [*]; done), by repeat (first | exact Drawn0.refl _ | apply Drawn0.step)⟩

/-! ### impl_RangeOk: function 25 -/
def impl_RangeOk.f (a0_0 : Int) (a0_1 : Int) (a0_2 : Int) (a0_3 : Int) : Option (Bool) := (impl_numOk.f a0_0).bind fun t249 => (if t249 = true then ((impl_within.f a0_1 a0_0 4294967295).bind fun t250 => (if t250 = true then ((impl_numOk.f a0_2).bind fun t251 => (if t251 = true then ((impl_numOk.f a0_3).bind fun t252 => (if t252 = true then (some ((Go.bits .and .i64 a0_2 a0_3) == 0)) else (some false))) else (some false))) else (some false))) else (some false))
set_option maxHeartbeats 8000000 in
set_option maxRecDepth 100000 in
theorem impl_RangeOk.calls (a0_0 : Int) (a0_1 : Int) (a0_2 : Int) (a0_3 : Int) (r : Bool) (w : World) (h : impl_RangeOk.f a0_0 a0_1 a0_2 a0_3 = some r) :
  Calls Try.prog 25 #[.agg #[.int .i64 a0_0, .int .i64 a0_1, .int .i64 a0_2, .int .i64 a0_3]] w fun e w' => e = .returned (.bool r) ∧ Below w.heap.size w w' := by
 have hu24 := Try.underlying24
 have HB := Aside0.mk (Below.refl w.heap.size w)
 have H : ((impl_numOk.f a0_0).bind fun t249 => (if t249 = true then ((impl_within.f a0_1 a0_0 4294967295).bind fun t250 => (if t250 = true then ((impl_numOk.f a0_2).bind fun t251 => (if t251 = true then ((impl_numOk.f a0_3).bind fun t252 => (if t252 = true then (some ((Go.bits .and .i64 a0_2 a0_3) == 0)) else (some false))) else (some false))) else (some false))) else (some false))) = some r := h
 clear h
 replace H := Option.bind_eq_some_iff.mp H
 obtain ⟨t249, A20, H⟩ := H
 try dsimp only at H
 have A2 := Aside0.mk A20
 clear A20
 by_cases c3 : t249 = true
 ·subst c3
  rw [if_pos rfl] at H
  replace H := Option.bind_eq_some_iff.mp H
  obtain ⟨t250, A40, H⟩ := H
  try dsimp only at H
  have A4 := Aside0.mk A40
  clear A40
  by_cases c5 : t250 = true
  ·subst c5
   rw [if_pos rfl] at H
   replace H := Option.bind_eq_some_iff.mp H
   obtain ⟨t251, A60, H⟩ := H
   try dsimp only at H
   have A6 := Aside0.mk A60
   clear A60
   by_cases c7 : t251 = true
   ·subst c7
    rw [if_pos rfl] at H
    replace H := Option.bind_eq_some_iff.mp H
    obtain ⟨t252, A80, H⟩ := H
    try dsimp only at H
    have A8 := Aside0.mk A80
    clear A80
    by_cases c9 : t252 = true
    ·subst c9
     rw [if_pos rfl] at H
     obtain rfl := Option.some.inj H
     go_enter Try.func25, Try.ntmps25
     go_wp2_with (first | ((with_reducible refine gate_dst (N := 1) rfl ?_); refine be 1 #[.int .i64 a0_0, .int .i64 a0_1, .int .i64 a0_2, .int .i64 a0_3] 24 ?_; intro gb248 hg w10 hbox hb; have BK248 := Aside0.mk hbox; have GW248 := zW hg; replace HB := zS hb; have GE248 := GW248; clear hb hbox hg; obtain ⟨hcz11_0, hcz11_1, hcz11_2, hcz11_3, hfz11_0, hfz11_1, hfz11_2, hfz11_3⟩ := zc4 BK248) | ((with_reducible refine gate_callee (f := 34) rfl ?_); refine gl 5 Try.func34 #[.int .i64 a0_0] ?_; (with_reducible refine (impl_numOk.calls a0_0 true _ A2.out).mono ?_); rintro e w' ⟨rfl, ⟨nd, rfl⟩⟩; refine ⟨_, rfl, ?_⟩) | (go_at_call 24; (with_reducible refine (impl_within.calls a0_1 a0_0 4294967295 true _ A4.out).mono ?_); rintro e w' ⟨rfl, ⟨nd, rfl⟩⟩) | (go_at_call 34; (with_reducible refine (impl_numOk.calls a0_2 true _ A6.out).mono ?_); rintro e w' ⟨rfl, ⟨nd, rfl⟩⟩) | (go_at_call 34; (with_reducible refine (impl_numOk.calls a0_3 true _ A8.out).mono ?_); rintro e w' ⟨rfl, ⟨nd, rfl⟩⟩))
     go_ret
     exact ⟨zR, zB⟩
    ·replace c9 := Bool.eq_false_iff.mpr c9
     subst c9
     rw [if_neg (show ¬ (false = true) by decide)] at H
     obtain rfl := Option.some.inj H
     go_enter Try.func25, Try.ntmps25
     go_wp2_with (first | ((with_reducible refine gate_dst (N := 1) rfl ?_); refine be 1 #[.int .i64 a0_0, .int .i64 a0_1, .int .i64 a0_2, .int .i64 a0_3] 24 ?_; intro gb248 hg w12 hbox hb; have BK248 := Aside0.mk hbox; have GW248 := zW hg; replace HB := zS hb; have GE248 := GW248; clear hb hbox hg; obtain ⟨hcz13_0, hcz13_1, hcz13_2, hcz13_3, hfz13_0, hfz13_1, hfz13_2, hfz13_3⟩ := zc4 BK248) | ((with_reducible refine gate_callee (f := 34) rfl ?_); refine gl 5 Try.func34 #[.int .i64 a0_0] ?_; (with_reducible refine (impl_numOk.calls a0_0 true _ A2.out).mono ?_); rintro e w' ⟨rfl, ⟨nd, rfl⟩⟩; refine ⟨_, rfl, ?_⟩) | (go_at_call 24; (with_reducible refine (impl_within.calls a0_1 a0_0 4294967295 true _ A4.out).mono ?_); rintro e w' ⟨rfl, ⟨nd, rfl⟩⟩) | (go_at_call 34; (with_reducible refine (impl_numOk.calls a0_2 true _ A6.out).mono ?_); rintro e w' ⟨rfl, ⟨nd, rfl⟩⟩) | (go_at_call 34; (with_reducible refine (impl_numOk.calls a0_3 false _ A8.out).mono ?_); rintro e w' ⟨rfl, ⟨nd, rfl⟩⟩))
     go_ret
     exact ⟨zR, zB⟩
   ·replace c7 := Bool.eq_false_iff.mpr c7
    subst c7
    rw [if_neg (show ¬ (false = true) by decide)] at H
    obtain rfl := Option.some.inj H
    go_enter Try.func25, Try.ntmps25
    go_wp2_with (first | ((with_reducible refine gate_dst (N := 1) rfl ?_); refine be 1 #[.int .i64 a0_0, .int .i64 a0_1, .int .i64 a0_2, .int .i64 a0_3] 24 ?_; intro gb248 hg w14 hbox hb; have BK248 := Aside0.mk hbox; have GW248 := zW hg; replace HB := zS hb; have GE248 := GW248; clear hb hbox hg; obtain ⟨hcz15_0, hcz15_1, hcz15_2, hcz15_3, hfz15_0, hfz15_1, hfz15_2, hfz15_3⟩ := zc4 BK248) | ((with_reducible refine gate_callee (f := 34) rfl ?_); refine gl 5 Try.func34 #[.int .i64 a0_0] ?_; (with_reducible refine (impl_numOk.calls a0_0 true _ A2.out).mono ?_); rintro e w' ⟨rfl, ⟨nd, rfl⟩⟩; refine ⟨_, rfl, ?_⟩) | (go_at_call 24; (with_reducible refine (impl_within.calls a0_1 a0_0 4294967295 true _ A4.out).mono ?_); rintro e w' ⟨rfl, ⟨nd, rfl⟩⟩) | (go_at_call 34; (with_reducible refine (impl_numOk.calls a0_2 false _ A6.out).mono ?_); rintro e w' ⟨rfl, ⟨nd, rfl⟩⟩))
    go_ret
    exact ⟨zR, zB⟩
  ·replace c5 := Bool.eq_false_iff.mpr c5
   subst c5
   rw [if_neg (show ¬ (false = true) by decide)] at H
   obtain rfl := Option.some.inj H
   go_enter Try.func25, Try.ntmps25
   go_wp2_with (first | ((with_reducible refine gate_dst (N := 1) rfl ?_); refine be 1 #[.int .i64 a0_0, .int .i64 a0_1, .int .i64 a0_2, .int .i64 a0_3] 24 ?_; intro gb248 hg w16 hbox hb; have BK248 := Aside0.mk hbox; have GW248 := zW hg; replace HB := zS hb; have GE248 := GW248; clear hb hbox hg; obtain ⟨hcz17_0, hcz17_1, hcz17_2, hcz17_3, hfz17_0, hfz17_1, hfz17_2, hfz17_3⟩ := zc4 BK248) | ((with_reducible refine gate_callee (f := 34) rfl ?_); refine gl 5 Try.func34 #[.int .i64 a0_0] ?_; (with_reducible refine (impl_numOk.calls a0_0 true _ A2.out).mono ?_); rintro e w' ⟨rfl, ⟨nd, rfl⟩⟩; refine ⟨_, rfl, ?_⟩) | (go_at_call 24; (with_reducible refine (impl_within.calls a0_1 a0_0 4294967295 false _ A4.out).mono ?_); rintro e w' ⟨rfl, ⟨nd, rfl⟩⟩))
   go_ret
   exact ⟨zR, zB⟩
 ·replace c3 := Bool.eq_false_iff.mpr c3
  subst c3
  rw [if_neg (show ¬ (false = true) by decide)] at H
  obtain rfl := Option.some.inj H
  go_enter Try.func25, Try.ntmps25
  go_wp2_with (first | ((with_reducible refine gate_dst (N := 1) rfl ?_); refine be 1 #[.int .i64 a0_0, .int .i64 a0_1, .int .i64 a0_2, .int .i64 a0_3] 24 ?_; intro gb248 hg w18 hbox hb; have BK248 := Aside0.mk hbox; have GW248 := zW hg; replace HB := zS hb; have GE248 := GW248; clear hb hbox hg; obtain ⟨hcz19_0, hcz19_1, hcz19_2, hcz19_3, hfz19_0, hfz19_1, hfz19_2, hfz19_3⟩ := zc4 BK248) | ((with_reducible refine gate_callee (f := 34) rfl ?_); refine gl 5 Try.func34 #[.int .i64 a0_0] ?_; (with_reducible refine (impl_numOk.calls a0_0 false _ A2.out).mono ?_); rintro e w' ⟨rfl, ⟨nd, rfl⟩⟩; refine ⟨_, rfl, ?_⟩))
  go_ret
  exact ⟨zR, zB⟩

/-! ### impl_Range_above: function 35 -/
mutual
def impl_Range_above.l0 : Nat → Int → Int → Int → Int → Int → Option (Int)
 | 0, _, _, _, _, _ => none
 | k + 1, x5, x254000, x254001, x254002, x254003 => if x5 < 32 then (if 0 ≤ x5 then (if (Go.bits .and .i64 (shr .i64 x254000 x5) 1) = 1 then (impl_Range_above.j1 k x5 (Go.bits .xor .i64 (-1) (wrap64 ((shl .i64 2 x5) - 1))) x5 true x254000 x254001 x254002 x254003) else (if (Go.bits .and .i64 (shr .i64 (Go.bits .or .i64 x254002 x254003) x5) 1) = 0 then (impl_Range_above.j1 k x5 (Go.bits .xor .i64 (-1) (wrap64 ((shl .i64 2 x5) - 1))) x5 true x254000 x254001 x254002 x254003) else (impl_Range_above.j1 k x5 (Go.bits .xor .i64 (-1) (wrap64 ((shl .i64 2 x5) - 1))) x5 ((Go.bits .andNot .i64 (Go.bits .and .i64 x254000 (Go.bits .xor .i64 (-1) (wrap64 ((shl .i64 2 x5) - 1)))) x254003) != (Go.bits .and .i64 x254002 (Go.bits .xor .i64 (-1) (wrap64 ((shl .i64 2 x5) - 1))))) x254000 x254001 x254002 x254003))) else (none)) else (some (-1))
def impl_Range_above.j1 : Nat → Int → Int → Int → Bool → Int → Int → Int → Int → Option (Int)
 | 0, _, _, _, _, _, _, _, _ => none
 | k + 1, x3, x4, x5, x42, x254000, x254001, x254002, x254003 => if x42 = true then (impl_Range_above.l0 k (wrap64 (x5 + 1)) x254000 x254001 x254002 x254003) else (if 0 ≤ x3 then (some (Go.bits .or .i64 (Go.bits .or .i64 (Go.bits .and .i64 x254000 x4) (shl .i64 1 x3)) (Go.bits .and .i64 x254002 (wrap64 ((shl .i64 1 x3) - 1))))) else (none))
end
def impl_Range_above.f (k : Nat) (a0_0 : Int) (a0_1 : Int) (a0_2 : Int) (a0_3 : Int) : Option (Int) := impl_Range_above.l0 k 0 a0_0 a0_1 a0_2 a0_3


set_option maxHeartbeats 8000000 in
set_option maxRecDepth 100000 in
theorem impl_Range_above.calls (k : Nat) (a0_0 : Int) (a0_1 : Int) (a0_2 : Int) (a0_3 : Int) (r : Int) (w : World) (h : impl_Range_above.f k a0_0 a0_1 a0_2 a0_3 = some r) :
  Calls Try.prog 35 #[.agg #[.int .i64 a0_0, .int .i64 a0_1, .int .i64 a0_2, .int .i64 a0_3]] w fun e w' => e = .returned (.int .i64 r) ∧ Below w.heap.size w w' := by
 have hu24 := Try.underlying24
 have HB := Aside0.mk (Below.refl w.heap.size w)
 have H : (impl_Range_above.l0 k 0 a0_0 a0_1 a0_2 a0_3) = some r := h
 clear h
 have H' := Aside0.mk H
 clear H
 go_enter Try.func35, Try.ntmps35
 go_wp2_with (first | ((with_reducible refine gate_dst (N := 1) rfl ?_); refine be 1 #[.int .i64 a0_0, .int .i64 a0_1, .int .i64 a0_2, .int .i64 a0_3] 24 ?_; intro gb253 hg w2 hbox hb; have BK253 := Aside0.mk hbox; have GW253 := zW hg; replace HB := zS hb; have GE253 := GW253; clear hb hbox hg))
 repeat (go_quiet (first | ((with_reducible refine gate_dst (N := 1) rfl ?_); refine be 1 #[.int .i64 a0_0, .int .i64 a0_1, .int .i64 a0_2, .int .i64 a0_3] 24 ?_; intro gb253 hg w2 hbox hb; have BK253 := Aside0.mk hbox; have GW253 := zW hg; replace HB := zS hb; have GE253 := GW253; clear hb hbox hg)); try go_wp2_with (first | ((with_reducible refine gate_dst (N := 1) rfl ?_); refine be 1 #[.int .i64 a0_0, .int .i64 a0_1, .int .i64 a0_2, .int .i64 a0_3] 24 ?_; intro gb253 hg w2 hbox hb; have BK253 := Aside0.mk hbox; have GW253 := zW hg; replace HB := zS hb; have GE253 := GW253; clear hb hbox hg)))
 go_loopg [5] k (fun kq v5 w' => ∃ (x5_1 : Int), v5 = .int .i64 x5_1 ∧ Aside0 (impl_Range_above.l0 kq x5_1 a0_0 a0_1 a0_2 a0_3 = some r) ∧ Aside0 (kq ≤ k) ∧ Aside0 (w'.heap[gb253]? = some (.cells #[.int .i64 a0_0, .int .i64 a0_1, .int .i64 a0_2, .int .i64 a0_3] 24 (0, 0))) ∧ Aside0 (Below w.heap.size w w'))
 case atStart => exact ⟨(0), (by first | rfl | (simp; done) | (simp [*]; done)), H', ⟨Nat.le_refl _⟩, ⟨by exact bq BK253.out⟩, ⟨zB⟩⟩
 case round =>
  clear H'
  try clear p2
  obtain ⟨x5_1, rfl, HA, HK1, BK253, HB⟩ := hrel
  cases gk with
  | zero => exact absurd HA.out (by simp [impl_Range_above.l0])
  | succ k1 =>
   have H := HA.out
   clear HA
   simp only [impl_Range_above.l0] at H
   by_cases c3 : x5_1 < 32
   ·rw [if_pos c3] at H
    have c3b0 : decide (x5_1 < 32) = true := decide_eq_true c3
    clear c3
    by_cases c4 : 0 ≤ x5_1
    ·rw [if_pos c4] at H
     have c4b0 := eq_true c4
     have c4b1 : decide (0 ≤ x5_1) = true := decide_eq_true c4
     clear c4
     obtain ⟨ji5, hji5⟩ : ∃ j_ : Int, (shl .i64 2 x5_1) = j_ := ⟨_, rfl⟩
     replace H : (if (Go.bits .and .i64 (shr .i64 a0_0 x5_1) 1) = 1 then (impl_Range_above.j1 k1 x5_1 (Go.bits .xor .i64 (-1) (wrap64 ((ji5) - 1))) x5_1 true a0_0 a0_1 a0_2 a0_3) else (if (Go.bits .and .i64 (shr .i64 (Go.bits .or .i64 a0_2 a0_3) x5_1) 1) = 0 then (impl_Range_above.j1 k1 x5_1 (Go.bits .xor .i64 (-1) (wrap64 ((ji5) - 1))) x5_1 true a0_0 a0_1 a0_2 a0_3) else (impl_Range_above.j1 k1 x5_1 (Go.bits .xor .i64 (-1) (wrap64 ((ji5) - 1))) x5_1 ((Go.bits .andNot .i64 (Go.bits .and .i64 a0_0 (Go.bits .xor .i64 (-1) (wrap64 ((ji5) - 1)))) a0_3) != (Go.bits .and .i64 a0_2 (Go.bits .xor .i64 (-1) (wrap64 ((ji5) - 1))))) a0_0 a0_1 a0_2 a0_3))) = some r := by first | (rw [hji5] at H; exact H) | (simp only [hji5] at H ⊢; exact H)
     have hji5_ : (IntKind.i64.wrap (2 * 2 ^ min x5_1.toNat 64)) = ji5 := hji5
     have hji5z : x5_1 ≤ 64 → (IntKind.i64.wrap (2 * 2 ^ x5_1.toNat)) = ji5 := shl_small hji5
     have hji5y : (wrap64 (2 * 2 ^ min x5_1.toNat 64)) = ji5 := (i64_w _).symm.trans hji5_
     have hji5x : x5_1 ≤ 64 → (wrap64 (2 * 2 ^ x5_1.toNat)) = ji5 := fun h_ => (i64_w _).symm.trans (hji5z h_)
     have HC6 := Aside0.mk H
     clear H
     go_upto_region 5 with (fail)
     repeat (go_quiet (fail); go_upto_region 5 with (fail))
     go_cut [42] (fun v42 wc => ∃ (kq : Nat) (x42_5 : Bool), v42 = .bool x42_5 ∧ Aside0 (impl_Range_above.j1 kq x5_1 (Go.bits .xor .i64 (-1) (wrap64 ((ji5) - 1))) x5_1 x42_5 a0_0 a0_1 a0_2 a0_3 = some r) ∧ Aside0 (kq ≤ k1) ∧ Aside0 (wc.heap[gb253]? = some (.cells #[.int .i64 a0_0, .int .i64 a0_1, .int .i64 a0_2, .int .i64 a0_3] 24 (0, 0))) ∧ Aside0 (Below w.heap.size w wc))
     case first =>
      have H := HC6.out
      clear HC6
      have c7b0 := eq_true (of_decide_eq_true (by first | (with_reducible assumption) | assumption) : 0 ≤ x5_1)
      obtain ⟨ji8, hji8⟩ : ∃ j_ : Int, (shr .i64 a0_0 x5_1) = j_ := ⟨_, rfl⟩
      replace H : (if (Go.bits .and .i64 (ji8) 1) = 1 then (impl_Range_above.j1 k1 x5_1 (Go.bits .xor .i64 (-1) (wrap64 ((ji5) - 1))) x5_1 true a0_0 a0_1 a0_2 a0_3) else (if (Go.bits .and .i64 (shr .i64 (Go.bits .or .i64 a0_2 a0_3) x5_1) 1) = 0 then (impl_Range_above.j1 k1 x5_1 (Go.bits .xor .i64 (-1) (wrap64 ((ji5) - 1))) x5_1 true a0_0 a0_1 a0_2 a0_3) else (impl_Range_above.j1 k1 x5_1 (Go.bits .xor .i64 (-1) (wrap64 ((ji5) - 1))) x5_1 ((Go.bits .andNot .i64 (Go.bits .and .i64 a0_0 (Go.bits .xor .i64 (-1) (wrap64 ((ji5) - 1)))) a0_3) != (Go.bits .and .i64 a0_2 (Go.bits .xor .i64 (-1) (wrap64 ((ji5) - 1))))) a0_0 a0_1 a0_2 a0_3))) = some r := by first | (rw [hji8] at H; exact H) | (simp only [hji8] at H ⊢; exact H)
      have hji8_ : (a0_0 / 2 ^ min x5_1.toNat 64) = ji8 := hji8
      have hji8z : x5_1 ≤ 64 → (a0_0 / 2 ^ x5_1.toNat) = ji8 := shr_small hji8
      by_cases c9 : (Go.bits .and .i64 (ji8) 1) = 1
      ·rw [if_pos c9] at H
       have c9b0 : ((Go.bits .and .i64 (ji8) 1) == 1) = true := beq_iff_eq.mpr c9
       have c9b1 : ((Go.bits .and .i64 (ji8) 1) != 1) = false := bne_eq_false_iff_eq.mpr c9
       clear c9
       (first | rw [c9b0] | (simp only [i64_w, i32_w]; rw [c9b0]) | skip)
       have H' := Aside0.mk H
       clear H
       obtain ⟨hcz10_0, hcz10_1, hcz10_2, hcz10_3, hfz10_0, hfz10_1, hfz10_2, hfz10_3⟩ := zc4 BK253
       go_wp2
       repeat (go_quiet (fail); try go_wp2)
       go_meet
       case rel => exact ⟨_, (true), (by first | rfl | (simp; done) | (simp [*]; done)), H', ⟨by have := HK1.out; first | omega | exact Nat.le_refl _⟩, ⟨by exact bq BK253.out⟩, ⟨zB⟩⟩
      ·rw [if_neg c9] at H
       have c9b0 : ((Go.bits .and .i64 (ji8) 1) == 1) = false := beq_eq_false_iff_ne.mpr c9
       have c9b1 : ((Go.bits .and .i64 (ji8) 1) != 1) = true := bne_iff_ne.mpr c9
       (first | rw [c9b0] | (simp only [i64_w, i32_w]; rw [c9b0]) | skip)
       have c11b0 := eq_true (of_decide_eq_true (by first | (with_reducible assumption) | assumption) : 0 ≤ x5_1)
       obtain ⟨ji12, hji12⟩ : ∃ j_ : Int, (shr .i64 (Go.bits .or .i64 a0_2 a0_3) x5_1) = j_ := ⟨_, rfl⟩
       replace H : (if (Go.bits .and .i64 (ji12) 1) = 0 then (impl_Range_above.j1 k1 x5_1 (Go.bits .xor .i64 (-1) (wrap64 ((ji5) - 1))) x5_1 true a0_0 a0_1 a0_2 a0_3) else (impl_Range_above.j1 k1 x5_1 (Go.bits .xor .i64 (-1) (wrap64 ((ji5) - 1))) x5_1 ((Go.bits .andNot .i64 (Go.bits .and .i64 a0_0 (Go.bits .xor .i64 (-1) (wrap64 ((ji5) - 1)))) a0_3) != (Go.bits .and .i64 a0_2 (Go.bits .xor .i64 (-1) (wrap64 ((ji5) - 1))))) a0_0 a0_1 a0_2 a0_3)) = some r := by first | (rw [hji12] at H; exact H) | (simp only [hji12] at H ⊢; exact H)
       have hji12_ : ((Go.bits .or .i64 a0_2 a0_3) / 2 ^ min x5_1.toNat 64) = ji12 := hji12
       have hji12z : x5_1 ≤ 64 → ((Go.bits .or .i64 a0_2 a0_3) / 2 ^ x5_1.toNat) = ji12 := shr_small hji12
       by_cases c13 : (Go.bits .and .i64 (ji12) 1) = 0
       ·rw [if_pos c13] at H
        have c13b0 : ((Go.bits .and .i64 (ji12) 1) == 0) = true := beq_iff_eq.mpr c13
        have c13b1 : ((Go.bits .and .i64 (ji12) 1) != 0) = false := bne_eq_false_iff_eq.mpr c13
        clear c13
        have H' := Aside0.mk H
        clear H
        obtain ⟨hcz14_0, hcz14_1, hcz14_2, hcz14_3, hfz14_0, hfz14_1, hfz14_2, hfz14_3⟩ := zc4 BK253
        go_wp2
        repeat (go_quiet (fail); try go_wp2)
        go_meet
        case rel => exact ⟨_, (true), (by first | rfl | (simp; done) | (simp [*]; done)), H', ⟨by have := HK1.out; first | omega | exact Nat.le_refl _⟩, ⟨by exact bq BK253.out⟩, ⟨zB⟩⟩
       ·rw [if_neg c13] at H
        have c13b0 : ((Go.bits .and .i64 (ji12) 1) == 0) = false := beq_eq_false_iff_ne.mpr c13
        have c13b1 : ((Go.bits .and .i64 (ji12) 1) != 0) = true := bne_iff_ne.mpr c13
        have H' := Aside0.mk H
        clear H
        obtain ⟨hcz15_0, hcz15_1, hcz15_2, hcz15_3, hfz15_0, hfz15_1, hfz15_2, hfz15_3⟩ := zc4 BK253
        go_wp2
        repeat (go_quiet (fail); try go_wp2)
        go_meet
        case rel => exact ⟨_, (((Go.bits .andNot .i64 (Go.bits .and .i64 a0_0 (Go.bits .xor .i64 (-1) (wrap64 ((ji5) - 1)))) a0_3) != (Go.bits .and .i64 a0_2 (Go.bits .xor .i64 (-1) (wrap64 ((ji5) - 1)))))), (by first | rfl | (simp; done) | (simp only [← hji5] <;> (first | rfl | simp)) | (simp [*]; done)), H', ⟨by have := HK1.out; first | omega | exact Nat.le_refl _⟩, ⟨by exact bq BK253.out⟩, ⟨zB⟩⟩
     case rest =>
      clear HC6
      try clear c1
      try clear p2 p2
      try clear c3
      try clear c3b0
      try clear c4
      try clear c4b0
      try clear c4b1
      try clear p6
      try clear c7
      try clear c7b0
      try clear c9
      try clear c9b0
      try clear c9b1
      try clear c11
      try clear c11b0
      try clear c13
      try clear c13b0
      try clear c13b1
      try clear hcz10_0 hcz10_1 hcz10_2 hcz10_3 hfz10_0 hfz10_1 hfz10_2 hfz10_3
      try clear hcz14_0 hcz14_1 hcz14_2 hcz14_3 hfz14_0 hfz14_1 hfz14_2 hfz14_3
      try clear hcz15_0 hcz15_1 hcz15_2 hcz15_3 hfz15_0 hfz15_1 hfz15_2 hfz15_3
      obtain ⟨kq, x42_5, rfl, HA, HJ5, BK253, HB⟩ := hcut
      cases kq with
      | zero => exact absurd HA.out (by simp [impl_Range_above.j1])
      | succ kj5 =>
       have H := HA.out
       clear HA
       simp only [impl_Range_above.j1] at H
       by_cases c16 : x42_5 = true
       ·subst c16
        rw [if_pos rfl] at H
        have H' := Aside0.mk H
        clear H
        go_wp2
        repeat (go_quiet (fail); try go_wp2)
        go_roundg kj5
        case measure => have := HK1.out; have := HJ5.out; omega
        case rel => exact ⟨(wrap64 (x5_1 + 1)), (by first | rfl | (simp; done) | (simp [*]; done)), H', ⟨by have := HK1.out; have := HJ5.out; omega⟩, ⟨by exact bq BK253.out⟩, ⟨zB⟩⟩
       ·replace c16 := Bool.eq_false_iff.mpr c16
        subst c16
        rw [if_neg (show ¬ (false = true) by decide)] at H
        by_cases c17 : 0 ≤ x5_1
        ·rw [if_pos c17] at H
         have c17b0 := eq_true c17
         have c17b1 : decide (0 ≤ x5_1) = true := decide_eq_true c17
         clear c17
         obtain ⟨ji18, hji18⟩ : ∃ j_ : Int, (shl .i64 1 x5_1) = j_ := ⟨_, rfl⟩
         replace H : (some (Go.bits .or .i64 (Go.bits .or .i64 (Go.bits .and .i64 a0_0 (Go.bits .xor .i64 (-1) (wrap64 ((ji5) - 1)))) (ji18)) (Go.bits .and .i64 a0_2 (wrap64 ((ji18) - 1))))) = some r := by first | (rw [hji18] at H; exact H) | (simp only [hji18] at H ⊢; exact H)
         have hji18_ : (IntKind.i64.wrap (1 * 2 ^ min x5_1.toNat 64)) = ji18 := hji18
         have hji18z : x5_1 ≤ 64 → (IntKind.i64.wrap (1 * 2 ^ x5_1.toNat)) = ji18 := shl_small hji18
         have hji18u : (IntKind.i64.wrap (2 ^ min x5_1.toNat 64)) = ji18 := by have h_ := hji18_; rw [Int.one_mul] at h_; exact h_
         have hji18v : x5_1 ≤ 64 → (IntKind.i64.wrap (2 ^ x5_1.toNat)) = ji18 := fun hle_ => by have h_ := hji18z hle_; rw [Int.one_mul] at h_; exact h_
         have hji18y : (wrap64 (1 * 2 ^ min x5_1.toNat 64)) = ji18 := (i64_w _).symm.trans hji18_
         have hji18x : x5_1 ≤ 64 → (wrap64 (1 * 2 ^ x5_1.toNat)) = ji18 := fun h_ => (i64_w _).symm.trans (hji18z h_)
         have c19b0 := eq_true (of_decide_eq_true (by first | (with_reducible assumption) | assumption) : 0 ≤ x5_1)
         obtain rfl := Option.some.inj H
         obtain ⟨hcz20_0, hcz20_1, hcz20_2, hcz20_3, hfz20_0, hfz20_1, hfz20_2, hfz20_3⟩ := zc4 BK253
         go_wp2
         repeat (go_quiet (fail); try go_wp2)
         go_ret
         exact ⟨by first | rfl | (simp [errW_none, errW_some] <;> rfl) | (simp only [← hji5, ← hji18]; first | rfl | (simp [errW_none, errW_some] <;> rfl)) | (simp [*, errW_none, errW_some] <;> rfl), zB⟩
        ·rw [if_neg c17] at H
         exact absurd H (by simp)
    ·rw [if_neg c4] at H
     exact absurd H (by simp)
   ·rw [if_neg c3] at H
    have c3b0 : decide (x5_1 < 32) = false := decide_eq_false c3
    clear c3
    obtain rfl := Option.some.inj H
    go_wp2
    repeat (go_quiet (fail); try go_wp2)
    go_ret
    exact ⟨zR, zB⟩

/-! ### impl_Range_has: function 36 -/
def impl_Range_has.f (a0_0 : Int) (a0_1 : Int) (a0_2 : Int) (a0_3 : Int) (a1 : Int) : Option (Bool) := (impl_within.f a1 a0_0 a0_1).bind fun t255 => (if t255 = true then (some ((Go.bits .andNot .i64 a1 a0_3) == a0_2)) else (some false))
set_option maxHeartbeats 8000000 in
set_option maxRecDepth 100000 in
theorem impl_Range_has.calls (a0_0 : Int) (a0_1 : Int) (a0_2 : Int) (a0_3 : Int) (a1 : Int) (r : Bool) (w : World) (h : impl_Range_has.f a0_0 a0_1 a0_2 a0_3 a1 = some r) :
  Calls Try.prog 36 #[.agg #[.int .i64 a0_0, .int .i64 a0_1, .int .i64 a0_2, .int .i64 a0_3], .int .i64 a1] w fun e w' => e = .returned (.bool r) ∧ Below w.heap.size w w' := by
 have hu24 := Try.underlying24
 have HB := Aside0.mk (Below.refl w.heap.size w)
 have H : ((impl_within.f a1 a0_0 a0_1).bind fun t255 => (if t255 = true then (some ((Go.bits .andNot .i64 a1 a0_3) == a0_2)) else (some false))) = some r := h
 clear h
 replace H := Option.bind_eq_some_iff.mp H
 obtain ⟨t255, A30, H⟩ := H
 try dsimp only at H
 have A3 := Aside0.mk A30
 clear A30
 by_cases c4 : t255 = true
 ·subst c4
  rw [if_pos rfl] at H
  obtain rfl := Option.some.inj H
  go_enter Try.func36, Try.ntmps36
  go_wp2_with (first | ((with_reducible refine gate_dst (N := 2) rfl ?_); refine be 2 #[.int .i64 a0_0, .int .i64 a0_1, .int .i64 a0_2, .int .i64 a0_3] 24 ?_; intro gb254 hg w5 hbox hb; have BK254 := Aside0.mk hbox; have GW254 := zW hg; replace HB := zS hb; have GE254 := GW254; clear hb hbox hg; obtain ⟨hcz6_0, hcz6_1, hcz6_2, hcz6_3, hfz6_0, hfz6_1, hfz6_2, hfz6_3⟩ := zc4 BK254) | ((with_reducible refine gate_callee (f := 24) rfl ?_); refine gl 10 Try.func24 #[.int .i64 a1, .int .i64 a0_0, .int .i64 a0_1] ?_; (with_reducible refine (impl_within.calls a1 a0_0 a0_1 true _ A3.out).mono ?_); rintro e w' ⟨rfl, ⟨nd, rfl⟩⟩; refine ⟨_, rfl, ?_⟩))
  go_ret
  exact ⟨zR, zB⟩
 ·replace c4 := Bool.eq_false_iff.mpr c4
  subst c4
  rw [if_neg (show ¬ (false = true) by decide)] at H
  obtain rfl := Option.some.inj H
  go_enter Try.func36, Try.ntmps36
  go_wp2_with (first | ((with_reducible refine gate_dst (N := 2) rfl ?_); refine be 2 #[.int .i64 a0_0, .int .i64 a0_1, .int .i64 a0_2, .int .i64 a0_3] 24 ?_; intro gb254 hg w7 hbox hb; have BK254 := Aside0.mk hbox; have GW254 := zW hg; replace HB := zS hb; have GE254 := GW254; clear hb hbox hg; obtain ⟨hcz8_0, hcz8_1, hcz8_2, hcz8_3, hfz8_0, hfz8_1, hfz8_2, hfz8_3⟩ := zc4 BK254) | ((with_reducible refine gate_callee (f := 24) rfl ?_); refine gl 10 Try.func24 #[.int .i64 a1, .int .i64 a0_0, .int .i64 a0_1] ?_; (with_reducible refine (impl_within.calls a1 a0_0 a0_1 false _ A3.out).mono ?_); rintro e w' ⟨rfl, ⟨nd, rfl⟩⟩; refine ⟨_, rfl, ?_⟩))
  go_ret
  exact ⟨zR, zB⟩

end Go.Proofs.Ytjengfiaphgjbaa.Q
