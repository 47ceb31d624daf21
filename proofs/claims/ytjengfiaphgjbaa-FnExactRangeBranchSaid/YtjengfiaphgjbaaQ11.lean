/- The machine's side of this seat's laws: Go functions as Lean functions, and their contracts. By a program of this work over the kit's print. -/
import Derived.Test.YtjengfiaphgjbaaQ0
import Derived.Test.YtjengfiaphgjbaaQ7
import Derived.Test.YtjengfiaphgjbaaQ8
import Derived.Test.YtjengfiaphgjbaaQ10
namespace Go.Proofs.Ytjengfiaphgjbaa.Q
open Go.RowKit Go.Proofs.YtjengfiaphgjbaaW.PrintWords Go.Proofs.YtjengfiaphgjbaaW.PrintLast Go.Proofs.YtjengfiaphgjbaaW.PrintMore
attribute [local go_sem] max2_int min2_int max_two min_two max_three min_three max_four min_four Go.Proofs.YtjengfiaphgjbaaN.not_i64 Go.Proofs.YtjengfiaphgjbaaN.isSome_setCell   -- for this text's walks alone
set_option linter.unusedVariables false
set_option linter.unusedSimpArgs false

/-! ### impl_RangeBranch: function 6 -/
def impl_RangeBranch.j0 : Nat → Int → Bool → Bool → Int → Int → Int → Int → Int → Int → Int → Int → Option (Int × Int × Int × Int × Int × Int × Int × Int × Bool)
 | 0, _, _, _, _, _, _, _, _, _, _, _ => none
 | k + 1, x0, x3, x23, x374000, x374001, x374002, x374003, x375000, x375001, x375002, x375003 => if x23 = true then ((impl_noRange.f).bind fun bt380 => ((impl_noRange.f).bind fun bt384 => (some (bt380.1, bt380.2.1, bt380.2.2.1, bt380.2.2.2, bt384.1, bt384.2.1, bt384.2.2.1, bt384.2.2.2, false)))) else ((impl_branch.f k x0 x374000 x374001 x374002 x374003 x375000 x375001 x375002 x375003 x3).bind fun bt388 => (some (bt388.1, bt388.2.1, bt388.2.2.1, bt388.2.2.2.1, bt388.2.2.2.2.1, bt388.2.2.2.2.2.1, bt388.2.2.2.2.2.2.1, bt388.2.2.2.2.2.2.2.1, bt388.2.2.2.2.2.2.2.2)))
def impl_RangeBranch.f (k : Nat) (a0 : Int) (a1_0 : Int) (a1_1 : Int) (a1_2 : Int) (a1_3 : Int) (a2_0 : Int) (a2_1 : Int) (a2_2 : Int) (a2_3 : Int) (a3 : Bool) : Option (Int × Int × Int × Int × Int × Int × Int × Int × Bool) := (impl_kind_asks.f a0).bind fun t377 => (if t377 = true then ((impl_Range_some.f k a1_0 a1_1 a1_2 a1_3).bind fun t378 => (if t378 = true then ((impl_Range_some.f k a2_0 a2_1 a2_2 a2_3).bind fun t379 => (impl_RangeBranch.j0 k a0 a3 (!t379) a1_0 a1_1 a1_2 a1_3 a2_0 a2_1 a2_2 a2_3)) else (impl_RangeBranch.j0 k a0 a3 true a1_0 a1_1 a1_2 a1_3 a2_0 a2_1 a2_2 a2_3))) else (impl_RangeBranch.j0 k a0 a3 true a1_0 a1_1 a1_2 a1_3 a2_0 a2_1 a2_2 a2_3))


set_option maxHeartbeats 8000000 in
set_option maxRecDepth 100000 in
theorem impl_RangeBranch.calls (k : Nat) (a0 : Int) (a1_0 : Int) (a1_1 : Int) (a1_2 : Int) (a1_3 : Int) (a2_0 : Int) (a2_1 : Int) (a2_2 : Int) (a2_3 : Int) (a3 : Bool) (r1 : Int) (r2 : Int) (r3 : Int) (r4 : Int) (r5 : Int) (r6 : Int) (r7 : Int) (r8 : Int) (r9 : Bool) (w : World) (h : impl_RangeBranch.f k a0 a1_0 a1_1 a1_2 a1_3 a2_0 a2_1 a2_2 a2_3 a3 = some (r1, r2, r3, r4, r5, r6, r7, r8, r9)) :
  Calls Try.prog 6 #[.int .i64 a0, .agg #[.int .i64 a1_0, .int .i64 a1_1, .int .i64 a1_2, .int .i64 a1_3], .agg #[.int .i64 a2_0, .int .i64 a2_1, .int .i64 a2_2, .int .i64 a2_3], .bool a3] w fun e w' => e = .returned (.tuple #[.agg #[.int .i64 r1, .int .i64 r2, .int .i64 r3, .int .i64 r4], .agg #[.int .i64 r5, .int .i64 r6, .int .i64 r7, .int .i64 r8], .bool r9]) ∧ Below w.heap.size w w' := by
 have hu24 := Try.underlying24
 have HB := Aside0.mk (Below.refl w.heap.size w)
 have H : ((impl_kind_asks.f a0).bind fun t377 => (if t377 = true then ((impl_Range_some.f k a1_0 a1_1 a1_2 a1_3).bind fun t378 => (if t378 = true then ((impl_Range_some.f k a2_0 a2_1 a2_2 a2_3).bind fun t379 => (impl_RangeBranch.j0 k a0 a3 (!t379) a1_0 a1_1 a1_2 a1_3 a2_0 a2_1 a2_2 a2_3)) else (impl_RangeBranch.j0 k a0 a3 true a1_0 a1_1 a1_2 a1_3 a2_0 a2_1 a2_2 a2_3))) else (impl_RangeBranch.j0 k a0 a3 true a1_0 a1_1 a1_2 a1_3 a2_0 a2_1 a2_2 a2_3))) = some (r1, r2, r3, r4, r5, r6, r7, r8, r9) := h
 clear h
 have HC5 := Aside0.mk H
 clear H
 go_enter Try.func6, Try.ntmps6
 go_upto_region 1 with (first | ((with_reducible refine gate_dst (N := 5) rfl ?_); refine be 5 #[.int .i64 a1_0, .int .i64 a1_1, .int .i64 a1_2, .int .i64 a1_3] 24 ?_; intro gb373 hg w6 hbox hb; have BK373 := Aside0.mk hbox; have GW373 := zW hg; replace HB := zS hb; have GE373 := GW373; clear hb hbox hg) | ((with_reducible refine gate_dst (N := 6) rfl ?_); refine be 6 #[.int .i64 a2_0, .int .i64 a2_1, .int .i64 a2_2, .int .i64 a2_3] 24 ?_; intro gb374 hg w7 hbox hb; have BK374 := Aside0.mk hbox; have GW374 := zW hg; replace HB := zS hb; have GE374 := GW374; have NB373_374 := zl BK373 hg rfl; have NB374_373 := zg BK373 hg rfl; replace BK373 := zb BK373 hb rfl; clear hb hbox hg) | ((with_reducible refine gate_dst (N := 8) rfl ?_); refine be 8 #[.int .i64 0, .int .i64 0, .int .i64 0, .int .i64 0] 24 ?_; intro gb375 hg w8 hbox hb; have BK375 := Aside0.mk hbox; have GW375 := zW hg; replace HB := zS hb; have GE375 := GW375; have NB373_375 := zl BK373 hg rfl; have NB375_373 := zg BK373 hg rfl; replace BK373 := zb BK373 hb rfl; have NB374_375 := zl BK374 hg rfl; have NB375_374 := zg BK374 hg rfl; replace BK374 := zb BK374 hb rfl; clear hb hbox hg) | ((with_reducible refine gate_dst (N := 9) rfl ?_); refine be 9 #[.int .i64 0, .int .i64 0, .int .i64 0, .int .i64 0] 24 ?_; intro gb376 hg w9 hbox hb; have BK376 := Aside0.mk hbox; have GW376 := zW hg; replace HB := zS hb; have GE376 := GW376; have NB373_376 := zl BK373 hg rfl; have NB376_373 := zg BK373 hg rfl; replace BK373 := zb BK373 hb rfl; have NB374_376 := zl BK374 hg rfl; have NB376_374 := zg BK374 hg rfl; replace BK374 := zb BK374 hb rfl; have NB375_376 := zl BK375 hg rfl; have NB376_375 := zg BK375 hg rfl; replace BK375 := zb BK375 hb rfl; clear hb hbox hg))
 (try simp only [Act.put, List.setIfInBounds_toArray, List.set_cons_zero, List.set_cons_succ])
 go_cut [23] (fun v23 wc => ∃ (kq : Nat) (x23_4 : Bool), v23 = .bool x23_4 ∧ Aside0 (impl_RangeBranch.j0 kq a0 a3 x23_4 a1_0 a1_1 a1_2 a1_3 a2_0 a2_1 a2_2 a2_3 = some (r1, r2, r3, r4, r5, r6, r7, r8, r9)) ∧ Aside0 (kq ≤ k) ∧ Aside0 (wc.heap[gb373]? = some (.cells #[.int .i64 a1_0, .int .i64 a1_1, .int .i64 a1_2, .int .i64 a1_3] 24 (0, 0))) ∧ Aside0 (wc.heap[gb374]? = some (.cells #[.int .i64 a2_0, .int .i64 a2_1, .int .i64 a2_2, .int .i64 a2_3] 24 (0, 0))) ∧ Aside0 (wc.heap[gb375]? = some (.cells #[.int .i64 0, .int .i64 0, .int .i64 0, .int .i64 0] 24 (0, 0))) ∧ Aside0 (wc.heap[gb376]? = some (.cells #[.int .i64 0, .int .i64 0, .int .i64 0, .int .i64 0] 24 (0, 0))) ∧ Aside0 (Below w.heap.size w wc))
 case first =>
  have H := HC5.out
  clear HC5
  replace H := Option.bind_eq_some_iff.mp H
  obtain ⟨t377, A100, H⟩ := H
  try dsimp only at H
  have A10 := Aside0.mk A100
  clear A100
  by_cases c11 : t377 = true
  ·subst c11
   rw [if_pos rfl] at H
   replace H := Option.bind_eq_some_iff.mp H
   obtain ⟨t378, A120, H⟩ := H
   try dsimp only at H
   have A12 := Aside0.mk A120
   clear A120
   by_cases c13 : t378 = true
   ·subst c13
    rw [if_pos rfl] at H
    replace H := Option.bind_eq_some_iff.mp H
    obtain ⟨t379, A140, H⟩ := H
    try dsimp only at H
    have A14 := Aside0.mk A140
    clear A140
    have H' := Aside0.mk H
    clear H
    go_wp2_with (first | ((with_reducible refine gate_callee (f := 13) rfl ?_); refine gl 12 Try.func13 #[.int .i64 a0] ?_; (with_reducible refine (impl_kind_asks.calls a0 true _ A10.out).mono ?_); rintro e w' ⟨rfl, ⟨nd, rfl⟩⟩; refine ⟨_, rfl, ?_⟩; have hnb15 := NB373_374.out; have hnc15 := NB374_373.out; have hnb16 := NB373_375.out; have hnc16 := NB375_373.out; have hnb17 := NB373_376.out; have hnc17 := NB376_373.out; obtain ⟨hcz18_0, hcz18_1, hcz18_2, hcz18_3, hfz18_0, hfz18_1, hfz18_2, hfz18_3⟩ := zc4 BK373) | (go_at_call 14; (with_reducible refine (impl_Range_some.calls k a1_0 a1_1 a1_2 a1_3 true _ A12.out).mono ?_); rintro e w19 ⟨rfl, hb⟩; replace BK373 := zb BK373 hb rfl; replace BK374 := zb BK374 hb rfl; replace BK375 := zb BK375 hb rfl; replace BK376 := zb BK376 hb rfl; replace HB := zS hb; try clear hb; have hnb20 := NB374_375.out; have hnc20 := NB375_374.out; have hnb21 := NB374_376.out; have hnc21 := NB376_374.out; obtain ⟨hcz22_0, hcz22_1, hcz22_2, hcz22_3, hfz22_0, hfz22_1, hfz22_2, hfz22_3⟩ := zc4 BK374) | (go_at_call 14; (with_reducible refine (impl_Range_some.calls k a2_0 a2_1 a2_2 a2_3 t379 _ A14.out).mono ?_); rintro e w23 ⟨rfl, hb⟩; replace BK373 := zb BK373 hb rfl; replace BK374 := zb BK374 hb rfl; replace BK375 := zb BK375 hb rfl; replace BK376 := zb BK376 hb rfl; replace HB := zS hb; try clear hb))
    go_meet
    case rel => exact ⟨_, (!t379), (by first | rfl | (simp; done) | (simp [*]; done)), H', ⟨by first | omega | exact Nat.le_refl _⟩, ⟨by exact bq BK373.out⟩, ⟨by exact bq BK374.out⟩, ⟨by exact bq BK375.out⟩, ⟨by exact bq BK376.out⟩, ⟨zB⟩⟩
   ·replace c13 := Bool.eq_false_iff.mpr c13
    subst c13
    rw [if_neg (show ¬ (false = true) by decide)] at H
    have H' := Aside0.mk H
    clear H
    go_wp2_with (first | ((with_reducible refine gate_callee (f := 13) rfl ?_); refine gl 12 Try.func13 #[.int .i64 a0] ?_; (with_reducible refine (impl_kind_asks.calls a0 true _ A10.out).mono ?_); rintro e w' ⟨rfl, ⟨nd, rfl⟩⟩; refine ⟨_, rfl, ?_⟩; have hnb24 := NB373_374.out; have hnc24 := NB374_373.out; have hnb25 := NB373_375.out; have hnc25 := NB375_373.out; have hnb26 := NB373_376.out; have hnc26 := NB376_373.out; obtain ⟨hcz27_0, hcz27_1, hcz27_2, hcz27_3, hfz27_0, hfz27_1, hfz27_2, hfz27_3⟩ := zc4 BK373) | (go_at_call 14; (with_reducible refine (impl_Range_some.calls k a1_0 a1_1 a1_2 a1_3 false _ A12.out).mono ?_); rintro e w28 ⟨rfl, hb⟩; replace BK373 := zb BK373 hb rfl; replace BK374 := zb BK374 hb rfl; replace BK375 := zb BK375 hb rfl; replace BK376 := zb BK376 hb rfl; replace HB := zS hb; try clear hb))
    go_meet
    case rel => exact ⟨_, (true), (by first | rfl | (simp; done) | (simp [*]; done)), H', ⟨by first | omega | exact Nat.le_refl _⟩, ⟨by exact bq BK373.out⟩, ⟨by exact bq BK374.out⟩, ⟨by exact bq BK375.out⟩, ⟨by exact bq BK376.out⟩, ⟨zB⟩⟩
  ·replace c11 := Bool.eq_false_iff.mpr c11
   subst c11
   rw [if_neg (show ¬ (false = true) by decide)] at H
   have H' := Aside0.mk H
   clear H
   go_wp2_with (first | ((with_reducible refine gate_callee (f := 13) rfl ?_); refine gl 12 Try.func13 #[.int .i64 a0] ?_; (with_reducible refine (impl_kind_asks.calls a0 false _ A10.out).mono ?_); rintro e w' ⟨rfl, ⟨nd, rfl⟩⟩; refine ⟨_, rfl, ?_⟩))
   go_meet
   case rel => exact ⟨_, (true), (by first | rfl | (simp; done) | (simp [*]; done)), H', ⟨by first | omega | exact Nat.le_refl _⟩, ⟨by exact bq BK373.out⟩, ⟨by exact bq BK374.out⟩, ⟨by exact bq BK375.out⟩, ⟨by exact bq BK376.out⟩, ⟨zB⟩⟩
 case rest =>
  clear HC5
  try clear c1
  try clear c2
  try clear p2
  try clear c6
  try clear c11
  try clear c13
  try clear c15
  try clear c16
  try clear c17
  try clear c20
  try clear c21
  try clear c24
  try clear c25
  try clear c26
  try clear hcz18_0 hcz18_1 hcz18_2 hcz18_3 hfz18_0 hfz18_1 hfz18_2 hfz18_3
  try clear hcz22_0 hcz22_1 hcz22_2 hcz22_3 hfz22_0 hfz22_1 hfz22_2 hfz22_3
  try clear hcz27_0 hcz27_1 hcz27_2 hcz27_3 hfz27_0 hfz27_1 hfz27_2 hfz27_3
  obtain ⟨kq, x23_4, rfl, HA, HJ4, BK373, BK374, BK375, BK376, HB⟩ := hcut
  cases kq with
  | zero => exact absurd HA.out (by simp [impl_RangeBranch.j0])
  | succ kj4 =>
   have H := HA.out
   clear HA
   simp only [impl_RangeBranch.j0] at H
   by_cases c29 : x23_4 = true
   ·subst c29
    rw [if_pos rfl] at H
    replace H := Option.bind_eq_some_iff.mp H
    obtain ⟨⟨t380, t381, t382, t383⟩, A300, H⟩ := H
    try dsimp only at H
    have A30 := Aside0.mk A300
    clear A300
    replace H := Option.bind_eq_some_iff.mp H
    obtain ⟨⟨t384, t385, t386, t387⟩, A310, H⟩ := H
    try dsimp only at H
    have A31 := Aside0.mk A310
    clear A310
    simp only [Option.some.injEq, Prod.mk.injEq] at H
    obtain ⟨rfl, rfl, rfl, rfl, rfl, rfl, rfl, rfl, rfl⟩ := H
    go_wp2_with (first | ((with_reducible refine gate_callee (f := 15) rfl ?_); refine gl 24 Try.func15 #[] ?_; (with_reducible refine (impl_noRange.calls  t380 t381 t382 t383 _ A30.out).mono ?_); rintro e w32 ⟨rfl, hb⟩; refine ⟨_, rfl, ?_⟩; replace BK373 := zb BK373 hb rfl; replace BK374 := zb BK374 hb rfl; replace BK375 := zb BK375 hb rfl; replace BK376 := zb BK376 hb rfl; replace HB := zS hb; try clear hb) | ((with_reducible refine gate_callee (f := 15) rfl ?_); refine gl 25 Try.func15 #[] ?_; (with_reducible refine (impl_noRange.calls  t384 t385 t386 t387 _ A31.out).mono ?_); rintro e w33 ⟨rfl, hb⟩; refine ⟨_, rfl, ?_⟩; replace BK373 := zb BK373 hb rfl; replace BK374 := zb BK374 hb rfl; replace BK375 := zb BK375 hb rfl; replace BK376 := zb BK376 hb rfl; replace HB := zS hb; try clear hb; have hnb34 := NB375_373.out; have hnc34 := NB373_375.out; have hnb35 := NB375_374.out; have hnc35 := NB374_375.out; have hnb36 := NB375_376.out; have hnc36 := NB376_375.out; obtain ⟨hcz37_0, hcz37_1, hcz37_2, hcz37_3, hfz37_0, hfz37_1, hfz37_2, hfz37_3⟩ := zc4 BK375; have hnb38 := NB376_373.out; have hnc38 := NB373_376.out; have hnb39 := NB376_374.out; have hnc39 := NB374_376.out; obtain ⟨hcz40_0, hcz40_1, hcz40_2, hcz40_3, hfz40_0, hfz40_1, hfz40_2, hfz40_3⟩ := zc4 BK376))
    refine bodyPost_ret (results_list (rs := [.cell 8 24, .cell 9 24, .tmp 10]) rfl (by simp) (.cell gb375 24 #[.int .i64 t380, .int .i64 t381, .int .i64 t382, .int .i64 t383] (0, 0) _ rfl (by refine fq ?_ NB375_376.out; refine fq ?_ NB375_376.out; refine fq ?_ NB375_376.out; refine fq ?_ NB375_376.out; refine bq ?_; refine blk_put (cs := #[.int .i64 t380, .int .i64 t381, .int .i64 t382, .int .i64 0]) ?_ 3 _ rfl; refine bq ?_; refine blk_put (cs := #[.int .i64 t380, .int .i64 t381, .int .i64 0, .int .i64 0]) ?_ 2 _ rfl; refine bq ?_; refine blk_put (cs := #[.int .i64 t380, .int .i64 0, .int .i64 0, .int .i64 0]) ?_ 1 _ rfl; refine bq ?_; refine blk_put (cs := #[.int .i64 0, .int .i64 0, .int .i64 0, .int .i64 0]) ?_ 0 _ rfl; exact bq BK375.out) Try.underlying24 rfl (by kernel_rfl) (.cell gb376 24 #[.int .i64 t384, .int .i64 t385, .int .i64 t386, .int .i64 t387] (0, 0) _ rfl (by refine bq ?_; refine blk_put (cs := #[.int .i64 t384, .int .i64 t385, .int .i64 t386, .int .i64 0]) ?_ 3 _ rfl; refine bq ?_; refine blk_put (cs := #[.int .i64 t384, .int .i64 t385, .int .i64 0, .int .i64 0]) ?_ 2 _ rfl; refine bq ?_; refine blk_put (cs := #[.int .i64 t384, .int .i64 0, .int .i64 0, .int .i64 0]) ?_ 1 _ rfl; refine bq ?_; refine blk_put (cs := #[.int .i64 0, .int .i64 0, .int .i64 0, .int .i64 0]) ?_ 0 _ rfl; refine fq ?_ NB376_375.out; refine fq ?_ NB376_375.out; refine fq ?_ NB376_375.out; refine fq ?_ NB376_375.out; exact bq BK376.out) Try.underlying24 rfl (by kernel_rfl) (.tmp .nil)))) rfl ?_
    exact ⟨zR, zB⟩
   ·replace c29 := Bool.eq_false_iff.mpr c29
    subst c29
    rw [if_neg (show ¬ (false = true) by decide)] at H
    replace H := Option.bind_eq_some_iff.mp H
    obtain ⟨⟨t388, t389, t390, t391, t392, t393, t394, t395, t396⟩, A410, H⟩ := H
    try dsimp only at H
    have A41 := Aside0.mk A410
    clear A410
    simp only [Option.some.injEq, Prod.mk.injEq] at H
    obtain ⟨rfl, rfl, rfl, rfl, rfl, rfl, rfl, rfl, rfl⟩ := H
    have hnb42 := NB373_374.out
    have hnc42 := NB374_373.out
    have hnb43 := NB373_375.out
    have hnc43 := NB375_373.out
    have hnb44 := NB373_376.out
    have hnc44 := NB376_373.out
    obtain ⟨hcz45_0, hcz45_1, hcz45_2, hcz45_3, hfz45_0, hfz45_1, hfz45_2, hfz45_3⟩ := zc4 BK373
    have hnb46 := NB374_375.out
    have hnc46 := NB375_374.out
    have hnb47 := NB374_376.out
    have hnc47 := NB376_374.out
    obtain ⟨hcz48_0, hcz48_1, hcz48_2, hcz48_3, hfz48_0, hfz48_1, hfz48_2, hfz48_3⟩ := zc4 BK374
    go_wp2_with (first | ((with_reducible refine gate_callee (f := 16) rfl ?_); refine gl 30 Try.func16 #[.int .i64 a0, .agg #[.int .i64 a1_0, .int .i64 a1_1, .int .i64 a1_2, .int .i64 a1_3], .agg #[.int .i64 a2_0, .int .i64 a2_1, .int .i64 a2_2, .int .i64 a2_3], .bool a3] ?_; (with_reducible refine (impl_branch.calls kj4 a0 a1_0 a1_1 a1_2 a1_3 a2_0 a2_1 a2_2 a2_3 a3 t388 t389 t390 t391 t392 t393 t394 t395 t396 _ A41.out).mono ?_); rintro e w49 ⟨rfl, hb⟩; refine ⟨_, rfl, ?_⟩; replace BK373 := zb BK373 hb rfl; replace BK374 := zb BK374 hb rfl; replace BK375 := zb BK375 hb rfl; replace BK376 := zb BK376 hb rfl; replace HB := zS hb; try clear hb; have hnb50 := NB375_376.out; have hnc50 := NB376_375.out; obtain ⟨hcz51_0, hcz51_1, hcz51_2, hcz51_3, hfz51_0, hfz51_1, hfz51_2, hfz51_3⟩ := zc4 BK375; obtain ⟨hcz52_0, hcz52_1, hcz52_2, hcz52_3, hfz52_0, hfz52_1, hfz52_2, hfz52_3⟩ := zc4 BK376))
    refine bodyPost_ret (results_list (rs := [.cell 8 24, .cell 9 24, .tmp 10]) rfl (by simp) (.cell gb375 24 #[.int .i64 t388, .int .i64 t389, .int .i64 t390, .int .i64 t391] (0, 0) _ rfl (by refine fq ?_ NB375_376.out; refine fq ?_ NB375_376.out; refine fq ?_ NB375_376.out; refine fq ?_ NB375_376.out; refine bq ?_; refine blk_put (cs := #[.int .i64 t388, .int .i64 t389, .int .i64 t390, .int .i64 0]) ?_ 3 _ rfl; refine bq ?_; refine blk_put (cs := #[.int .i64 t388, .int .i64 t389, .int .i64 0, .int .i64 0]) ?_ 2 _ rfl; refine bq ?_; refine blk_put (cs := #[.int .i64 t388, .int .i64 0, .int .i64 0, .int .i64 0]) ?_ 1 _ rfl; refine bq ?_; refine blk_put (cs := #[.int .i64 0, .int .i64 0, .int .i64 0, .int .i64 0]) ?_ 0 _ rfl; exact bq BK375.out) Try.underlying24 rfl (by kernel_rfl) (.cell gb376 24 #[.int .i64 t392, .int .i64 t393, .int .i64 t394, .int .i64 t395] (0, 0) _ rfl (by refine bq ?_; refine blk_put (cs := #[.int .i64 t392, .int .i64 t393, .int .i64 t394, .int .i64 0]) ?_ 3 _ rfl; refine bq ?_; refine blk_put (cs := #[.int .i64 t392, .int .i64 t393, .int .i64 0, .int .i64 0]) ?_ 2 _ rfl; refine bq ?_; refine blk_put (cs := #[.int .i64 t392, .int .i64 0, .int .i64 0, .int .i64 0]) ?_ 1 _ rfl; refine bq ?_; refine blk_put (cs := #[.int .i64 0, .int .i64 0, .int .i64 0, .int .i64 0]) ?_ 0 _ rfl; refine fq ?_ NB376_375.out; refine fq ?_ NB376_375.out; refine fq ?_ NB376_375.out; refine fq ?_ NB376_375.out; exact bq BK376.out) Try.underlying24 rfl (by kernel_rfl) (.tmp .nil)))) rfl ?_
    exact ⟨zR, zB⟩

/-! ### laws_eqRange: function 7 -/
def laws_eqRange.f (a0_0 : Int) (a0_1 : Int) (a0_2 : Int) (a0_3 : Int) (a1_0 : Int) (a1_1 : Int) (a1_2 : Int) (a1_3 : Int) : Option (Bool) := if a0_0 = a1_0 then (if a0_1 = a1_1 then (if a0_2 = a1_2 then (if a0_3 = a1_3 then (some true) else (some false)) else (some false)) else (some false)) else (some false)
set_option maxHeartbeats 8000000 in
set_option maxRecDepth 100000 in
theorem laws_eqRange.calls (a0_0 : Int) (a0_1 : Int) (a0_2 : Int) (a0_3 : Int) (a1_0 : Int) (a1_1 : Int) (a1_2 : Int) (a1_3 : Int) (r : Bool) (w : World) (h : laws_eqRange.f a0_0 a0_1 a0_2 a0_3 a1_0 a1_1 a1_2 a1_3 = some r) :
  Calls Try.prog 7 #[.agg #[.int .i64 a0_0, .int .i64 a0_1, .int .i64 a0_2, .int .i64 a0_3], .agg #[.int .i64 a1_0, .int .i64 a1_1, .int .i64 a1_2, .int .i64 a1_3]] w fun e w' => e = .returned (.bool r) ∧ Below w.heap.size w w' := by
 have hu24 := Try.underlying24
 have HB := Aside0.mk (Below.refl w.heap.size w)
 have H : (if a0_0 = a1_0 then (if a0_1 = a1_1 then (if a0_2 = a1_2 then (if a0_3 = a1_3 then (some true) else (some false)) else (some false)) else (some false)) else (some false)) = some r := h
 clear h
 by_cases c3 : a0_0 = a1_0
 ·rw [if_pos c3] at H
  have c3b0 : (a0_0 == a1_0) = true := beq_iff_eq.mpr c3
  have c3b1 : (a0_0 != a1_0) = false := bne_eq_false_iff_eq.mpr c3
  clear c3
  by_cases c4 : a0_1 = a1_1
  ·rw [if_pos c4] at H
   have c4b0 : (a0_1 == a1_1) = true := beq_iff_eq.mpr c4
   have c4b1 : (a0_1 != a1_1) = false := bne_eq_false_iff_eq.mpr c4
   clear c4
   by_cases c5 : a0_2 = a1_2
   ·rw [if_pos c5] at H
    have c5b0 : (a0_2 == a1_2) = true := beq_iff_eq.mpr c5
    have c5b1 : (a0_2 != a1_2) = false := bne_eq_false_iff_eq.mpr c5
    clear c5
    by_cases c6 : a0_3 = a1_3
    ·rw [if_pos c6] at H
     have c6b0 : (a0_3 == a1_3) = true := beq_iff_eq.mpr c6
     have c6b1 : (a0_3 != a1_3) = false := bne_eq_false_iff_eq.mpr c6
     clear c6
     obtain rfl := Option.some.inj H
     go_enter Try.func7, Try.ntmps7
     go_wp2_with (first | ((with_reducible refine gate_dst (N := 2) rfl ?_); refine be 2 #[.int .i64 a0_0, .int .i64 a0_1, .int .i64 a0_2, .int .i64 a0_3] 24 ?_; intro gb397 hg w7 hbox hb; have BK397 := Aside0.mk hbox; have GW397 := zW hg; replace HB := zS hb; have GE397 := GW397; clear hb hbox hg) | ((with_reducible refine gate_dst (N := 3) rfl ?_); refine be 3 #[.int .i64 a1_0, .int .i64 a1_1, .int .i64 a1_2, .int .i64 a1_3] 24 ?_; intro gb398 hg w8 hbox hb; have BK398 := Aside0.mk hbox; have GW398 := zW hg; replace HB := zS hb; have GE398 := GW398; have NB397_398 := zl BK397 hg rfl; have NB398_397 := zg BK397 hg rfl; replace BK397 := zb BK397 hb rfl; clear hb hbox hg; have hnb9 := NB397_398.out; have hnc9 := NB398_397.out; obtain ⟨hcz10_0, hcz10_1, hcz10_2, hcz10_3, hfz10_0, hfz10_1, hfz10_2, hfz10_3⟩ := zc4 BK397; obtain ⟨hcz11_0, hcz11_1, hcz11_2, hcz11_3, hfz11_0, hfz11_1, hfz11_2, hfz11_3⟩ := zc4 BK398))
     go_ret
     exact ⟨zR, zB⟩
    ·rw [if_neg c6] at H
     have c6b0 : (a0_3 == a1_3) = false := beq_eq_false_iff_ne.mpr c6
     have c6b1 : (a0_3 != a1_3) = true := bne_iff_ne.mpr c6
     obtain rfl := Option.some.inj H
     go_enter Try.func7, Try.ntmps7
     go_wp2_with (first | ((with_reducible refine gate_dst (N := 2) rfl ?_); refine be 2 #[.int .i64 a0_0, .int .i64 a0_1, .int .i64 a0_2, .int .i64 a0_3] 24 ?_; intro gb397 hg w12 hbox hb; have BK397 := Aside0.mk hbox; have GW397 := zW hg; replace HB := zS hb; have GE397 := GW397; clear hb hbox hg) | ((with_reducible refine gate_dst (N := 3) rfl ?_); refine be 3 #[.int .i64 a1_0, .int .i64 a1_1, .int .i64 a1_2, .int .i64 a1_3] 24 ?_; intro gb398 hg w13 hbox hb; have BK398 := Aside0.mk hbox; have GW398 := zW hg; replace HB := zS hb; have GE398 := GW398; have NB397_398 := zl BK397 hg rfl; have NB398_397 := zg BK397 hg rfl; replace BK397 := zb BK397 hb rfl; clear hb hbox hg; have hnb14 := NB397_398.out; have hnc14 := NB398_397.out; obtain ⟨hcz15_0, hcz15_1, hcz15_2, hcz15_3, hfz15_0, hfz15_1, hfz15_2, hfz15_3⟩ := zc4 BK397; obtain ⟨hcz16_0, hcz16_1, hcz16_2, hcz16_3, hfz16_0, hfz16_1, hfz16_2, hfz16_3⟩ := zc4 BK398))
     go_ret
     exact ⟨zR, zB⟩
   ·rw [if_neg c5] at H
    have c5b0 : (a0_2 == a1_2) = false := beq_eq_false_iff_ne.mpr c5
    have c5b1 : (a0_2 != a1_2) = true := bne_iff_ne.mpr c5
    obtain rfl := Option.some.inj H
    go_enter Try.func7, Try.ntmps7
    go_wp2_with (first | ((with_reducible refine gate_dst (N := 2) rfl ?_); refine be 2 #[.int .i64 a0_0, .int .i64 a0_1, .int .i64 a0_2, .int .i64 a0_3] 24 ?_; intro gb397 hg w17 hbox hb; have BK397 := Aside0.mk hbox; have GW397 := zW hg; replace HB := zS hb; have GE397 := GW397; clear hb hbox hg) | ((with_reducible refine gate_dst (N := 3) rfl ?_); refine be 3 #[.int .i64 a1_0, .int .i64 a1_1, .int .i64 a1_2, .int .i64 a1_3] 24 ?_; intro gb398 hg w18 hbox hb; have BK398 := Aside0.mk hbox; have GW398 := zW hg; replace HB := zS hb; have GE398 := GW398; have NB397_398 := zl BK397 hg rfl; have NB398_397 := zg BK397 hg rfl; replace BK397 := zb BK397 hb rfl; clear hb hbox hg; have hnb19 := NB397_398.out; have hnc19 := NB398_397.out; obtain ⟨hcz20_0, hcz20_1, hcz20_2, hcz20_3, hfz20_0, hfz20_1, hfz20_2, hfz20_3⟩ := zc4 BK397; obtain ⟨hcz21_0, hcz21_1, hcz21_2, hcz21_3, hfz21_0, hfz21_1, hfz21_2, hfz21_3⟩ := zc4 BK398))
    go_ret
    exact ⟨zR, zB⟩
  ·rw [if_neg c4] at H
   have c4b0 : (a0_1 == a1_1) = false := beq_eq_false_iff_ne.mpr c4
   have c4b1 : (a0_1 != a1_1) = true := bne_iff_ne.mpr c4
   obtain rfl := Option.some.inj H
   go_enter Try.func7, Try.ntmps7
   go_wp2_with (first | ((with_reducible refine gate_dst (N := 2) rfl ?_); refine be 2 #[.int .i64 a0_0, .int .i64 a0_1, .int .i64 a0_2, .int .i64 a0_3] 24 ?_; intro gb397 hg w22 hbox hb; have BK397 := Aside0.mk hbox; have GW397 := zW hg; replace HB := zS hb; have GE397 := GW397; clear hb hbox hg) | ((with_reducible refine gate_dst (N := 3) rfl ?_); refine be 3 #[.int .i64 a1_0, .int .i64 a1_1, .int .i64 a1_2, .int .i64 a1_3] 24 ?_; intro gb398 hg w23 hbox hb; have BK398 := Aside0.mk hbox; have GW398 := zW hg; replace HB := zS hb; have GE398 := GW398; have NB397_398 := zl BK397 hg rfl; have NB398_397 := zg BK397 hg rfl; replace BK397 := zb BK397 hb rfl; clear hb hbox hg; have hnb24 := NB397_398.out; have hnc24 := NB398_397.out; obtain ⟨hcz25_0, hcz25_1, hcz25_2, hcz25_3, hfz25_0, hfz25_1, hfz25_2, hfz25_3⟩ := zc4 BK397; obtain ⟨hcz26_0, hcz26_1, hcz26_2, hcz26_3, hfz26_0, hfz26_1, hfz26_2, hfz26_3⟩ := zc4 BK398))
   go_ret
   exact ⟨zR, zB⟩
 ·rw [if_neg c3] at H
  have c3b0 : (a0_0 == a1_0) = false := beq_eq_false_iff_ne.mpr c3
  have c3b1 : (a0_0 != a1_0) = true := bne_iff_ne.mpr c3
  obtain rfl := Option.some.inj H
  go_enter Try.func7, Try.ntmps7
  go_wp2_with (first | ((with_reducible refine gate_dst (N := 2) rfl ?_); refine be 2 #[.int .i64 a0_0, .int .i64 a0_1, .int .i64 a0_2, .int .i64 a0_3] 24 ?_; intro gb397 hg w27 hbox hb; have BK397 := Aside0.mk hbox; have GW397 := zW hg; replace HB := zS hb; have GE397 := GW397; clear hb hbox hg) | ((with_reducible refine gate_dst (N := 3) rfl ?_); refine be 3 #[.int .i64 a1_0, .int .i64 a1_1, .int .i64 a1_2, .int .i64 a1_3] 24 ?_; intro gb398 hg w28 hbox hb; have BK398 := Aside0.mk hbox; have GW398 := zW hg; replace HB := zS hb; have GE398 := GW398; have NB397_398 := zl BK397 hg rfl; have NB398_397 := zg BK397 hg rfl; replace BK397 := zb BK397 hb rfl; clear hb hbox hg; have hnb29 := NB397_398.out; have hnc29 := NB398_397.out; obtain ⟨hcz30_0, hcz30_1, hcz30_2, hcz30_3, hfz30_0, hfz30_1, hfz30_2, hfz30_3⟩ := zc4 BK397; obtain ⟨hcz31_0, hcz31_1, hcz31_2, hcz31_3, hfz31_0, hfz31_1, hfz31_2, hfz31_3⟩ := zc4 BK398))
  go_ret
  exact ⟨zR, zB⟩

end Go.Proofs.Ytjengfiaphgjbaa.Q
