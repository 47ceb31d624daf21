/- The machine's side of this seat's laws: Go functions as Lean functions, and their contracts. By a program of this work over the kit's print. -/
import Derived.Test.YtcobkligpdaanaaQ0
import Derived.Test.YtcobkligpdaanaaQ1
import Derived.Test.YtcobkligpdaanaaQ3
import Derived.Test.YtcobkligpdaanaaQ4
import Derived.Test.YtcobkligpdaanaaQ6
import Derived.Test.YtcobkligpdaanaaQ7
import Derived.Test.YtcobkligpdaanaaQ9
import Derived.Test.YtcobkligpdaanaaQ13
import Derived.Test.YtcobkligpdaanaaQ16
namespace Go.Proofs.Ytcobkligpdaanaa.Q
open Go.RowKit Go.Proofs.YtcobkligpdaanaaW.PrintWords Go.Proofs.YtcobkligpdaanaaW.PrintLast Go.Proofs.YtcobkligpdaanaaW.PrintMore
attribute [local go_sem] max2_int min2_int max_two min_two max_three min_three max_four min_four Go.Proofs.YtcobkligpdaanaaN.not_i64   -- for this text's walks alone
set_option linter.unusedVariables false
set_option linter.unusedSimpArgs false

attribute [local go_sem high] eqA24
/-! ### spec_DrawRangeHas: function 17 -/
def spec_DrawRangeHas.f (k : Nat) (l0 : List Int) : Option (Int × Int × Int × Int × Int) := (spec_l20Open.f l0).bind fun bt356 => ((spec_l20Range.f k bt356.1 bt356.2).bind fun bt359 => ((spec_l20Rd_pick.f k bt356.1 bt359.2.2.2.2.2 2).bind fun bt366 => (if bt366.1 = 0 then (some (bt359.1, bt359.2.1, bt359.2.2.1, bt359.2.2.2.1, bt359.2.2.2.2.1)) else ((spec_l20AnyRange.f k bt356.1 bt366.2).bind fun bt368 => ((spec_l20Number.f k bt356.1 bt368.2.2.2.2).bind fun bt373 => (some (bt368.1, bt368.2.1, bt368.2.2.1, bt368.2.2.2.1, bt373.1)))))))

set_option maxHeartbeats 8000000 in
set_option maxRecDepth 100000 in
theorem spec_DrawRangeHas.calls (k : Nat) (A0 : Option Addr) (c0 : Nat) (l0 : List Int) (r1 : Int) (r2 : Int) (r3 : Int) (r4 : Int) (r5 : Int) (w : World) (hr0 : Kd.C (Kd.int .u8) w A0 l0.length l0) (hc0 : l0.length ≤ c0) (h : spec_DrawRangeHas.f k l0 = some (r1, r2, r3, r4, r5)) :
  Calls Try.prog 17 #[.slice A0 l0.length c0] w fun e w' => e = .returned (.tuple #[.agg #[.int .i64 r1, .int .i64 r2, .int .i64 r3, .int .i64 r4], .int .i64 r5]) ∧ Below w.heap.size w w' := by
 have hu24 := Try.underlying24
 have HR0 := Aside0.mk hr0
 have HC0 := Aside0.mk hc0
 clear hr0 hc0
 have HB := Aside0.mk (Below.refl w.heap.size w)
 have H : ((spec_l20Open.f l0).bind fun bt356 => ((spec_l20Range.f k bt356.1 bt356.2).bind fun bt359 => ((spec_l20Rd_pick.f k bt356.1 bt359.2.2.2.2.2 2).bind fun bt366 => (if bt366.1 = 0 then (some (bt359.1, bt359.2.1, bt359.2.2.1, bt359.2.2.2.1, bt359.2.2.2.2.1)) else ((spec_l20AnyRange.f k bt356.1 bt366.2).bind fun bt368 => ((spec_l20Number.f k bt356.1 bt368.2.2.2.2).bind fun bt373 => (some (bt368.1, bt368.2.1, bt368.2.2.1, bt368.2.2.2.1, bt373.1)))))))) = some (r1, r2, r3, r4, r5) := h
 clear h
 replace H := Option.bind_eq_some_iff.mp H
 obtain ⟨⟨t356, t357⟩, A20, H⟩ := H
 try dsimp only at H
 have A2 := Aside0.mk A20
 clear A20
 replace H := Option.bind_eq_some_iff.mp H
 obtain ⟨⟨t359, t360, t361, t362, t363, t364⟩, A30, H⟩ := H
 try dsimp only at H
 have A3 := Aside0.mk A30
 clear A30
 replace H := Option.bind_eq_some_iff.mp H
 obtain ⟨⟨t366, t367⟩, A40, H⟩ := H
 try dsimp only at H
 have A4 := Aside0.mk A40
 clear A40
 by_cases c5 : t366 = 0
 ·rw [if_pos c5] at H
  have c5b0 : (t366 == 0) = true := beq_iff_eq.mpr c5
  have c5b1 : (t366 != 0) = false := bne_eq_false_iff_eq.mpr c5
  clear c5
  simp only [Option.some.injEq, Prod.mk.injEq] at H
  obtain ⟨rfl, rfl, rfl, rfl, rfl⟩ := H
  go_enter Try.func17, Try.ntmps17
  go_wp2_with (first | ((with_reducible refine gate_dst (N := 2) rfl ?_); refine box_event ?hg (N := 2) ?hd (cs := #[.int .i64 0, .int .i64 0, .int .i64 0, .int .i64 0]) (t := 24) ?hr ?_; (case hd => rfl); (case hg => rfl); (case hr => first | (go_simp; done) | (go_simp; rfl)); intro gb355 hg w6 hbox hb; have n0_ := Aside0.mk (below_step (by repeat first | (with_reducible first | exact HB.out | apply vA | apply vN | apply vD) | exact HB.out) hb); have n1_ := Aside0.mk (hbox); have n2_ := Aside0.mk ((by rw [hg]; exact (below_size (by repeat first | (with_reducible first | exact HB.out | apply vA | apply vN | apply vD) | exact HB.out)) : w.heap.size ≤ gb355)); have n3_ := n2_; clear HB; have HB := n0_; have BK355 := n1_; have GW355 := n2_; have GE355 := n3_; clear n0_ n1_ n2_ n3_; clear hb hbox hg) | ((with_reducible refine gate_callee (f := 52) rfl ?_); refine goesL_ (some 8) rfl rfl Try.func52 (by kernel_rfl) rfl #[.slice A0 l0.length c0] rfl (by (try simp only [List.map_toArray, List.map_cons, List.map_nil]); first | done | rfl | (simp only [List.length_drop, List.length_take]; rfl)) ?_; (with_reducible refine (spec_l20Open.calls _ _ l0 t356 t357 w _ ?side1 ?side2 ?side3 A2.out).mono ?_); (case side1 => repeat (first | (with_reducible first | exact HB.out | apply below_alloc | apply pw_below_drewN | apply below_drew1 | refine below_set ?_ GE355.out) | exact HB.out)); (case side2 => exact HR0.out); (case side3 => exact HC0.out); rintro e w7 ⟨g358, rfl, hi, hb, hb2⟩; refine ⟨_, rfl, ?_⟩; have n0_ := Aside0.mk (blk_below (g := gb355) (o := .cells #[.int .i64 0, .int .i64 0, .int .i64 0, .int .i64 0] 24 (0, 0)) (by (with_reducible repeat first | apply bN | apply bD | apply bA); exact BK355.out) hb2); have n1_ := Aside0.mk (hb); have n2_ := Aside0.mk (hi); have n3_ := Aside0.mk (IsS101.ne_blk hi (blk_below (g := gb355) (o := .cells #[.int .i64 0, .int .i64 0, .int .i64 0, .int .i64 0] 24 (0, 0)) (by (with_reducible repeat first | apply bN | apply bD | apply bA); exact BK355.out) hb2) (by decide)); have n4_ := Aside0.mk (Ne.symm (IsS101.ne_blk hi (blk_below (g := gb355) (o := .cells #[.int .i64 0, .int .i64 0, .int .i64 0, .int .i64 0] 24 (0, 0)) (by (with_reducible repeat first | apply bN | apply bD | apply bA); exact BK355.out) hb2) (by decide))); clear BK355; clear HB; have BK355 := n0_; have HB := n1_; have HI358 := n2_; have NB358_355 := n3_; have NB355_358 := n4_; clear n0_ n1_ n2_ n3_ n4_; (try clear hb); (try clear hb2); (try clear hk); (try clear hi)) | ((with_reducible refine gate_callee (f := 58) rfl ?_); refine goesL_ (some 11) rfl rfl Try.func58 (by kernel_rfl) rfl #[.pointer (some ⟨g358, 0, none⟩)] rfl (by (try simp only [List.map_toArray, List.map_cons, List.map_nil]); first | done | rfl | (simp only [List.length_drop, List.length_take]; rfl)) ?_; (with_reducible refine (spec_l20Range.calls k g358 t356 t357 t359 t360 t361 t362 t363 t364 w _ ?side1 ?side2 A3.out).mono ?_); (case side1 => repeat (first | (with_reducible first | exact HI358.out | apply IsS101.alloc | apply IsS101.drewN | apply IsS101.drew | apply IsS101.set_1 | refine IsS101.far ?_ NB358_355.out _) | exact HI358.out)); (case side2 => repeat (first | (with_reducible first | exact HB.out | apply below_alloc | apply pw_below_drewN | apply below_drew1 | refine below_set ?_ (IsS101.ge HI358.out) | refine below_set ?_ GE355.out) | exact HB.out)); rintro e w8 ⟨rfl, hi, hb, hk⟩; refine ⟨_, rfl, ?_⟩; have n0_ := Aside0.mk (KeepBut.blk hk (g' := gb355) (o := .cells #[.int .i64 0, .int .i64 0, .int .i64 0, .int .i64 0] 24 (0, 0)) (by (with_reducible repeat first | apply bN | apply bD | apply bA); exact BK355.out) NB355_358.out (by simp)); have n1_ := Aside0.mk (hb); have n2_ := Aside0.mk (hi); clear BK355; clear HB; clear HI358; have BK355 := n0_; have HB := n1_; have HI358 := n2_; clear n0_ n1_ n2_; (try clear hb); (try clear hb2); (try clear hk); (try clear hi)) | ((with_reducible refine gate_dst (N := 5) rfl ?_); refine box_event ?hg (N := 5) ?hd (cs := #[.int .i64 0, .int .i64 0, .int .i64 0, .int .i64 0]) (t := 24) ?hr ?_; (case hd => rfl); (case hg => rfl); (case hr => first | (go_simp; done) | (go_simp; rfl)); intro gb365 hg w9 hbox hb; have n0_ := zb BK355 hb rfl; have n1_ := Aside0.mk (IsS101.below (by repeat (first | (with_reducible first | exact HI358.out | apply IsS101.alloc | apply IsS101.drewN | apply IsS101.drew | apply IsS101.set_1 | refine IsS101.far ?_ NB358_355.out _) | exact HI358.out)) hb); have n2_ := Aside0.mk (below_step (by repeat (first | (with_reducible first | exact HB.out | apply below_alloc | apply pw_below_drewN | apply below_drew1 | refine below_set ?_ (IsS101.ge HI358.out) | refine below_set ?_ GE355.out) | exact HB.out)) hb); have n3_ := Aside0.mk (hbox); have n4_ := Aside0.mk ((by rw [hg]; exact (below_size (by repeat (first | (with_reducible first | exact HB.out | apply below_alloc | apply pw_below_drewN | apply below_drew1 | refine below_set ?_ (IsS101.ge HI358.out) | refine below_set ?_ GE355.out) | exact HB.out))) : w.heap.size ≤ gb365)); have n5_ := n4_; have n6_ := zl BK355 hg rfl; have n7_ := zg BK355 hg rfl; have n8_ := Aside0.mk ((by rw [hg]; exact Nat.ne_of_lt (IsS101.lt (show IsS101 w _ g358 t356 t364 from by repeat (first | (with_reducible first | exact HI358.out | apply IsS101.alloc | apply IsS101.drewN | apply IsS101.drew | apply IsS101.set_1 | refine IsS101.far ?_ NB358_355.out _) | exact HI358.out))) : g358 ≠ gb365)); have n9_ := Aside0.mk ((by rw [hg]; exact Nat.ne_of_gt (IsS101.lt (show IsS101 w _ g358 t356 t364 from by repeat (first | (with_reducible first | exact HI358.out | apply IsS101.alloc | apply IsS101.drewN | apply IsS101.drew | apply IsS101.set_1 | refine IsS101.far ?_ NB358_355.out _) | exact HI358.out))) : gb365 ≠ g358)); clear BK355; clear HI358; clear HB; have BK355 := n0_; have HI358 := n1_; have HB := n2_; have BK365 := n3_; have GW365 := n4_; have GE365 := n5_; have NB355_365 := n6_; have NB365_355 := n7_; have NB358_365 := n8_; have NB365_358 := n9_; clear n0_ n1_ n2_ n3_ n4_ n5_ n6_ n7_ n8_ n9_; clear hb hbox hg; have hnb10 := NB365_355.out; have hnc10 := NB355_365.out; have hnb11 := NB365_358.out; have hnc11 := NB358_365.out; obtain ⟨hcz12_0, hcz12_1, hcz12_2, hcz12_3, hfz12_0, hfz12_1, hfz12_2, hfz12_3⟩ := zc4 BK365) | ((with_reducible refine gate_callee (f := 59) rfl ?_); refine goesL_ (some 15) rfl rfl Try.func59 (by kernel_rfl) rfl #[.pointer (some ⟨g358, 0, none⟩), .int .i64 2] rfl (by (try simp only [List.map_toArray, List.map_cons, List.map_nil]); first | done | rfl | (simp only [List.length_drop, List.length_take]; rfl)) ?_; (with_reducible refine (spec_l20Rd_pick.calls k g358 t356 t364 2 t366 t367 w _ ?side1 ?side2 A4.out).mono ?_); (case side1 => repeat (first | (with_reducible first | exact HI358.out | apply IsS101.alloc | apply IsS101.drewN | apply IsS101.drew | apply IsS101.set_1 | refine IsS101.far ?_ NB358_355.out _ | refine IsS101.far ?_ NB358_365.out _) | exact HI358.out)); (case side2 => repeat (first | (with_reducible first | exact HB.out | apply below_alloc | apply pw_below_drewN | apply below_drew1 | refine below_set ?_ (IsS101.ge HI358.out) | refine below_set ?_ GE355.out | refine below_set ?_ GE365.out) | exact HB.out)); rintro e w13 ⟨rfl, hi, hb, hk⟩; refine ⟨_, rfl, ?_⟩; have n0_ := Aside0.mk (KeepBut.blk hk (g' := gb355) (o := .cells #[.int .i64 0, .int .i64 0, .int .i64 0, .int .i64 0] 24 (0, 0)) (by (with_reducible repeat first | apply bN | apply bD | apply bA); refine blk_far ?_ NB355_365.out _; (with_reducible repeat first | apply bN | apply bD | apply bA); refine blk_far ?_ NB355_365.out _; (with_reducible repeat first | apply bN | apply bD | apply bA); refine blk_far ?_ NB355_365.out _; (with_reducible repeat first | apply bN | apply bD | apply bA); refine blk_far ?_ NB355_365.out _; (with_reducible repeat first | apply bN | apply bD | apply bA); exact BK355.out) NB355_358.out (by simp)); have n1_ := Aside0.mk (KeepBut.blk hk (g' := gb365) (o := .cells #[.int .i64 t359, .int .i64 t360, .int .i64 t361, .int .i64 t362] 24 (0, 0)) (by (with_reducible repeat first | apply bN | apply bD | apply bA); refine blk_put (cs := #[.int .i64 t359, .int .i64 t360, .int .i64 t361, .int .i64 0]) ?_ 3 _ rfl; (with_reducible repeat first | apply bN | apply bD | apply bA); refine blk_put (cs := #[.int .i64 t359, .int .i64 t360, .int .i64 0, .int .i64 0]) ?_ 2 _ rfl; (with_reducible repeat first | apply bN | apply bD | apply bA); refine blk_put (cs := #[.int .i64 t359, .int .i64 0, .int .i64 0, .int .i64 0]) ?_ 1 _ rfl; (with_reducible repeat first | apply bN | apply bD | apply bA); refine blk_put (cs := #[.int .i64 0, .int .i64 0, .int .i64 0, .int .i64 0]) ?_ 0 _ rfl; (with_reducible repeat first | apply bN | apply bD | apply bA); exact BK365.out) NB365_358.out (by simp)); have n2_ := Aside0.mk (hb); have n3_ := Aside0.mk (hi); clear BK355; clear BK365; clear HB; clear HI358; have BK355 := n0_; have BK365 := n1_; have HB := n2_; have HI358 := n3_; clear n0_ n1_ n2_ n3_; (try clear hb); (try clear hb2); (try clear hk); (try clear hi); obtain ⟨hcz14_0, hcz14_1, hcz14_2, hcz14_3, hfz14_0, hfz14_1, hfz14_2, hfz14_3⟩ := zc4 BK365; have hnb15 := NB355_358.out; have hnc15 := NB358_355.out; obtain ⟨hcz16_0, hcz16_1, hcz16_2, hcz16_3, hfz16_0, hfz16_1, hfz16_2, hfz16_3⟩ := zc4 BK355))
  refine bodyPost_ret (results_ct rfl _ _ gb355 24 #[.int .i64 t359, .int .i64 t360, .int .i64 t361, .int .i64 t362] (0, 0) _ rfl (by (with_reducible repeat first | apply bN | apply bD | apply bA); refine blk_put (cs := #[.int .i64 t359, .int .i64 t360, .int .i64 t361, .int .i64 0]) ?_ 3 _ rfl; (with_reducible repeat first | apply bN | apply bD | apply bA); refine blk_put (cs := #[.int .i64 t359, .int .i64 t360, .int .i64 0, .int .i64 0]) ?_ 2 _ rfl; (with_reducible repeat first | apply bN | apply bD | apply bA); refine blk_put (cs := #[.int .i64 t359, .int .i64 0, .int .i64 0, .int .i64 0]) ?_ 1 _ rfl; (with_reducible repeat first | apply bN | apply bD | apply bA); refine blk_put (cs := #[.int .i64 0, .int .i64 0, .int .i64 0, .int .i64 0]) ?_ 0 _ rfl; (with_reducible repeat first | apply bN | apply bD | apply bA); exact BK355.out) Try.underlying24 rfl (by kernel_rfl)) rfl ?_
  exact ⟨by first | rfl | (simp [errW_none, errW_some] <;> rfl) | (simp [*, errW_none, errW_some] <;> rfl), by repeat (first | (with_reducible first | exact HB.out | apply below_alloc | apply pw_below_drewN | apply below_drew1 | refine below_set ?_ (IsS101.ge HI358.out) | refine below_set ?_ GE355.out | refine below_set ?_ GE365.out) | exact HB.out)⟩
 ·rw [if_neg c5] at H
  have c5b0 : (t366 == 0) = false := beq_eq_false_iff_ne.mpr c5
  have c5b1 : (t366 != 0) = true := bne_iff_ne.mpr c5
  replace H := Option.bind_eq_some_iff.mp H
  obtain ⟨⟨t368, t369, t370, t371, t372⟩, A170, H⟩ := H
  try dsimp only at H
  have A17 := Aside0.mk A170
  clear A170
  replace H := Option.bind_eq_some_iff.mp H
  obtain ⟨⟨t373, t374⟩, A180, H⟩ := H
  try dsimp only at H
  have A18 := Aside0.mk A180
  clear A180
  simp only [Option.some.injEq, Prod.mk.injEq] at H
  obtain ⟨rfl, rfl, rfl, rfl, rfl⟩ := H
  go_enter Try.func17, Try.ntmps17
  go_wp2_with (first | ((with_reducible refine gate_dst (N := 2) rfl ?_); refine box_event ?hg (N := 2) ?hd (cs := #[.int .i64 0, .int .i64 0, .int .i64 0, .int .i64 0]) (t := 24) ?hr ?_; (case hd => rfl); (case hg => rfl); (case hr => first | (go_simp; done) | (go_simp; rfl)); intro gb355 hg w19 hbox hb; have n0_ := Aside0.mk (below_step (by repeat first | (with_reducible first | exact HB.out | apply vA | apply vN | apply vD) | exact HB.out) hb); have n1_ := Aside0.mk (hbox); have n2_ := Aside0.mk ((by rw [hg]; exact (below_size (by repeat first | (with_reducible first | exact HB.out | apply vA | apply vN | apply vD) | exact HB.out)) : w.heap.size ≤ gb355)); have n3_ := n2_; clear HB; have HB := n0_; have BK355 := n1_; have GW355 := n2_; have GE355 := n3_; clear n0_ n1_ n2_ n3_; clear hb hbox hg) | ((with_reducible refine gate_callee (f := 52) rfl ?_); refine goesL_ (some 8) rfl rfl Try.func52 (by kernel_rfl) rfl #[.slice A0 l0.length c0] rfl (by (try simp only [List.map_toArray, List.map_cons, List.map_nil]); first | done | rfl | (simp only [List.length_drop, List.length_take]; rfl)) ?_; (with_reducible refine (spec_l20Open.calls _ _ l0 t356 t357 w _ ?side1 ?side2 ?side3 A2.out).mono ?_); (case side1 => repeat (first | (with_reducible first | exact HB.out | apply below_alloc | apply pw_below_drewN | apply below_drew1 | refine below_set ?_ GE355.out) | exact HB.out)); (case side2 => exact HR0.out); (case side3 => exact HC0.out); rintro e w20 ⟨g358, rfl, hi, hb, hb2⟩; refine ⟨_, rfl, ?_⟩; have n0_ := Aside0.mk (blk_below (g := gb355) (o := .cells #[.int .i64 0, .int .i64 0, .int .i64 0, .int .i64 0] 24 (0, 0)) (by (with_reducible repeat first | apply bN | apply bD | apply bA); exact BK355.out) hb2); have n1_ := Aside0.mk (hb); have n2_ := Aside0.mk (hi); have n3_ := Aside0.mk (IsS101.ne_blk hi (blk_below (g := gb355) (o := .cells #[.int .i64 0, .int .i64 0, .int .i64 0, .int .i64 0] 24 (0, 0)) (by (with_reducible repeat first | apply bN | apply bD | apply bA); exact BK355.out) hb2) (by decide)); have n4_ := Aside0.mk (Ne.symm (IsS101.ne_blk hi (blk_below (g := gb355) (o := .cells #[.int .i64 0, .int .i64 0, .int .i64 0, .int .i64 0] 24 (0, 0)) (by (with_reducible repeat first | apply bN | apply bD | apply bA); exact BK355.out) hb2) (by decide))); clear BK355; clear HB; have BK355 := n0_; have HB := n1_; have HI358 := n2_; have NB358_355 := n3_; have NB355_358 := n4_; clear n0_ n1_ n2_ n3_ n4_; (try clear hb); (try clear hb2); (try clear hk); (try clear hi)) | ((with_reducible refine gate_callee (f := 58) rfl ?_); refine goesL_ (some 11) rfl rfl Try.func58 (by kernel_rfl) rfl #[.pointer (some ⟨g358, 0, none⟩)] rfl (by (try simp only [List.map_toArray, List.map_cons, List.map_nil]); first | done | rfl | (simp only [List.length_drop, List.length_take]; rfl)) ?_; (with_reducible refine (spec_l20Range.calls k g358 t356 t357 t359 t360 t361 t362 t363 t364 w _ ?side1 ?side2 A3.out).mono ?_); (case side1 => repeat (first | (with_reducible first | exact HI358.out | apply IsS101.alloc | apply IsS101.drewN | apply IsS101.drew | apply IsS101.set_1 | refine IsS101.far ?_ NB358_355.out _) | exact HI358.out)); (case side2 => repeat (first | (with_reducible first | exact HB.out | apply below_alloc | apply pw_below_drewN | apply below_drew1 | refine below_set ?_ (IsS101.ge HI358.out) | refine below_set ?_ GE355.out) | exact HB.out)); rintro e w21 ⟨rfl, hi, hb, hk⟩; refine ⟨_, rfl, ?_⟩; have n0_ := Aside0.mk (KeepBut.blk hk (g' := gb355) (o := .cells #[.int .i64 0, .int .i64 0, .int .i64 0, .int .i64 0] 24 (0, 0)) (by (with_reducible repeat first | apply bN | apply bD | apply bA); exact BK355.out) NB355_358.out (by simp)); have n1_ := Aside0.mk (hb); have n2_ := Aside0.mk (hi); clear BK355; clear HB; clear HI358; have BK355 := n0_; have HB := n1_; have HI358 := n2_; clear n0_ n1_ n2_; (try clear hb); (try clear hb2); (try clear hk); (try clear hi)) | ((with_reducible refine gate_dst (N := 5) rfl ?_); refine box_event ?hg (N := 5) ?hd (cs := #[.int .i64 0, .int .i64 0, .int .i64 0, .int .i64 0]) (t := 24) ?hr ?_; (case hd => rfl); (case hg => rfl); (case hr => first | (go_simp; done) | (go_simp; rfl)); intro gb365 hg w22 hbox hb; have n0_ := zb BK355 hb rfl; have n1_ := Aside0.mk (IsS101.below (by repeat (first | (with_reducible first | exact HI358.out | apply IsS101.alloc | apply IsS101.drewN | apply IsS101.drew | apply IsS101.set_1 | refine IsS101.far ?_ NB358_355.out _) | exact HI358.out)) hb); have n2_ := Aside0.mk (below_step (by repeat (first | (with_reducible first | exact HB.out | apply below_alloc | apply pw_below_drewN | apply below_drew1 | refine below_set ?_ (IsS101.ge HI358.out) | refine below_set ?_ GE355.out) | exact HB.out)) hb); have n3_ := Aside0.mk (hbox); have n4_ := Aside0.mk ((by rw [hg]; exact (below_size (by repeat (first | (with_reducible first | exact HB.out | apply below_alloc | apply pw_below_drewN | apply below_drew1 | refine below_set ?_ (IsS101.ge HI358.out) | refine below_set ?_ GE355.out) | exact HB.out))) : w.heap.size ≤ gb365)); have n5_ := n4_; have n6_ := zl BK355 hg rfl; have n7_ := zg BK355 hg rfl; have n8_ := Aside0.mk ((by rw [hg]; exact Nat.ne_of_lt (IsS101.lt (show IsS101 w _ g358 t356 t364 from by repeat (first | (with_reducible first | exact HI358.out | apply IsS101.alloc | apply IsS101.drewN | apply IsS101.drew | apply IsS101.set_1 | refine IsS101.far ?_ NB358_355.out _) | exact HI358.out))) : g358 ≠ gb365)); have n9_ := Aside0.mk ((by rw [hg]; exact Nat.ne_of_gt (IsS101.lt (show IsS101 w _ g358 t356 t364 from by repeat (first | (with_reducible first | exact HI358.out | apply IsS101.alloc | apply IsS101.drewN | apply IsS101.drew | apply IsS101.set_1 | refine IsS101.far ?_ NB358_355.out _) | exact HI358.out))) : gb365 ≠ g358)); clear BK355; clear HI358; clear HB; have BK355 := n0_; have HI358 := n1_; have HB := n2_; have BK365 := n3_; have GW365 := n4_; have GE365 := n5_; have NB355_365 := n6_; have NB365_355 := n7_; have NB358_365 := n8_; have NB365_358 := n9_; clear n0_ n1_ n2_ n3_ n4_ n5_ n6_ n7_ n8_ n9_; clear hb hbox hg; have hnb23 := NB365_355.out; have hnc23 := NB355_365.out; have hnb24 := NB365_358.out; have hnc24 := NB358_365.out; obtain ⟨hcz25_0, hcz25_1, hcz25_2, hcz25_3, hfz25_0, hfz25_1, hfz25_2, hfz25_3⟩ := zc4 BK365) | ((with_reducible refine gate_callee (f := 59) rfl ?_); refine goesL_ (some 15) rfl rfl Try.func59 (by kernel_rfl) rfl #[.pointer (some ⟨g358, 0, none⟩), .int .i64 2] rfl (by (try simp only [List.map_toArray, List.map_cons, List.map_nil]); first | done | rfl | (simp only [List.length_drop, List.length_take]; rfl)) ?_; (with_reducible refine (spec_l20Rd_pick.calls k g358 t356 t364 2 t366 t367 w _ ?side1 ?side2 A4.out).mono ?_); (case side1 => repeat (first | (with_reducible first | exact HI358.out | apply IsS101.alloc | apply IsS101.drewN | apply IsS101.drew | apply IsS101.set_1 | refine IsS101.far ?_ NB358_355.out _ | refine IsS101.far ?_ NB358_365.out _) | exact HI358.out)); (case side2 => repeat (first | (with_reducible first | exact HB.out | apply below_alloc | apply pw_below_drewN | apply below_drew1 | refine below_set ?_ (IsS101.ge HI358.out) | refine below_set ?_ GE355.out | refine below_set ?_ GE365.out) | exact HB.out)); rintro e w26 ⟨rfl, hi, hb, hk⟩; refine ⟨_, rfl, ?_⟩; have n0_ := Aside0.mk (KeepBut.blk hk (g' := gb355) (o := .cells #[.int .i64 0, .int .i64 0, .int .i64 0, .int .i64 0] 24 (0, 0)) (by (with_reducible repeat first | apply bN | apply bD | apply bA); refine blk_far ?_ NB355_365.out _; (with_reducible repeat first | apply bN | apply bD | apply bA); refine blk_far ?_ NB355_365.out _; (with_reducible repeat first | apply bN | apply bD | apply bA); refine blk_far ?_ NB355_365.out _; (with_reducible repeat first | apply bN | apply bD | apply bA); refine blk_far ?_ NB355_365.out _; (with_reducible repeat first | apply bN | apply bD | apply bA); exact BK355.out) NB355_358.out (by simp)); have n1_ := Aside0.mk (KeepBut.blk hk (g' := gb365) (o := .cells #[.int .i64 t359, .int .i64 t360, .int .i64 t361, .int .i64 t362] 24 (0, 0)) (by (with_reducible repeat first | apply bN | apply bD | apply bA); refine blk_put (cs := #[.int .i64 t359, .int .i64 t360, .int .i64 t361, .int .i64 0]) ?_ 3 _ rfl; (with_reducible repeat first | apply bN | apply bD | apply bA); refine blk_put (cs := #[.int .i64 t359, .int .i64 t360, .int .i64 0, .int .i64 0]) ?_ 2 _ rfl; (with_reducible repeat first | apply bN | apply bD | apply bA); refine blk_put (cs := #[.int .i64 t359, .int .i64 0, .int .i64 0, .int .i64 0]) ?_ 1 _ rfl; (with_reducible repeat first | apply bN | apply bD | apply bA); refine blk_put (cs := #[.int .i64 0, .int .i64 0, .int .i64 0, .int .i64 0]) ?_ 0 _ rfl; (with_reducible repeat first | apply bN | apply bD | apply bA); exact BK365.out) NB365_358.out (by simp)); have n2_ := Aside0.mk (hb); have n3_ := Aside0.mk (hi); clear BK355; clear BK365; clear HB; clear HI358; have BK355 := n0_; have BK365 := n1_; have HB := n2_; have HI358 := n3_; clear n0_ n1_ n2_ n3_; (try clear hb); (try clear hb2); (try clear hk); (try clear hi)) | ((with_reducible refine gate_callee (f := 60) rfl ?_); refine goesL_ (some 20) rfl rfl Try.func60 (by kernel_rfl) rfl #[.pointer (some ⟨g358, 0, none⟩)] rfl (by (try simp only [List.map_toArray, List.map_cons, List.map_nil]); first | done | rfl | (simp only [List.length_drop, List.length_take]; rfl)) ?_; (with_reducible refine (spec_l20AnyRange.calls k g358 t356 t367 t368 t369 t370 t371 t372 w _ ?side1 ?side2 A17.out).mono ?_); (case side1 => repeat (first | (with_reducible first | exact HI358.out | apply IsS101.alloc | apply IsS101.drewN | apply IsS101.drew | apply IsS101.set_1 | refine IsS101.far ?_ NB358_355.out _ | refine IsS101.far ?_ NB358_365.out _) | exact HI358.out)); (case side2 => repeat (first | (with_reducible first | exact HB.out | apply below_alloc | apply pw_below_drewN | apply below_drew1 | refine below_set ?_ (IsS101.ge HI358.out) | refine below_set ?_ GE355.out | refine below_set ?_ GE365.out) | exact HB.out)); rintro e w27 ⟨rfl, hi, hb, hk⟩; refine ⟨_, rfl, ?_⟩; have n0_ := Aside0.mk (KeepBut.blk hk (g' := gb355) (o := .cells #[.int .i64 0, .int .i64 0, .int .i64 0, .int .i64 0] 24 (0, 0)) (by (with_reducible repeat first | apply bN | apply bD | apply bA); exact BK355.out) NB355_358.out (by simp)); have n1_ := Aside0.mk (KeepBut.blk hk (g' := gb365) (o := .cells #[.int .i64 t359, .int .i64 t360, .int .i64 t361, .int .i64 t362] 24 (0, 0)) (by (with_reducible repeat first | apply bN | apply bD | apply bA); exact BK365.out) NB365_358.out (by simp)); have n2_ := Aside0.mk (hb); have n3_ := Aside0.mk (hi); clear BK355; clear BK365; clear HB; clear HI358; have BK355 := n0_; have BK365 := n1_; have HB := n2_; have HI358 := n3_; clear n0_ n1_ n2_ n3_; (try clear hb); (try clear hb2); (try clear hk); (try clear hi)) | ((with_reducible refine gate_callee (f := 61) rfl ?_); refine goesL_ (some 22) rfl rfl Try.func61 (by kernel_rfl) rfl #[.pointer (some ⟨g358, 0, none⟩)] rfl (by (try simp only [List.map_toArray, List.map_cons, List.map_nil]); first | done | rfl | (simp only [List.length_drop, List.length_take]; rfl)) ?_; (with_reducible refine (spec_l20Number.calls k g358 t356 t372 t373 t374 w _ ?side1 ?side2 A18.out).mono ?_); (case side1 => repeat (first | (with_reducible first | exact HI358.out | apply IsS101.alloc | apply IsS101.drewN | apply IsS101.drew | apply IsS101.set_1 | refine IsS101.far ?_ NB358_355.out _ | refine IsS101.far ?_ NB358_365.out _) | exact HI358.out)); (case side2 => repeat (first | (with_reducible first | exact HB.out | apply below_alloc | apply pw_below_drewN | apply below_drew1 | refine below_set ?_ (IsS101.ge HI358.out) | refine below_set ?_ GE355.out | refine below_set ?_ GE365.out) | exact HB.out)); rintro e w28 ⟨rfl, hi, hb, hk⟩; refine ⟨_, rfl, ?_⟩; have n0_ := Aside0.mk (KeepBut.blk hk (g' := gb355) (o := .cells #[.int .i64 0, .int .i64 0, .int .i64 0, .int .i64 0] 24 (0, 0)) (by (with_reducible repeat first | apply bN | apply bD | apply bA); exact BK355.out) NB355_358.out (by simp)); have n1_ := Aside0.mk (KeepBut.blk hk (g' := gb365) (o := .cells #[.int .i64 t359, .int .i64 t360, .int .i64 t361, .int .i64 t362] 24 (0, 0)) (by (with_reducible repeat first | apply bN | apply bD | apply bA); exact BK365.out) NB365_358.out (by simp)); have n2_ := Aside0.mk (hb); have n3_ := Aside0.mk (hi); clear BK355; clear BK365; clear HB; clear HI358; have BK355 := n0_; have BK365 := n1_; have HB := n2_; have HI358 := n3_; clear n0_ n1_ n2_ n3_; (try clear hb); (try clear hb2); (try clear hk); (try clear hi); have hnb29 := NB355_358.out; have hnc29 := NB358_355.out; obtain ⟨hcz30_0, hcz30_1, hcz30_2, hcz30_3, hfz30_0, hfz30_1, hfz30_2, hfz30_3⟩ := zc4 BK355))
  refine bodyPost_ret (results_ct rfl _ _ gb355 24 #[.int .i64 t368, .int .i64 t369, .int .i64 t370, .int .i64 t371] (0, 0) _ rfl (by (with_reducible repeat first | apply bN | apply bD | apply bA); refine blk_put (cs := #[.int .i64 t368, .int .i64 t369, .int .i64 t370, .int .i64 0]) ?_ 3 _ rfl; (with_reducible repeat first | apply bN | apply bD | apply bA); refine blk_put (cs := #[.int .i64 t368, .int .i64 t369, .int .i64 0, .int .i64 0]) ?_ 2 _ rfl; (with_reducible repeat first | apply bN | apply bD | apply bA); refine blk_put (cs := #[.int .i64 t368, .int .i64 0, .int .i64 0, .int .i64 0]) ?_ 1 _ rfl; (with_reducible repeat first | apply bN | apply bD | apply bA); refine blk_put (cs := #[.int .i64 0, .int .i64 0, .int .i64 0, .int .i64 0]) ?_ 0 _ rfl; (with_reducible repeat first | apply bN | apply bD | apply bA); exact BK355.out) Try.underlying24 rfl (by kernel_rfl)) rfl ?_
  exact ⟨by first | rfl | (simp [errW_none, errW_some] <;> rfl) | (simp [*, errW_none, errW_some] <;> rfl), by repeat (first | (with_reducible first | exact HB.out | apply below_alloc | apply pw_below_drewN | apply below_drew1 | refine below_set ?_ (IsS101.ge HI358.out) | refine below_set ?_ GE355.out | refine below_set ?_ GE365.out) | exact HB.out)⟩

/-! ### impl_RangeHas: function 18 -/
def impl_RangeHas.f (a0_0 : Int) (a0_1 : Int) (a0_2 : Int) (a0_3 : Int) (a1 : Int) : Option (Bool) := (impl_RangeOk.f a0_0 a0_1 a0_2 a0_3).bind fun t376 => (if t376 = true then ((impl_Range_has.f a0_0 a0_1 a0_2 a0_3 a1).bind fun t377 => (some t377)) else (some false))
set_option maxHeartbeats 8000000 in
set_option maxRecDepth 100000 in
theorem impl_RangeHas.calls (a0_0 : Int) (a0_1 : Int) (a0_2 : Int) (a0_3 : Int) (a1 : Int) (r : Bool) (w : World) (h : impl_RangeHas.f a0_0 a0_1 a0_2 a0_3 a1 = some r) :
  Calls Try.prog 18 #[.agg #[.int .i64 a0_0, .int .i64 a0_1, .int .i64 a0_2, .int .i64 a0_3], .int .i64 a1] w fun e w' => e = .returned (.bool r) ∧ Below w.heap.size w w' := by
 have hu24 := Try.underlying24
 have HB := Aside0.mk (Below.refl w.heap.size w)
 have H : ((impl_RangeOk.f a0_0 a0_1 a0_2 a0_3).bind fun t376 => (if t376 = true then ((impl_Range_has.f a0_0 a0_1 a0_2 a0_3 a1).bind fun t377 => (some t377)) else (some false))) = some r := h
 clear h
 replace H := Option.bind_eq_some_iff.mp H
 obtain ⟨t376, A30, H⟩ := H
 try dsimp only at H
 have A3 := Aside0.mk A30
 clear A30
 by_cases c4 : t376 = true
 ·subst c4
  rw [if_pos rfl] at H
  replace H := Option.bind_eq_some_iff.mp H
  obtain ⟨t377, A50, H⟩ := H
  try dsimp only at H
  have A5 := Aside0.mk A50
  clear A50
  obtain rfl := Option.some.inj H
  go_enter Try.func18, Try.ntmps18
  go_wp2_with (first | ((with_reducible refine gate_dst (N := 2) rfl ?_); refine box_event ?hg (N := 2) ?hd (cs := #[.int .i64 a0_0, .int .i64 a0_1, .int .i64 a0_2, .int .i64 a0_3]) (t := 24) ?hr ?_; (case hd => rfl); (case hg => rfl); (case hr => first | (go_simp; done) | (go_simp; rfl)); intro gb375 hg w6 hbox hb; have n0_ := Aside0.mk (below_step (by repeat first | (with_reducible first | exact HB.out | apply vA | apply vN | apply vD) | exact HB.out) hb); have n1_ := Aside0.mk (hbox); have n2_ := Aside0.mk ((by rw [hg]; exact (below_size (by repeat first | (with_reducible first | exact HB.out | apply vA | apply vN | apply vD) | exact HB.out)) : w.heap.size ≤ gb375)); have n3_ := n2_; clear HB; have HB := n0_; have BK375 := n1_; have GW375 := n2_; have GE375 := n3_; clear n0_ n1_ n2_ n3_; clear hb hbox hg; obtain ⟨hcz7_0, hcz7_1, hcz7_2, hcz7_3, hfz7_0, hfz7_1, hfz7_2, hfz7_3⟩ := zc4 BK375) | ((with_reducible refine gate_callee (f := 23) rfl ?_); refine goesL_ (some 6) rfl rfl Try.func23 (by kernel_rfl) rfl #[.agg #[.int .i64 a0_0, .int .i64 a0_1, .int .i64 a0_2, .int .i64 a0_3]] rfl (by (try simp only [List.map_toArray, List.map_cons, List.map_nil]); first | done | rfl | (simp only [List.length_drop, List.length_take]; rfl)) ?_; (with_reducible refine (impl_RangeOk.calls a0_0 a0_1 a0_2 a0_3 true _ A3.out).mono ?_); rintro e w8 ⟨rfl, hb⟩; refine ⟨_, rfl, ?_⟩; have n0_ := zb BK375 hb rfl; have n1_ := Aside0.mk (below_step (by repeat first | (with_reducible first | exact HB.out | apply vA | apply vN | apply vD | refine vS ?_ GE375.out) | exact HB.out) hb); clear BK375; clear HB; have BK375 := n0_; have HB := n1_; clear n0_ n1_; (try clear hb); (try clear hb2); (try clear hk); (try clear hi); obtain ⟨hcz9_0, hcz9_1, hcz9_2, hcz9_3, hfz9_0, hfz9_1, hfz9_2, hfz9_3⟩ := zc4 BK375) | (go_at_call 62; (with_reducible refine (impl_Range_has.calls a0_0 a0_1 a0_2 a0_3 a1 t377 _ A5.out).mono ?_); rintro e w10 ⟨rfl, hb⟩; have n0_ := zb BK375 hb rfl; have n1_ := Aside0.mk (below_step (by repeat first | (with_reducible first | exact HB.out | apply vA | apply vN | apply vD | refine vS ?_ GE375.out) | exact HB.out) hb); clear BK375; clear HB; have BK375 := n0_; have HB := n1_; clear n0_ n1_; (try clear hb); (try clear hb2); (try clear hk); (try clear hi)))
  go_ret
  exact ⟨by first | rfl | (simp [errW_none, errW_some] <;> rfl) | (simp [*, errW_none, errW_some] <;> rfl), by repeat first | (with_reducible first | exact HB.out | apply vA | apply vN | apply vD | refine vS ?_ GE375.out) | exact HB.out⟩
 ·replace c4 := Bool.eq_false_iff.mpr c4
  subst c4
  rw [if_neg (show ¬ (false = true) by decide)] at H
  obtain rfl := Option.some.inj H
  go_enter Try.func18, Try.ntmps18
  go_wp2_with (first | ((with_reducible refine gate_dst (N := 2) rfl ?_); refine box_event ?hg (N := 2) ?hd (cs := #[.int .i64 a0_0, .int .i64 a0_1, .int .i64 a0_2, .int .i64 a0_3]) (t := 24) ?hr ?_; (case hd => rfl); (case hg => rfl); (case hr => first | (go_simp; done) | (go_simp; rfl)); intro gb375 hg w11 hbox hb; have n0_ := Aside0.mk (below_step (by repeat first | (with_reducible first | exact HB.out | apply vA | apply vN | apply vD) | exact HB.out) hb); have n1_ := Aside0.mk (hbox); have n2_ := Aside0.mk ((by rw [hg]; exact (below_size (by repeat first | (with_reducible first | exact HB.out | apply vA | apply vN | apply vD) | exact HB.out)) : w.heap.size ≤ gb375)); have n3_ := n2_; clear HB; have HB := n0_; have BK375 := n1_; have GW375 := n2_; have GE375 := n3_; clear n0_ n1_ n2_ n3_; clear hb hbox hg; obtain ⟨hcz12_0, hcz12_1, hcz12_2, hcz12_3, hfz12_0, hfz12_1, hfz12_2, hfz12_3⟩ := zc4 BK375) | ((with_reducible refine gate_callee (f := 23) rfl ?_); refine goesL_ (some 6) rfl rfl Try.func23 (by kernel_rfl) rfl #[.agg #[.int .i64 a0_0, .int .i64 a0_1, .int .i64 a0_2, .int .i64 a0_3]] rfl (by (try simp only [List.map_toArray, List.map_cons, List.map_nil]); first | done | rfl | (simp only [List.length_drop, List.length_take]; rfl)) ?_; (with_reducible refine (impl_RangeOk.calls a0_0 a0_1 a0_2 a0_3 false _ A3.out).mono ?_); rintro e w13 ⟨rfl, hb⟩; refine ⟨_, rfl, ?_⟩; have n0_ := zb BK375 hb rfl; have n1_ := Aside0.mk (below_step (by repeat first | (with_reducible first | exact HB.out | apply vA | apply vN | apply vD | refine vS ?_ GE375.out) | exact HB.out) hb); clear BK375; clear HB; have BK375 := n0_; have HB := n1_; clear n0_ n1_; (try clear hb); (try clear hb2); (try clear hk); (try clear hi)))
  go_ret
  exact ⟨by first | rfl | (simp [errW_none, errW_some] <;> rfl) | (simp [*, errW_none, errW_some] <;> rfl), by repeat first | (with_reducible first | exact HB.out | apply vA | apply vN | apply vD | refine vS ?_ GE375.out) | exact HB.out⟩

/-! ### laws_FnMeet: function 4 -/
mutual
def laws_FnMeet.j0 : Nat → List Int → List Int → Bool → Option (Bool)
 | 0, _, _, _ => none
 | k + 1, x0, x1, x25 => if x25 = true then (some true) else ((spec_DrawRangeMeet.f k x0).bind fun bt381 => ((impl_RangeMeet.f k bt381.1 bt381.2.1 bt381.2.2.1 bt381.2.2.2.1 bt381.2.2.2.2.1 bt381.2.2.2.2.2.1 bt381.2.2.2.2.2.2.1 bt381.2.2.2.2.2.2.2).bind fun bt391 => ((spec_RangeMeet.f k bt381.1 bt381.2.1 bt381.2.2.1 bt381.2.2.2.1 bt381.2.2.2.2.1 bt381.2.2.2.2.2.1 bt381.2.2.2.2.2.2.1 bt381.2.2.2.2.2.2.2).bind fun bt397 => (if (!(bt391.1 == bt397.1) || (!(bt391.2.1 == bt397.2.1) || (!(bt391.2.2.1 == bt397.2.2.1) || (!(bt391.2.2.2.1 == bt397.2.2.2.1))))) = true then (laws_FnMeet.j1 k x1 bt391.2.2.2.2 true bt381.1 bt381.2.1 bt381.2.2.1 bt381.2.2.2.1 bt381.2.2.2.2.1 bt381.2.2.2.2.2.1 bt381.2.2.2.2.2.2.1 bt381.2.2.2.2.2.2.2 bt391.1 bt391.2.1 bt391.2.2.1 bt391.2.2.2.1) else (laws_FnMeet.j1 k x1 bt391.2.2.2.2 (bt391.2.2.2.2 != bt397.2.2.2.2) bt381.1 bt381.2.1 bt381.2.2.1 bt381.2.2.2.1 bt381.2.2.2.2.1 bt381.2.2.2.2.2.1 bt381.2.2.2.2.2.2.1 bt381.2.2.2.2.2.2.2 bt391.1 bt391.2.1 bt391.2.2.1 bt391.2.2.2.1)))))
def laws_FnMeet.j1 : Nat → List Int → Bool → Bool → Int → Int → Int → Int → Int → Int → Int → Int → Int → Int → Int → Int → Option (Bool)
 | 0, _, _, _, _, _, _, _, _, _, _, _, _, _, _, _ => none
 | k + 1, x1, x8, x50, x390000, x390001, x390002, x390003, x391000, x391001, x391002, x391003, x397000, x397001, x397002, x397003 => if x50 = true then (none) else ((impl_RangeMeet.f k x391000 x391001 x391002 x391003 x390000 x390001 x390002 x390003).bind fun bt403 => ((spec_DrawRangeHas.f k x1).bind fun bt409 => ((impl_RangeHas.f x390000 x390001 x390002 x390003 bt409.2.2.2.2).bind fun t415 => (if t415 = true then ((impl_RangeHas.f x391000 x391001 x391002 x391003 bt409.2.2.2.2).bind fun t416 => (laws_FnMeet.j2 k x8 bt403.2.2.2.2 bt409.2.2.2.2 t416 x390000 x390001 x390002 x390003 x391000 x391001 x391002 x391003 x397000 x397001 x397002 x397003 bt403.1 bt403.2.1 bt403.2.2.1 bt403.2.2.2.1)) else (laws_FnMeet.j2 k x8 bt403.2.2.2.2 bt409.2.2.2.2 false x390000 x390001 x390002 x390003 x391000 x391001 x391002 x391003 x397000 x397001 x397002 x397003 bt403.1 bt403.2.1 bt403.2.2.1 bt403.2.2.2.1)))))
def laws_FnMeet.j2 : Nat → Bool → Bool → Int → Bool → Int → Int → Int → Int → Int → Int → Int → Int → Int → Int → Int → Int → Int → Int → Int → Int → Option (Bool)
 | 0, _, _, _, _, _, _, _, _, _, _, _, _, _, _, _, _, _, _, _, _ => none
 | k + 1, x8, x12, x14, x15, x390000, x390001, x390002, x390003, x391000, x391001, x391002, x391003, x397000, x397001, x397002, x397003, x409000, x409001, x409002, x409003 => (impl_RangeLeast.f k x390000 x390001 x390002 x390003).bind fun t417 => ((impl_RangeHas.f x390000 x390001 x390002 x390003 t417).bind fun t418 => (if t418 = true then ((impl_RangeHas.f x391000 x391001 x391002 x391003 t417).bind fun t419 => (if (x12 == x8) = true then (if (x409000 == x397000 && (x409001 == x397001 && (x409002 == x397002 && (x409003 == x397003)))) = true then (if x8 = true then ((impl_RangeHas.f x397000 x397001 x397002 x397003 x14).bind fun t420 => (if (t420 == x15) = true then ((impl_RangeHas.f x397000 x397001 x397002 x397003 t417).bind fun t421 => (some (t421 == t419))) else (none))) else (if (false == x15) = true then (some (false == t419)) else (none))) else (none)) else (none))) else (if (x12 == x8) = true then (if (x409000 == x397000 && (x409001 == x397001 && (x409002 == x397002 && (x409003 == x397003)))) = true then (if x8 = true then ((impl_RangeHas.f x397000 x397001 x397002 x397003 x14).bind fun t422 => (if (t422 == x15) = true then ((impl_RangeHas.f x397000 x397001 x397002 x397003 t417).bind fun t423 => (some (t423 == false))) else (none))) else (if (false == x15) = true then (some (false == false)) else (none))) else (none)) else (none))))
end
def laws_FnMeet.f (k : Nat) (l0 : List Int) (l1 : List Int) : Option (Bool) := if (l0.length : Int) > 1048576 then (laws_FnMeet.j0 k l0 l1 true) else (laws_FnMeet.j0 k l0 l1 (decide ((l1.length : Int) > 1048576)))


set_option maxHeartbeats 8000000 in
set_option maxRecDepth 100000 in
theorem laws_FnMeet.calls (k : Nat) (A0 : Option Addr) (c0 : Nat) (l0 : List Int) (A1 : Option Addr) (c1 : Nat) (l1 : List Int) (r : Bool) (w : World) (hr0 : Kd.C (Kd.int .u8) w A0 l0.length l0) (hc0 : l0.length ≤ c0) (hr1 : Kd.C (Kd.int .u8) w A1 l1.length l1) (hc1 : l1.length ≤ c1) (h : laws_FnMeet.f k l0 l1 = some r) :
  Calls Try.prog 4 #[.slice A0 l0.length c0, .slice A1 l1.length c1] w fun e w' => e = .returned (.bool r) ∧ Below w.heap.size w w' := by
 have hu24 := Try.underlying24
 have HR0 := Aside0.mk hr0
 have HC0 := Aside0.mk hc0
 clear hr0 hc0
 have HR1 := Aside0.mk hr1
 have HC1 := Aside0.mk hc1
 clear hr1 hc1
 have HB := Aside0.mk (Below.refl w.heap.size w)
 have H : (if (l0.length : Int) > 1048576 then (laws_FnMeet.j0 k l0 l1 true) else (laws_FnMeet.j0 k l0 l1 (decide ((l1.length : Int) > 1048576)))) = some r := h
 clear h
 have HC3 := Aside0.mk H
 clear H
 go_enter Try.func4, Try.ntmps4
 go_upto_region 1 with (fail)
 go_cut [25] (fun v25 wc => ∃ (kq : Nat) (x25_2 : Bool), v25 = .bool x25_2 ∧ Aside0 (laws_FnMeet.j0 kq l0 l1 x25_2 = some r) ∧ Aside0 (kq ≤ k) ∧ Aside0 (Below w.heap.size w wc))
 case first =>
  have H := HC3.out
  clear HC3
  by_cases c4 : (l0.length : Int) > 1048576
  ·rw [if_pos c4] at H
   have c4b0 : decide (1048576 < (l0.length : Int)) = true := decide_eq_true c4
   have c4b1 : decide (1048576 < l0.length) = true := decide_eq_true (by omega)
   clear c4
   (first | rw [c4b0] | (simp only [i64_w, i32_w]; rw [c4b0]) | skip)
   have H' := Aside0.mk H
   clear H
   go_wp2
   go_meet
   case rel => exact ⟨_, (true), (by first | rfl | (simp; done) | (simp [*]; done)), H', ⟨by first | omega | exact Nat.le_refl _⟩, ⟨by repeat first | (with_reducible first | exact HB.out | apply vA | apply vN | apply vD) | exact HB.out⟩⟩
  ·rw [if_neg c4] at H
   have c4b0 : decide (1048576 < (l0.length : Int)) = false := decide_eq_false c4
   have c4b1 : decide (1048576 < l0.length) = false := decide_eq_false (by omega)
   clear c4
   (first | rw [c4b0] | (simp only [i64_w, i32_w]; rw [c4b0]) | skip)
   have H' := Aside0.mk H
   clear H
   go_wp2
   go_meet
   case rel => exact ⟨_, (decide ((l1.length : Int) > 1048576)), (by first | rfl | (simp; done) | (simp [*]; done)), H', ⟨by first | omega | exact Nat.le_refl _⟩, ⟨by repeat first | (with_reducible first | exact HB.out | apply vA | apply vN | apply vD) | exact HB.out⟩⟩
 case rest =>
  clear HC3
  try clear c1
  try clear p2
  try clear c4
  try clear c4b0
  try clear c4b1
  obtain ⟨kq, x25_2, rfl, HA, HJ2, HB⟩ := hcut
  cases kq with
  | zero => exact absurd HA.out (by simp [laws_FnMeet.j0])
  | succ kj2 =>
   have H := HA.out
   clear HA
   simp only [laws_FnMeet.j0] at H
   by_cases c5 : x25_2 = true
   ·subst c5
    rw [if_pos rfl] at H
    obtain rfl := Option.some.inj H
    go_wp2
    go_ret
    exact ⟨by first | rfl | (simp [errW_none, errW_some] <;> rfl) | (simp [*, errW_none, errW_some] <;> rfl), by repeat first | (with_reducible first | exact HB.out | apply vA | apply vN | apply vD) | exact HB.out⟩
   ·replace c5 := Bool.eq_false_iff.mpr c5
    subst c5
    rw [if_neg (show ¬ (false = true) by decide)] at H
    replace H := Option.bind_eq_some_iff.mp H
    obtain ⟨⟨t381, t382, t383, t384, t385, t386, t387, t388⟩, A60, H⟩ := H
    try dsimp only at H
    have A6 := Aside0.mk A60
    clear A60
    replace H := Option.bind_eq_some_iff.mp H
    obtain ⟨⟨t391, t392, t393, t394, t395⟩, A70, H⟩ := H
    try dsimp only at H
    have A7 := Aside0.mk A70
    clear A70
    replace H := Option.bind_eq_some_iff.mp H
    obtain ⟨⟨t397, t398, t399, t400, t401⟩, A80, H⟩ := H
    try dsimp only at H
    have A8 := Aside0.mk A80
    clear A80
    have HC9 := Aside0.mk H
    clear H
    go_upto_region 6 with (first | ((with_reducible refine gate_callee (f := 13) rfl ?_); refine goesL_ (some 28) rfl rfl Try.func13 (by kernel_rfl) rfl #[.slice A0 l0.length c0] rfl (by (try simp only [List.map_toArray, List.map_cons, List.map_nil]); first | done | rfl | (simp only [List.length_drop, List.length_take]; rfl)) ?_; (with_reducible refine (spec_DrawRangeMeet.calls kj2 _ _ l0 t381 t382 t383 t384 t385 t386 t387 t388 _ ?side1 ?side2 A6.out).mono ?_); (case side1 => repeat (first | exact (Kd.C_below HR0.out HB.out) | (with_reducible refine Kd.C_alloc ?_ _) | (with_reducible refine Kd.C_drewN ?_ _) | (with_reducible refine Kd.C_drew ?_))); (case side2 => exact HC0.out); rintro e w10 ⟨rfl, hb⟩; refine ⟨_, rfl, ?_⟩; have n0_ := Aside0.mk (below_step (by repeat first | (with_reducible first | exact HB.out | apply vA | apply vN | apply vD) | exact HB.out) hb); clear HB; have HB := n0_; clear n0_; (try clear hb); (try clear hb2); (try clear hk); (try clear hi)) | ((with_reducible refine gate_dst (N := 5) rfl ?_); (try (refine gate_guard (by rfl) ?_; dsimp only)); refine box_event ?hg (N := 5) ?hd (cs := #[.int .i64 0, .int .i64 0, .int .i64 0, .int .i64 0]) (t := 24) ?hr ?_; (case hd => rfl); (case hg => rfl); (case hr => first | (go_simp; done) | (go_simp; rfl)); intro gb389 hg w11 hbox hb; have n0_ := Aside0.mk (below_step (by repeat first | (with_reducible first | exact HB.out | apply vA | apply vN | apply vD) | exact HB.out) hb); have n1_ := Aside0.mk (hbox); have n2_ := Aside0.mk ((by rw [hg]; exact (below_size (by repeat first | (with_reducible first | exact HB.out | apply vA | apply vN | apply vD) | exact HB.out)) : w.heap.size ≤ gb389)); have n3_ := n2_; clear HB; have HB := n0_; have BK389 := n1_; have GW389 := n2_; have GE389 := n3_; clear n0_ n1_ n2_ n3_; clear hb hbox hg) | ((with_reducible refine gate_dst (N := 6) rfl ?_); (try (refine gate_guard (by rfl) ?_; dsimp only)); refine box_event ?hg (N := 6) ?hd (cs := #[.int .i64 0, .int .i64 0, .int .i64 0, .int .i64 0]) (t := 24) ?hr ?_; (case hd => rfl); (case hg => rfl); (case hr => first | (go_simp; done) | (go_simp; rfl)); intro gb390 hg w12 hbox hb; have n0_ := zb BK389 hb rfl; have n1_ := Aside0.mk (below_step (by repeat first | (with_reducible first | exact HB.out | apply vA | apply vN | apply vD | refine vS ?_ GE389.out) | exact HB.out) hb); have n2_ := Aside0.mk (hbox); have n3_ := Aside0.mk ((by rw [hg]; exact (below_size (by repeat first | (with_reducible first | exact HB.out | apply vA | apply vN | apply vD | refine vS ?_ GE389.out) | exact HB.out)) : w.heap.size ≤ gb390)); have n4_ := n3_; have n5_ := zl BK389 hg rfl; have n6_ := zg BK389 hg rfl; clear BK389; clear HB; have BK389 := n0_; have HB := n1_; have BK390 := n2_; have GW390 := n3_; have GE390 := n4_; have NB389_390 := n5_; have NB390_389 := n6_; clear n0_ n1_ n2_ n3_ n4_ n5_ n6_; clear hb hbox hg; have hnb13 := NB389_390.out; have hnc13 := NB390_389.out; obtain ⟨hcz14_0, hcz14_1, hcz14_2, hcz14_3, hfz14_0, hfz14_1, hfz14_2, hfz14_3⟩ := zc4 BK389; obtain ⟨hcz15_0, hcz15_1, hcz15_2, hcz15_3, hfz15_0, hfz15_1, hfz15_2, hfz15_3⟩ := zc4 BK390) | ((with_reducible refine gate_callee (f := 14) rfl ?_); refine goesL_ (some 34) rfl rfl Try.func14 (by kernel_rfl) rfl #[.agg #[.int .i64 t381, .int .i64 t382, .int .i64 t383, .int .i64 t384], .agg #[.int .i64 t385, .int .i64 t386, .int .i64 t387, .int .i64 t388]] rfl (by (try simp only [List.map_toArray, List.map_cons, List.map_nil]); first | done | rfl | (simp only [List.length_drop, List.length_take]; rfl)) ?_; (with_reducible refine (impl_RangeMeet.calls kj2 t381 t382 t383 t384 t385 t386 t387 t388 t391 t392 t393 t394 t395 _ A7.out).mono ?_); rintro e w16 ⟨rfl, hb⟩; refine ⟨_, rfl, ?_⟩; have n0_ := Aside0.mk (blk_below (g := gb389) (o := .cells #[.int .i64 t381, .int .i64 t382, .int .i64 t383, .int .i64 t384] 24 (0, 0)) (by (with_reducible repeat first | apply bN | apply bD | apply bA); refine blk_far ?_ NB389_390.out _; (with_reducible repeat first | apply bN | apply bD | apply bA); refine blk_far ?_ NB389_390.out _; (with_reducible repeat first | apply bN | apply bD | apply bA); refine blk_far ?_ NB389_390.out _; (with_reducible repeat first | apply bN | apply bD | apply bA); refine blk_far ?_ NB389_390.out _; (with_reducible repeat first | apply bN | apply bD | apply bA); refine blk_put (cs := #[.int .i64 t381, .int .i64 t382, .int .i64 t383, .int .i64 0]) ?_ 3 _ rfl; (with_reducible repeat first | apply bN | apply bD | apply bA); refine blk_put (cs := #[.int .i64 t381, .int .i64 t382, .int .i64 0, .int .i64 0]) ?_ 2 _ rfl; (with_reducible repeat first | apply bN | apply bD | apply bA); refine blk_put (cs := #[.int .i64 t381, .int .i64 0, .int .i64 0, .int .i64 0]) ?_ 1 _ rfl; (with_reducible repeat first | apply bN | apply bD | apply bA); refine blk_put (cs := #[.int .i64 0, .int .i64 0, .int .i64 0, .int .i64 0]) ?_ 0 _ rfl; (with_reducible repeat first | apply bN | apply bD | apply bA); exact BK389.out) hb); have n1_ := Aside0.mk (blk_below (g := gb390) (o := .cells #[.int .i64 t385, .int .i64 t386, .int .i64 t387, .int .i64 t388] 24 (0, 0)) (by (with_reducible repeat first | apply bN | apply bD | apply bA); refine blk_put (cs := #[.int .i64 t385, .int .i64 t386, .int .i64 t387, .int .i64 0]) ?_ 3 _ rfl; (with_reducible repeat first | apply bN | apply bD | apply bA); refine blk_put (cs := #[.int .i64 t385, .int .i64 t386, .int .i64 0, .int .i64 0]) ?_ 2 _ rfl; (with_reducible repeat first | apply bN | apply bD | apply bA); refine blk_put (cs := #[.int .i64 t385, .int .i64 0, .int .i64 0, .int .i64 0]) ?_ 1 _ rfl; (with_reducible repeat first | apply bN | apply bD | apply bA); refine blk_put (cs := #[.int .i64 0, .int .i64 0, .int .i64 0, .int .i64 0]) ?_ 0 _ rfl; (with_reducible repeat first | apply bN | apply bD | apply bA); refine blk_far ?_ NB390_389.out _; (with_reducible repeat first | apply bN | apply bD | apply bA); refine blk_far ?_ NB390_389.out _; (with_reducible repeat first | apply bN | apply bD | apply bA); refine blk_far ?_ NB390_389.out _; (with_reducible repeat first | apply bN | apply bD | apply bA); refine blk_far ?_ NB390_389.out _; (with_reducible repeat first | apply bN | apply bD | apply bA); exact BK390.out) hb); have n2_ := Aside0.mk (below_step (by repeat first | (with_reducible first | exact HB.out | apply vA | apply vN | apply vD | refine vS ?_ GE389.out | refine vS ?_ GE390.out) | exact HB.out) hb); clear BK389; clear BK390; clear HB; have BK389 := n0_; have BK390 := n1_; have HB := n2_; clear n0_ n1_ n2_; (try clear hb); (try clear hb2); (try clear hk); (try clear hi)) | ((with_reducible refine gate_dst (N := 7) rfl ?_); (try (refine gate_guard (by rfl) ?_; dsimp only)); refine box_event ?hg (N := 7) ?hd (cs := #[.int .i64 0, .int .i64 0, .int .i64 0, .int .i64 0]) (t := 24) ?hr ?_; (case hd => rfl); (case hg => rfl); (case hr => first | (go_simp; done) | (go_simp; rfl)); intro gb396 hg w17 hbox hb; have n0_ := zb BK389 hb rfl; have n1_ := zb BK390 hb rfl; have n2_ := Aside0.mk (below_step (by repeat first | (with_reducible first | exact HB.out | apply vA | apply vN | apply vD | refine vS ?_ GE389.out | refine vS ?_ GE390.out) | exact HB.out) hb); have n3_ := Aside0.mk (hbox); have n4_ := Aside0.mk ((by rw [hg]; exact (below_size (by repeat first | (with_reducible first | exact HB.out | apply vA | apply vN | apply vD | refine vS ?_ GE389.out | refine vS ?_ GE390.out) | exact HB.out)) : w.heap.size ≤ gb396)); have n5_ := n4_; have n6_ := zl BK389 hg rfl; have n7_ := zg BK389 hg rfl; have n8_ := zl BK390 hg rfl; have n9_ := zg BK390 hg rfl; clear BK389; clear BK390; clear HB; have BK389 := n0_; have BK390 := n1_; have HB := n2_; have BK396 := n3_; have GW396 := n4_; have GE396 := n5_; have NB389_396 := n6_; have NB396_389 := n7_; have NB390_396 := n8_; have NB396_390 := n9_; clear n0_ n1_ n2_ n3_ n4_ n5_ n6_ n7_ n8_ n9_; clear hb hbox hg; have hnb18 := NB396_389.out; have hnc18 := NB389_396.out; have hnb19 := NB396_390.out; have hnc19 := NB390_396.out; obtain ⟨hcz20_0, hcz20_1, hcz20_2, hcz20_3, hfz20_0, hfz20_1, hfz20_2, hfz20_3⟩ := zc4 BK396; obtain ⟨hcz21_0, hcz21_1, hcz21_2, hcz21_3, hfz21_0, hfz21_1, hfz21_2, hfz21_3⟩ := zc4 BK389; obtain ⟨hcz22_0, hcz22_1, hcz22_2, hcz22_3, hfz22_0, hfz22_1, hfz22_2, hfz22_3⟩ := zc4 BK390) | ((with_reducible refine gate_callee (f := 15) rfl ?_); refine goesL_ (some 40) rfl rfl Try.func15 (by kernel_rfl) rfl #[.agg #[.int .i64 t381, .int .i64 t382, .int .i64 t383, .int .i64 t384], .agg #[.int .i64 t385, .int .i64 t386, .int .i64 t387, .int .i64 t388]] rfl (by (try simp only [List.map_toArray, List.map_cons, List.map_nil]); first | done | rfl | (simp only [List.length_drop, List.length_take]; rfl)) ?_; (with_reducible refine (spec_RangeMeet.calls kj2 t381 t382 t383 t384 t385 t386 t387 t388 t397 t398 t399 t400 t401 _ A8.out).mono ?_); rintro e w23 ⟨rfl, hb⟩; refine ⟨_, rfl, ?_⟩; have n0_ := Aside0.mk (blk_below (g := gb389) (o := .cells #[.int .i64 t381, .int .i64 t382, .int .i64 t383, .int .i64 t384] 24 (0, 0)) (by (with_reducible repeat first | apply bN | apply bD | apply bA); refine blk_far ?_ NB389_396.out _; (with_reducible repeat first | apply bN | apply bD | apply bA); refine blk_far ?_ NB389_396.out _; (with_reducible repeat first | apply bN | apply bD | apply bA); refine blk_far ?_ NB389_396.out _; (with_reducible repeat first | apply bN | apply bD | apply bA); refine blk_far ?_ NB389_396.out _; (with_reducible repeat first | apply bN | apply bD | apply bA); exact BK389.out) hb); have n1_ := Aside0.mk (blk_below (g := gb390) (o := .cells #[.int .i64 t385, .int .i64 t386, .int .i64 t387, .int .i64 t388] 24 (0, 0)) (by (with_reducible repeat first | apply bN | apply bD | apply bA); refine blk_far ?_ NB390_396.out _; (with_reducible repeat first | apply bN | apply bD | apply bA); refine blk_far ?_ NB390_396.out _; (with_reducible repeat first | apply bN | apply bD | apply bA); refine blk_far ?_ NB390_396.out _; (with_reducible repeat first | apply bN | apply bD | apply bA); refine blk_far ?_ NB390_396.out _; (with_reducible repeat first | apply bN | apply bD | apply bA); exact BK390.out) hb); have n2_ := Aside0.mk (blk_below (g := gb396) (o := .cells #[.int .i64 t391, .int .i64 t392, .int .i64 t393, .int .i64 t394] 24 (0, 0)) (by (with_reducible repeat first | apply bN | apply bD | apply bA); refine blk_put (cs := #[.int .i64 t391, .int .i64 t392, .int .i64 t393, .int .i64 0]) ?_ 3 _ rfl; (with_reducible repeat first | apply bN | apply bD | apply bA); refine blk_put (cs := #[.int .i64 t391, .int .i64 t392, .int .i64 0, .int .i64 0]) ?_ 2 _ rfl; (with_reducible repeat first | apply bN | apply bD | apply bA); refine blk_put (cs := #[.int .i64 t391, .int .i64 0, .int .i64 0, .int .i64 0]) ?_ 1 _ rfl; (with_reducible repeat first | apply bN | apply bD | apply bA); refine blk_put (cs := #[.int .i64 0, .int .i64 0, .int .i64 0, .int .i64 0]) ?_ 0 _ rfl; (with_reducible repeat first | apply bN | apply bD | apply bA); exact BK396.out) hb); have n3_ := Aside0.mk (below_step (by repeat first | (with_reducible first | exact HB.out | apply vA | apply vN | apply vD | refine vS ?_ GE389.out | refine vS ?_ GE390.out | refine vS ?_ GE396.out) | exact HB.out) hb); clear BK389; clear BK390; clear BK396; clear HB; have BK389 := n0_; have BK390 := n1_; have BK396 := n2_; have HB := n3_; clear n0_ n1_ n2_ n3_; (try clear hb); (try clear hb2); (try clear hk); (try clear hi)) | ((with_reducible refine gate_dst (N := 9) rfl ?_); (try (refine gate_guard (by rfl) ?_; dsimp only)); refine box_event ?hg (N := 9) ?hd (cs := #[.int .i64 0, .int .i64 0, .int .i64 0, .int .i64 0]) (t := 24) ?hr ?_; (case hd => rfl); (case hg => rfl); (case hr => first | (go_simp; done) | (go_simp; rfl)); intro gb402 hg w24 hbox hb; have n0_ := zb BK389 hb rfl; have n1_ := zb BK390 hb rfl; have n2_ := zb BK396 hb rfl; have n3_ := Aside0.mk (below_step (by repeat first | (with_reducible first | exact HB.out | apply vA | apply vN | apply vD | refine vS ?_ GE389.out | refine vS ?_ GE390.out | refine vS ?_ GE396.out) | exact HB.out) hb); have n4_ := Aside0.mk (hbox); have n5_ := Aside0.mk ((by rw [hg]; exact (below_size (by repeat first | (with_reducible first | exact HB.out | apply vA | apply vN | apply vD | refine vS ?_ GE389.out | refine vS ?_ GE390.out | refine vS ?_ GE396.out) | exact HB.out)) : w.heap.size ≤ gb402)); have n6_ := n5_; have n7_ := zl BK389 hg rfl; have n8_ := zg BK389 hg rfl; have n9_ := zl BK390 hg rfl; have n10_ := zg BK390 hg rfl; have n11_ := zl BK396 hg rfl; have n12_ := zg BK396 hg rfl; clear BK389; clear BK390; clear BK396; clear HB; have BK389 := n0_; have BK390 := n1_; have BK396 := n2_; have HB := n3_; have BK402 := n4_; have GW402 := n5_; have GE402 := n6_; have NB389_402 := n7_; have NB402_389 := n8_; have NB390_402 := n9_; have NB402_390 := n10_; have NB396_402 := n11_; have NB402_396 := n12_; clear n0_ n1_ n2_ n3_ n4_ n5_ n6_ n7_ n8_ n9_ n10_ n11_ n12_; clear hb hbox hg; have hnb25 := NB402_389.out; have hnc25 := NB389_402.out; have hnb26 := NB402_390.out; have hnc26 := NB390_402.out; have hnb27 := NB402_396.out; have hnc27 := NB396_402.out; obtain ⟨hcz28_0, hcz28_1, hcz28_2, hcz28_3, hfz28_0, hfz28_1, hfz28_2, hfz28_3⟩ := zc4 BK402))
    (try simp only [Act.put, List.setIfInBounds_toArray, List.set_cons_zero, List.set_cons_succ])
    go_cut [50] (fun v50 wc => ∃ (kq : Nat) (x50_8 : Bool), v50 = .bool x50_8 ∧ Aside0 (laws_FnMeet.j1 kq l1 t395 x50_8 t381 t382 t383 t384 t385 t386 t387 t388 t391 t392 t393 t394 = some r) ∧ Aside0 (kq ≤ kj2) ∧ Aside0 (wc.heap[gb389]? = some (.cells #[.int .i64 t381, .int .i64 t382, .int .i64 t383, .int .i64 t384] 24 (0, 0))) ∧ Aside0 (wc.heap[gb390]? = some (.cells #[.int .i64 t385, .int .i64 t386, .int .i64 t387, .int .i64 t388] 24 (0, 0))) ∧ Aside0 (wc.heap[gb396]? = some (.cells #[.int .i64 t391, .int .i64 t392, .int .i64 t393, .int .i64 t394] 24 (0, 0))) ∧ Aside0 (wc.heap[gb402]? = some (.cells #[.int .i64 t397, .int .i64 t398, .int .i64 t399, .int .i64 t400] 24 (0, 0))) ∧ Aside0 (Below w.heap.size w wc))
    case first =>
     have H := HC9.out
     clear HC9
     by_cases c29 : (!(t391 == t397) || (!(t392 == t398) || (!(t393 == t399) || (!(t394 == t400))))) = true
     ·rw [if_pos c29] at H
      have c29b0 : (!(t391 == t397) || (!(t392 == t398) || (!(t393 == t399) || (!(t394 == t400))))) = true := c29
      clear c29
      (first | rw [c29b0] | (simp only [i64_w, i32_w]; rw [c29b0]) | skip)
      have H' := Aside0.mk H
      clear H
      have hnb30 := NB396_389.out
      have hnc30 := NB389_396.out
      have hnb31 := NB396_390.out
      have hnc31 := NB390_396.out
      have hnb32 := NB396_402.out
      have hnc32 := NB402_396.out
      obtain ⟨hcz33_0, hcz33_1, hcz33_2, hcz33_3, hfz33_0, hfz33_1, hfz33_2, hfz33_3⟩ := zc4 BK396
      have hnb34 := NB402_389.out
      have hnc34 := NB389_402.out
      have hnb35 := NB402_390.out
      have hnc35 := NB390_402.out
      obtain ⟨hcz36_0, hcz36_1, hcz36_2, hcz36_3, hfz36_0, hfz36_1, hfz36_2, hfz36_3⟩ := zc4 BK402
      go_wp2
      go_meet
      case rel => exact ⟨_, (true), (by first | rfl | (simp; done) | (simp [*]; done)), H', ⟨by have := HJ2.out; first | omega | exact Nat.le_refl _⟩, ⟨by (with_reducible repeat first | apply bN | apply bD | apply bA); refine blk_far ?_ NB389_402.out _; (with_reducible repeat first | apply bN | apply bD | apply bA); refine blk_far ?_ NB389_402.out _; (with_reducible repeat first | apply bN | apply bD | apply bA); refine blk_far ?_ NB389_402.out _; (with_reducible repeat first | apply bN | apply bD | apply bA); refine blk_far ?_ NB389_402.out _; (with_reducible repeat first | apply bN | apply bD | apply bA); exact BK389.out⟩, ⟨by (with_reducible repeat first | apply bN | apply bD | apply bA); refine blk_far ?_ NB390_402.out _; (with_reducible repeat first | apply bN | apply bD | apply bA); refine blk_far ?_ NB390_402.out _; (with_reducible repeat first | apply bN | apply bD | apply bA); refine blk_far ?_ NB390_402.out _; (with_reducible repeat first | apply bN | apply bD | apply bA); refine blk_far ?_ NB390_402.out _; (with_reducible repeat first | apply bN | apply bD | apply bA); exact BK390.out⟩, ⟨by (with_reducible repeat first | apply bN | apply bD | apply bA); refine blk_far ?_ NB396_402.out _; (with_reducible repeat first | apply bN | apply bD | apply bA); refine blk_far ?_ NB396_402.out _; (with_reducible repeat first | apply bN | apply bD | apply bA); refine blk_far ?_ NB396_402.out _; (with_reducible repeat first | apply bN | apply bD | apply bA); refine blk_far ?_ NB396_402.out _; (with_reducible repeat first | apply bN | apply bD | apply bA); exact BK396.out⟩, ⟨by (with_reducible repeat first | apply bN | apply bD | apply bA); refine blk_put (cs := #[.int .i64 t397, .int .i64 t398, .int .i64 t399, .int .i64 0]) ?_ 3 _ rfl; (with_reducible repeat first | apply bN | apply bD | apply bA); refine blk_put (cs := #[.int .i64 t397, .int .i64 t398, .int .i64 0, .int .i64 0]) ?_ 2 _ rfl; (with_reducible repeat first | apply bN | apply bD | apply bA); refine blk_put (cs := #[.int .i64 t397, .int .i64 0, .int .i64 0, .int .i64 0]) ?_ 1 _ rfl; (with_reducible repeat first | apply bN | apply bD | apply bA); refine blk_put (cs := #[.int .i64 0, .int .i64 0, .int .i64 0, .int .i64 0]) ?_ 0 _ rfl; (with_reducible repeat first | apply bN | apply bD | apply bA); exact BK402.out⟩, ⟨by repeat first | (with_reducible first | exact HB.out | apply vA | apply vN | apply vD | refine vS ?_ GE389.out | refine vS ?_ GE390.out | refine vS ?_ GE396.out | refine vS ?_ GE402.out) | exact HB.out⟩⟩
     ·rw [if_neg c29] at H
      have c29b0 : (!(t391 == t397) || (!(t392 == t398) || (!(t393 == t399) || (!(t394 == t400))))) = false := by simpa using c29
      clear c29
      (first | rw [c29b0] | (simp only [i64_w, i32_w]; rw [c29b0]) | skip)
      have H' := Aside0.mk H
      clear H
      have hnb37 := NB396_389.out
      have hnc37 := NB389_396.out
      have hnb38 := NB396_390.out
      have hnc38 := NB390_396.out
      have hnb39 := NB396_402.out
      have hnc39 := NB402_396.out
      obtain ⟨hcz40_0, hcz40_1, hcz40_2, hcz40_3, hfz40_0, hfz40_1, hfz40_2, hfz40_3⟩ := zc4 BK396
      have hnb41 := NB402_389.out
      have hnc41 := NB389_402.out
      have hnb42 := NB402_390.out
      have hnc42 := NB390_402.out
      obtain ⟨hcz43_0, hcz43_1, hcz43_2, hcz43_3, hfz43_0, hfz43_1, hfz43_2, hfz43_3⟩ := zc4 BK402
      go_wp2
      go_meet
      case rel => exact ⟨_, ((t395 != t401)), (by first | rfl | (simp; done) | (simp [*]; done)), H', ⟨by have := HJ2.out; first | omega | exact Nat.le_refl _⟩, ⟨by (with_reducible repeat first | apply bN | apply bD | apply bA); refine blk_far ?_ NB389_402.out _; (with_reducible repeat first | apply bN | apply bD | apply bA); refine blk_far ?_ NB389_402.out _; (with_reducible repeat first | apply bN | apply bD | apply bA); refine blk_far ?_ NB389_402.out _; (with_reducible repeat first | apply bN | apply bD | apply bA); refine blk_far ?_ NB389_402.out _; (with_reducible repeat first | apply bN | apply bD | apply bA); exact BK389.out⟩, ⟨by (with_reducible repeat first | apply bN | apply bD | apply bA); refine blk_far ?_ NB390_402.out _; (with_reducible repeat first | apply bN | apply bD | apply bA); refine blk_far ?_ NB390_402.out _; (with_reducible repeat first | apply bN | apply bD | apply bA); refine blk_far ?_ NB390_402.out _; (with_reducible repeat first | apply bN | apply bD | apply bA); refine blk_far ?_ NB390_402.out _; (with_reducible repeat first | apply bN | apply bD | apply bA); exact BK390.out⟩, ⟨by (with_reducible repeat first | apply bN | apply bD | apply bA); refine blk_far ?_ NB396_402.out _; (with_reducible repeat first | apply bN | apply bD | apply bA); refine blk_far ?_ NB396_402.out _; (with_reducible repeat first | apply bN | apply bD | apply bA); refine blk_far ?_ NB396_402.out _; (with_reducible repeat first | apply bN | apply bD | apply bA); refine blk_far ?_ NB396_402.out _; (with_reducible repeat first | apply bN | apply bD | apply bA); exact BK396.out⟩, ⟨by (with_reducible repeat first | apply bN | apply bD | apply bA); refine blk_put (cs := #[.int .i64 t397, .int .i64 t398, .int .i64 t399, .int .i64 0]) ?_ 3 _ rfl; (with_reducible repeat first | apply bN | apply bD | apply bA); refine blk_put (cs := #[.int .i64 t397, .int .i64 t398, .int .i64 0, .int .i64 0]) ?_ 2 _ rfl; (with_reducible repeat first | apply bN | apply bD | apply bA); refine blk_put (cs := #[.int .i64 t397, .int .i64 0, .int .i64 0, .int .i64 0]) ?_ 1 _ rfl; (with_reducible repeat first | apply bN | apply bD | apply bA); refine blk_put (cs := #[.int .i64 0, .int .i64 0, .int .i64 0, .int .i64 0]) ?_ 0 _ rfl; (with_reducible repeat first | apply bN | apply bD | apply bA); exact BK402.out⟩, ⟨by repeat first | (with_reducible first | exact HB.out | apply vA | apply vN | apply vD | refine vS ?_ GE389.out | refine vS ?_ GE390.out | refine vS ?_ GE396.out | refine vS ?_ GE402.out) | exact HB.out⟩⟩
    case rest =>
     clear HC9
     try clear c1
     try clear c2
     try clear p2
     try clear c3
     try clear c4
     try clear c4b0
     try clear c4b1
     try clear c5
     try clear c13
     try clear c14
     try clear c15
     try clear c18
     try clear c19
     try clear c25
     try clear c26
     try clear c27
     try clear c29
     try clear c29b0
     try clear c30
     try clear c31
     try clear c32
     try clear c34
     try clear c35
     try clear c37
     try clear c38
     try clear c39
     try clear c41
     try clear c42
     try clear hcz14_0
     try clear hcz14_1
     try clear hcz14_2
     try clear hcz14_3
     try clear hcz15_0
     try clear hcz15_1
     try clear hcz15_2
     try clear hcz15_3
     try clear hcz20_0
     try clear hcz20_1
     try clear hcz20_2
     try clear hcz20_3
     try clear hcz21_0
     try clear hcz21_1
     try clear hcz21_2
     try clear hcz21_3
     try clear hcz22_0
     try clear hcz22_1
     try clear hcz22_2
     try clear hcz22_3
     try clear hcz28_0
     try clear hcz28_1
     try clear hcz28_2
     try clear hcz28_3
     try clear hcz33_0
     try clear hcz33_1
     try clear hcz33_2
     try clear hcz33_3
     try clear hcz36_0
     try clear hcz36_1
     try clear hcz36_2
     try clear hcz36_3
     try clear hcz40_0
     try clear hcz40_1
     try clear hcz40_2
     try clear hcz40_3
     try clear hcz43_0
     try clear hcz43_1
     try clear hcz43_2
     try clear hcz43_3
     try clear hfz14_0
     try clear hfz14_1
     try clear hfz14_2
     try clear hfz14_3
     try clear hfz15_0
     try clear hfz15_1
     try clear hfz15_2
     try clear hfz15_3
     try clear hfz20_0
     try clear hfz20_1
     try clear hfz20_2
     try clear hfz20_3
     try clear hfz21_0
     try clear hfz21_1
     try clear hfz21_2
     try clear hfz21_3
     try clear hfz22_0
     try clear hfz22_1
     try clear hfz22_2
     try clear hfz22_3
     try clear hfz28_0
     try clear hfz28_1
     try clear hfz28_2
     try clear hfz28_3
     try clear hfz33_0
     try clear hfz33_1
     try clear hfz33_2
     try clear hfz33_3
     try clear hfz36_0
     try clear hfz36_1
     try clear hfz36_2
     try clear hfz36_3
     try clear hfz40_0
     try clear hfz40_1
     try clear hfz40_2
     try clear hfz40_3
     try clear hfz43_0
     try clear hfz43_1
     try clear hfz43_2
     try clear hfz43_3
     try clear p2
     obtain ⟨kq, x50_8, rfl, HA, HJ8, BK389, BK390, BK396, BK402, HB⟩ := hcut
     cases kq with
     | zero => exact absurd HA.out (by simp [laws_FnMeet.j1])
     | succ kj8 =>
      have H := HA.out
      clear HA
      simp only [laws_FnMeet.j1] at H
      by_cases c44 : x50_8 = true
      ·subst c44
       rw [if_pos rfl] at H
       exact absurd H (by simp)
      ·replace c44 := Bool.eq_false_iff.mpr c44
       subst c44
       rw [if_neg (show ¬ (false = true) by decide)] at H
       replace H := Option.bind_eq_some_iff.mp H
       obtain ⟨⟨t403, t404, t405, t406, t407⟩, A450, H⟩ := H
       try dsimp only at H
       have A45 := Aside0.mk A450
       clear A450
       replace H := Option.bind_eq_some_iff.mp H
       obtain ⟨⟨t409, t410, t411, t412, t413⟩, A460, H⟩ := H
       try dsimp only at H
       have A46 := Aside0.mk A460
       clear A460
       have HC47 := Aside0.mk H
       clear H
       have hnb48 := NB390_389.out
       have hnc48 := NB389_390.out
       have hnb49 := NB390_396.out
       have hnc49 := NB396_390.out
       have hnb50 := NB390_402.out
       have hnc50 := NB402_390.out
       obtain ⟨hcz51_0, hcz51_1, hcz51_2, hcz51_3, hfz51_0, hfz51_1, hfz51_2, hfz51_3⟩ := zc4 BK390
       have hnb52 := NB389_396.out
       have hnc52 := NB396_389.out
       have hnb53 := NB389_402.out
       have hnc53 := NB402_389.out
       obtain ⟨hcz54_0, hcz54_1, hcz54_2, hcz54_3, hfz54_0, hfz54_1, hfz54_2, hfz54_3⟩ := zc4 BK389
       go_upto_region 10 with (first | ((with_reducible refine gate_callee (f := 14) rfl ?_); refine goesL_ (some 54) rfl rfl Try.func14 (by kernel_rfl) rfl #[.agg #[.int .i64 t385, .int .i64 t386, .int .i64 t387, .int .i64 t388], .agg #[.int .i64 t381, .int .i64 t382, .int .i64 t383, .int .i64 t384]] rfl (by (try simp only [List.map_toArray, List.map_cons, List.map_nil]); first | done | rfl | (simp only [List.length_drop, List.length_take]; rfl)) ?_; (with_reducible refine (impl_RangeMeet.calls kj8 t385 t386 t387 t388 t381 t382 t383 t384 t403 t404 t405 t406 t407 _ A45.out).mono ?_); rintro e w55 ⟨rfl, hb⟩; refine ⟨_, rfl, ?_⟩; have n0_ := zb BK389 hb rfl; have n1_ := zb BK390 hb rfl; have n2_ := zb BK396 hb rfl; have n3_ := zb BK402 hb rfl; have n4_ := Aside0.mk (below_step (by repeat first | (with_reducible first | exact HB.out | apply vA | apply vN | apply vD | refine vS ?_ GE389.out | refine vS ?_ GE390.out | refine vS ?_ GE396.out | refine vS ?_ GE402.out) | exact HB.out) hb); clear BK389; clear BK390; clear BK396; clear BK402; clear HB; have BK389 := n0_; have BK390 := n1_; have BK396 := n2_; have BK402 := n3_; have HB := n4_; clear n0_ n1_ n2_ n3_ n4_; (try clear hb); (try clear hb2); (try clear hk); (try clear hi)) | ((with_reducible refine gate_dst (N := 11) rfl ?_); (try (refine gate_guard (by rfl) ?_; dsimp only)); refine box_event ?hg (N := 11) ?hd (cs := #[.int .i64 0, .int .i64 0, .int .i64 0, .int .i64 0]) (t := 24) ?hr ?_; (case hd => rfl); (case hg => rfl); (case hr => first | (go_simp; done) | (go_simp; rfl)); intro gb408 hg w56 hbox hb; have n0_ := zb BK389 hb rfl; have n1_ := zb BK390 hb rfl; have n2_ := zb BK396 hb rfl; have n3_ := zb BK402 hb rfl; have n4_ := Aside0.mk (below_step (by repeat first | (with_reducible first | exact HB.out | apply vA | apply vN | apply vD | refine vS ?_ GE389.out | refine vS ?_ GE390.out | refine vS ?_ GE396.out | refine vS ?_ GE402.out) | exact HB.out) hb); have n5_ := Aside0.mk (hbox); have n6_ := Aside0.mk ((by rw [hg]; exact (below_size (by repeat first | (with_reducible first | exact HB.out | apply vA | apply vN | apply vD | refine vS ?_ GE389.out | refine vS ?_ GE390.out | refine vS ?_ GE396.out | refine vS ?_ GE402.out) | exact HB.out)) : w.heap.size ≤ gb408)); have n7_ := n6_; have n8_ := zl BK389 hg rfl; have n9_ := zg BK389 hg rfl; have n10_ := zl BK390 hg rfl; have n11_ := zg BK390 hg rfl; have n12_ := zl BK396 hg rfl; have n13_ := zg BK396 hg rfl; have n14_ := zl BK402 hg rfl; have n15_ := zg BK402 hg rfl; clear BK389; clear BK390; clear BK396; clear BK402; clear HB; have BK389 := n0_; have BK390 := n1_; have BK396 := n2_; have BK402 := n3_; have HB := n4_; have BK408 := n5_; have GW408 := n6_; have GE408 := n7_; have NB389_408 := n8_; have NB408_389 := n9_; have NB390_408 := n10_; have NB408_390 := n11_; have NB396_408 := n12_; have NB408_396 := n13_; have NB402_408 := n14_; have NB408_402 := n15_; clear n0_ n1_ n2_ n3_ n4_ n5_ n6_ n7_ n8_ n9_ n10_ n11_ n12_ n13_ n14_ n15_; clear hb hbox hg; have hnb57 := NB408_389.out; have hnc57 := NB389_408.out; have hnb58 := NB408_390.out; have hnc58 := NB390_408.out; have hnb59 := NB408_396.out; have hnc59 := NB396_408.out; have hnb60 := NB408_402.out; have hnc60 := NB402_408.out; obtain ⟨hcz61_0, hcz61_1, hcz61_2, hcz61_3, hfz61_0, hfz61_1, hfz61_2, hfz61_3⟩ := zc4 BK408) | ((with_reducible refine gate_callee (f := 17) rfl ?_); refine goesL_ (some 59) rfl rfl Try.func17 (by kernel_rfl) rfl #[.slice A1 l1.length c1] rfl (by (try simp only [List.map_toArray, List.map_cons, List.map_nil]); first | done | rfl | (simp only [List.length_drop, List.length_take]; rfl)) ?_; (with_reducible refine (spec_DrawRangeHas.calls kj8 _ _ l1 t409 t410 t411 t412 t413 _ ?side1 ?side2 A46.out).mono ?_); (case side1 => exact Kd.C_below HR1.out (by repeat first | (with_reducible first | exact HB.out | apply vA | apply vN | apply vD | refine vS ?_ GE389.out | refine vS ?_ GE390.out | refine vS ?_ GE396.out | refine vS ?_ GE402.out | refine vS ?_ GE408.out) | exact HB.out)); (case side2 => exact HC1.out); rintro e w62 ⟨rfl, hb⟩; refine ⟨_, rfl, ?_⟩; have n0_ := Aside0.mk (blk_below (g := gb389) (o := .cells #[.int .i64 t381, .int .i64 t382, .int .i64 t383, .int .i64 t384] 24 (0, 0)) (by (with_reducible repeat first | apply bN | apply bD | apply bA); refine blk_far ?_ NB389_408.out _; (with_reducible repeat first | apply bN | apply bD | apply bA); refine blk_far ?_ NB389_408.out _; (with_reducible repeat first | apply bN | apply bD | apply bA); refine blk_far ?_ NB389_408.out _; (with_reducible repeat first | apply bN | apply bD | apply bA); refine blk_far ?_ NB389_408.out _; (with_reducible repeat first | apply bN | apply bD | apply bA); exact BK389.out) hb); have n1_ := Aside0.mk (blk_below (g := gb390) (o := .cells #[.int .i64 t385, .int .i64 t386, .int .i64 t387, .int .i64 t388] 24 (0, 0)) (by (with_reducible repeat first | apply bN | apply bD | apply bA); refine blk_far ?_ NB390_408.out _; (with_reducible repeat first | apply bN | apply bD | apply bA); refine blk_far ?_ NB390_408.out _; (with_reducible repeat first | apply bN | apply bD | apply bA); refine blk_far ?_ NB390_408.out _; (with_reducible repeat first | apply bN | apply bD | apply bA); refine blk_far ?_ NB390_408.out _; (with_reducible repeat first | apply bN | apply bD | apply bA); exact BK390.out) hb); have n2_ := Aside0.mk (blk_below (g := gb396) (o := .cells #[.int .i64 t391, .int .i64 t392, .int .i64 t393, .int .i64 t394] 24 (0, 0)) (by (with_reducible repeat first | apply bN | apply bD | apply bA); refine blk_far ?_ NB396_408.out _; (with_reducible repeat first | apply bN | apply bD | apply bA); refine blk_far ?_ NB396_408.out _; (with_reducible repeat first | apply bN | apply bD | apply bA); refine blk_far ?_ NB396_408.out _; (with_reducible repeat first | apply bN | apply bD | apply bA); refine blk_far ?_ NB396_408.out _; (with_reducible repeat first | apply bN | apply bD | apply bA); exact BK396.out) hb); have n3_ := Aside0.mk (blk_below (g := gb402) (o := .cells #[.int .i64 t397, .int .i64 t398, .int .i64 t399, .int .i64 t400] 24 (0, 0)) (by (with_reducible repeat first | apply bN | apply bD | apply bA); refine blk_far ?_ NB402_408.out _; (with_reducible repeat first | apply bN | apply bD | apply bA); refine blk_far ?_ NB402_408.out _; (with_reducible repeat first | apply bN | apply bD | apply bA); refine blk_far ?_ NB402_408.out _; (with_reducible repeat first | apply bN | apply bD | apply bA); refine blk_far ?_ NB402_408.out _; (with_reducible repeat first | apply bN | apply bD | apply bA); exact BK402.out) hb); have n4_ := Aside0.mk (blk_below (g := gb408) (o := .cells #[.int .i64 t403, .int .i64 t404, .int .i64 t405, .int .i64 t406] 24 (0, 0)) (by (with_reducible repeat first | apply bN | apply bD | apply bA); refine blk_put (cs := #[.int .i64 t403, .int .i64 t404, .int .i64 t405, .int .i64 0]) ?_ 3 _ rfl; (with_reducible repeat first | apply bN | apply bD | apply bA); refine blk_put (cs := #[.int .i64 t403, .int .i64 t404, .int .i64 0, .int .i64 0]) ?_ 2 _ rfl; (with_reducible repeat first | apply bN | apply bD | apply bA); refine blk_put (cs := #[.int .i64 t403, .int .i64 0, .int .i64 0, .int .i64 0]) ?_ 1 _ rfl; (with_reducible repeat first | apply bN | apply bD | apply bA); refine blk_put (cs := #[.int .i64 0, .int .i64 0, .int .i64 0, .int .i64 0]) ?_ 0 _ rfl; (with_reducible repeat first | apply bN | apply bD | apply bA); exact BK408.out) hb); have n5_ := Aside0.mk (below_step (by repeat first | (with_reducible first | exact HB.out | apply vA | apply vN | apply vD | refine vS ?_ GE389.out | refine vS ?_ GE390.out | refine vS ?_ GE396.out | refine vS ?_ GE402.out | refine vS ?_ GE408.out) | exact HB.out) hb); clear BK389; clear BK390; clear BK396; clear BK402; clear BK408; clear HB; have BK389 := n0_; have BK390 := n1_; have BK396 := n2_; have BK402 := n3_; have BK408 := n4_; have HB := n5_; clear n0_ n1_ n2_ n3_ n4_ n5_; (try clear hb); (try clear hb2); (try clear hk); (try clear hi)) | ((with_reducible refine gate_dst (N := 13) rfl ?_); (try (refine gate_guard (by rfl) ?_; dsimp only)); refine box_event ?hg (N := 13) ?hd (cs := #[.int .i64 0, .int .i64 0, .int .i64 0, .int .i64 0]) (t := 24) ?hr ?_; (case hd => rfl); (case hg => rfl); (case hr => first | (go_simp; done) | (go_simp; rfl)); intro gb414 hg w63 hbox hb; have n0_ := zb BK389 hb rfl; have n1_ := zb BK390 hb rfl; have n2_ := zb BK396 hb rfl; have n3_ := zb BK402 hb rfl; have n4_ := zb BK408 hb rfl; have n5_ := Aside0.mk (below_step (by repeat first | (with_reducible first | exact HB.out | apply vA | apply vN | apply vD | refine vS ?_ GE389.out | refine vS ?_ GE390.out | refine vS ?_ GE396.out | refine vS ?_ GE402.out | refine vS ?_ GE408.out) | exact HB.out) hb); have n6_ := Aside0.mk (hbox); have n7_ := Aside0.mk ((by rw [hg]; exact (below_size (by repeat first | (with_reducible first | exact HB.out | apply vA | apply vN | apply vD | refine vS ?_ GE389.out | refine vS ?_ GE390.out | refine vS ?_ GE396.out | refine vS ?_ GE402.out | refine vS ?_ GE408.out) | exact HB.out)) : w.heap.size ≤ gb414)); have n8_ := n7_; have n9_ := zl BK389 hg rfl; have n10_ := zg BK389 hg rfl; have n11_ := zl BK390 hg rfl; have n12_ := zg BK390 hg rfl; have n13_ := zl BK396 hg rfl; have n14_ := zg BK396 hg rfl; have n15_ := zl BK402 hg rfl; have n16_ := zg BK402 hg rfl; have n17_ := zl BK408 hg rfl; have n18_ := zg BK408 hg rfl; clear BK389; clear BK390; clear BK396; clear BK402; clear BK408; clear HB; have BK389 := n0_; have BK390 := n1_; have BK396 := n2_; have BK402 := n3_; have BK408 := n4_; have HB := n5_; have BK414 := n6_; have GW414 := n7_; have GE414 := n8_; have NB389_414 := n9_; have NB414_389 := n10_; have NB390_414 := n11_; have NB414_390 := n12_; have NB396_414 := n13_; have NB414_396 := n14_; have NB402_414 := n15_; have NB414_402 := n16_; have NB408_414 := n17_; have NB414_408 := n18_; clear n0_ n1_ n2_ n3_ n4_ n5_ n6_ n7_ n8_ n9_ n10_ n11_ n12_ n13_ n14_ n15_ n16_ n17_ n18_; clear hb hbox hg; have hnb64 := NB414_389.out; have hnc64 := NB389_414.out; have hnb65 := NB414_390.out; have hnc65 := NB390_414.out; have hnb66 := NB414_396.out; have hnc66 := NB396_414.out; have hnb67 := NB414_402.out; have hnc67 := NB402_414.out; have hnb68 := NB414_408.out; have hnc68 := NB408_414.out; obtain ⟨hcz69_0, hcz69_1, hcz69_2, hcz69_3, hfz69_0, hfz69_1, hfz69_2, hfz69_3⟩ := zc4 BK414))
       (try simp only [Act.put, List.setIfInBounds_toArray, List.set_cons_zero, List.set_cons_succ])
       go_cut [15] (fun v15 wc => ∃ (kq : Nat) (x15_46 : Bool), v15 = .bool x15_46 ∧ Aside0 (laws_FnMeet.j2 kq t395 t407 t413 x15_46 t381 t382 t383 t384 t385 t386 t387 t388 t391 t392 t393 t394 t403 t404 t405 t406 = some r) ∧ Aside0 (kq ≤ kj8) ∧ Aside0 (wc.heap[gb389]? = some (.cells #[.int .i64 t381, .int .i64 t382, .int .i64 t383, .int .i64 t384] 24 (0, 0))) ∧ Aside0 (wc.heap[gb390]? = some (.cells #[.int .i64 t385, .int .i64 t386, .int .i64 t387, .int .i64 t388] 24 (0, 0))) ∧ Aside0 (wc.heap[gb396]? = some (.cells #[.int .i64 t391, .int .i64 t392, .int .i64 t393, .int .i64 t394] 24 (0, 0))) ∧ Aside0 (wc.heap[gb402]? = some (.cells #[.int .i64 t397, .int .i64 t398, .int .i64 t399, .int .i64 t400] 24 (0, 0))) ∧ Aside0 (wc.heap[gb408]? = some (.cells #[.int .i64 t403, .int .i64 t404, .int .i64 t405, .int .i64 t406] 24 (0, 0))) ∧ Aside0 (wc.heap[gb414]? = some (.cells #[.int .i64 t409, .int .i64 t410, .int .i64 t411, .int .i64 t412] 24 (0, 0))) ∧ Aside0 (Below w.heap.size w wc))
       case first =>
        have H := HC47.out
        clear HC47
        replace H := Option.bind_eq_some_iff.mp H
        obtain ⟨t415, A700, H⟩ := H
        try dsimp only at H
        have A70 := Aside0.mk A700
        clear A700
        by_cases c71 : t415 = true
        ·subst c71
         rw [if_pos rfl] at H
         replace H := Option.bind_eq_some_iff.mp H
         obtain ⟨t416, A720, H⟩ := H
         try dsimp only at H
         have A72 := Aside0.mk A720
         clear A720
         have H' := Aside0.mk H
         clear H
         have hnb73 := NB389_390.out
         have hnc73 := NB390_389.out
         have hnb74 := NB389_396.out
         have hnc74 := NB396_389.out
         have hnb75 := NB389_402.out
         have hnc75 := NB402_389.out
         have hnb76 := NB389_408.out
         have hnc76 := NB408_389.out
         have hnb77 := NB389_414.out
         have hnc77 := NB414_389.out
         obtain ⟨hcz78_0, hcz78_1, hcz78_2, hcz78_3, hfz78_0, hfz78_1, hfz78_2, hfz78_3⟩ := zc4 BK389
         go_wp2_with (first | ((with_reducible refine gate_callee (f := 18) rfl ?_); refine goesL_ (some 64) rfl rfl Try.func18 (by kernel_rfl) rfl #[.agg #[.int .i64 t381, .int .i64 t382, .int .i64 t383, .int .i64 t384], .int .i64 t413] rfl (by (try simp only [List.map_toArray, List.map_cons, List.map_nil]); first | done | rfl | (simp only [List.length_drop, List.length_take]; rfl)) ?_; (with_reducible refine (impl_RangeHas.calls t381 t382 t383 t384 t413 true _ A70.out).mono ?_); rintro e w79 ⟨rfl, hb⟩; refine ⟨_, rfl, ?_⟩; have n0_ := Aside0.mk (blk_below (g := gb389) (o := .cells #[.int .i64 t381, .int .i64 t382, .int .i64 t383, .int .i64 t384] 24 (0, 0)) (by (with_reducible repeat first | apply bN | apply bD | apply bA); refine blk_far ?_ NB389_414.out _; (with_reducible repeat first | apply bN | apply bD | apply bA); refine blk_far ?_ NB389_414.out _; (with_reducible repeat first | apply bN | apply bD | apply bA); refine blk_far ?_ NB389_414.out _; (with_reducible repeat first | apply bN | apply bD | apply bA); refine blk_far ?_ NB389_414.out _; (with_reducible repeat first | apply bN | apply bD | apply bA); exact BK389.out) hb); have n1_ := Aside0.mk (blk_below (g := gb390) (o := .cells #[.int .i64 t385, .int .i64 t386, .int .i64 t387, .int .i64 t388] 24 (0, 0)) (by (with_reducible repeat first | apply bN | apply bD | apply bA); refine blk_far ?_ NB390_414.out _; (with_reducible repeat first | apply bN | apply bD | apply bA); refine blk_far ?_ NB390_414.out _; (with_reducible repeat first | apply bN | apply bD | apply bA); refine blk_far ?_ NB390_414.out _; (with_reducible repeat first | apply bN | apply bD | apply bA); refine blk_far ?_ NB390_414.out _; (with_reducible repeat first | apply bN | apply bD | apply bA); exact BK390.out) hb); have n2_ := Aside0.mk (blk_below (g := gb396) (o := .cells #[.int .i64 t391, .int .i64 t392, .int .i64 t393, .int .i64 t394] 24 (0, 0)) (by (with_reducible repeat first | apply bN | apply bD | apply bA); refine blk_far ?_ NB396_414.out _; (with_reducible repeat first | apply bN | apply bD | apply bA); refine blk_far ?_ NB396_414.out _; (with_reducible repeat first | apply bN | apply bD | apply bA); refine blk_far ?_ NB396_414.out _; (with_reducible repeat first | apply bN | apply bD | apply bA); refine blk_far ?_ NB396_414.out _; (with_reducible repeat first | apply bN | apply bD | apply bA); exact BK396.out) hb); have n3_ := Aside0.mk (blk_below (g := gb402) (o := .cells #[.int .i64 t397, .int .i64 t398, .int .i64 t399, .int .i64 t400] 24 (0, 0)) (by (with_reducible repeat first | apply bN | apply bD | apply bA); refine blk_far ?_ NB402_414.out _; (with_reducible repeat first | apply bN | apply bD | apply bA); refine blk_far ?_ NB402_414.out _; (with_reducible repeat first | apply bN | apply bD | apply bA); refine blk_far ?_ NB402_414.out _; (with_reducible repeat first | apply bN | apply bD | apply bA); refine blk_far ?_ NB402_414.out _; (with_reducible repeat first | apply bN | apply bD | apply bA); exact BK402.out) hb); have n4_ := Aside0.mk (blk_below (g := gb408) (o := .cells #[.int .i64 t403, .int .i64 t404, .int .i64 t405, .int .i64 t406] 24 (0, 0)) (by (with_reducible repeat first | apply bN | apply bD | apply bA); refine blk_far ?_ NB408_414.out _; (with_reducible repeat first | apply bN | apply bD | apply bA); refine blk_far ?_ NB408_414.out _; (with_reducible repeat first | apply bN | apply bD | apply bA); refine blk_far ?_ NB408_414.out _; (with_reducible repeat first | apply bN | apply bD | apply bA); refine blk_far ?_ NB408_414.out _; (with_reducible repeat first | apply bN | apply bD | apply bA); exact BK408.out) hb); have n5_ := Aside0.mk (blk_below (g := gb414) (o := .cells #[.int .i64 t409, .int .i64 t410, .int .i64 t411, .int .i64 t412] 24 (0, 0)) (by (with_reducible repeat first | apply bN | apply bD | apply bA); refine blk_put (cs := #[.int .i64 t409, .int .i64 t410, .int .i64 t411, .int .i64 0]) ?_ 3 _ rfl; (with_reducible repeat first | apply bN | apply bD | apply bA); refine blk_put (cs := #[.int .i64 t409, .int .i64 t410, .int .i64 0, .int .i64 0]) ?_ 2 _ rfl; (with_reducible repeat first | apply bN | apply bD | apply bA); refine blk_put (cs := #[.int .i64 t409, .int .i64 0, .int .i64 0, .int .i64 0]) ?_ 1 _ rfl; (with_reducible repeat first | apply bN | apply bD | apply bA); refine blk_put (cs := #[.int .i64 0, .int .i64 0, .int .i64 0, .int .i64 0]) ?_ 0 _ rfl; (with_reducible repeat first | apply bN | apply bD | apply bA); exact BK414.out) hb); have n6_ := Aside0.mk (below_step (by repeat first | (with_reducible first | exact HB.out | apply vA | apply vN | apply vD | refine vS ?_ GE389.out | refine vS ?_ GE390.out | refine vS ?_ GE396.out | refine vS ?_ GE402.out | refine vS ?_ GE408.out | refine vS ?_ GE414.out) | exact HB.out) hb); clear BK389; clear BK390; clear BK396; clear BK402; clear BK408; clear BK414; clear HB; have BK389 := n0_; have BK390 := n1_; have BK396 := n2_; have BK402 := n3_; have BK408 := n4_; have BK414 := n5_; have HB := n6_; clear n0_ n1_ n2_ n3_ n4_ n5_ n6_; (try clear hb); (try clear hb2); (try clear hk); (try clear hi); have hnb80 := NB390_396.out; have hnc80 := NB396_390.out; have hnb81 := NB390_402.out; have hnc81 := NB402_390.out; have hnb82 := NB390_408.out; have hnc82 := NB408_390.out; have hnb83 := NB390_414.out; have hnc83 := NB414_390.out; obtain ⟨hcz84_0, hcz84_1, hcz84_2, hcz84_3, hfz84_0, hfz84_1, hfz84_2, hfz84_3⟩ := zc4 BK390) | (go_at_call 18; (with_reducible refine (impl_RangeHas.calls t385 t386 t387 t388 t413 t416 _ A72.out).mono ?_); rintro e w85 ⟨rfl, hb⟩; have n0_ := zb BK389 hb rfl; have n1_ := zb BK390 hb rfl; have n2_ := zb BK396 hb rfl; have n3_ := zb BK402 hb rfl; have n4_ := zb BK408 hb rfl; have n5_ := zb BK414 hb rfl; have n6_ := Aside0.mk (below_step (by repeat first | (with_reducible first | exact HB.out | apply vA | apply vN | apply vD | refine vS ?_ GE389.out | refine vS ?_ GE390.out | refine vS ?_ GE396.out | refine vS ?_ GE402.out | refine vS ?_ GE408.out | refine vS ?_ GE414.out) | exact HB.out) hb); clear BK389; clear BK390; clear BK396; clear BK402; clear BK408; clear BK414; clear HB; have BK389 := n0_; have BK390 := n1_; have BK396 := n2_; have BK402 := n3_; have BK408 := n4_; have BK414 := n5_; have HB := n6_; clear n0_ n1_ n2_ n3_ n4_ n5_ n6_; (try clear hb); (try clear hb2); (try clear hk); (try clear hi)))
         go_meet
         case rel => exact ⟨_, (t416), (by first | rfl | (simp; done) | (simp [*]; done)), H', ⟨by have := HJ2.out; have := HJ8.out; first | omega | exact Nat.le_refl _⟩, ⟨by (with_reducible repeat first | apply bN | apply bD | apply bA); exact BK389.out⟩, ⟨by (with_reducible repeat first | apply bN | apply bD | apply bA); exact BK390.out⟩, ⟨by (with_reducible repeat first | apply bN | apply bD | apply bA); exact BK396.out⟩, ⟨by (with_reducible repeat first | apply bN | apply bD | apply bA); exact BK402.out⟩, ⟨by (with_reducible repeat first | apply bN | apply bD | apply bA); exact BK408.out⟩, ⟨by (with_reducible repeat first | apply bN | apply bD | apply bA); exact BK414.out⟩, ⟨by repeat first | (with_reducible first | exact HB.out | apply vA | apply vN | apply vD | refine vS ?_ GE389.out | refine vS ?_ GE390.out | refine vS ?_ GE396.out | refine vS ?_ GE402.out | refine vS ?_ GE408.out | refine vS ?_ GE414.out) | exact HB.out⟩⟩
        ·replace c71 := Bool.eq_false_iff.mpr c71
         subst c71
         rw [if_neg (show ¬ (false = true) by decide)] at H
         have H' := Aside0.mk H
         clear H
         have hnb86 := NB389_390.out
         have hnc86 := NB390_389.out
         have hnb87 := NB389_396.out
         have hnc87 := NB396_389.out
         have hnb88 := NB389_402.out
         have hnc88 := NB402_389.out
         have hnb89 := NB389_408.out
         have hnc89 := NB408_389.out
         have hnb90 := NB389_414.out
         have hnc90 := NB414_389.out
         obtain ⟨hcz91_0, hcz91_1, hcz91_2, hcz91_3, hfz91_0, hfz91_1, hfz91_2, hfz91_3⟩ := zc4 BK389
         go_wp2_with (first | ((with_reducible refine gate_callee (f := 18) rfl ?_); refine goesL_ (some 64) rfl rfl Try.func18 (by kernel_rfl) rfl #[.agg #[.int .i64 t381, .int .i64 t382, .int .i64 t383, .int .i64 t384], .int .i64 t413] rfl (by (try simp only [List.map_toArray, List.map_cons, List.map_nil]); first | done | rfl | (simp only [List.length_drop, List.length_take]; rfl)) ?_; (with_reducible refine (impl_RangeHas.calls t381 t382 t383 t384 t413 false _ A70.out).mono ?_); rintro e w92 ⟨rfl, hb⟩; refine ⟨_, rfl, ?_⟩; have n0_ := Aside0.mk (blk_below (g := gb389) (o := .cells #[.int .i64 t381, .int .i64 t382, .int .i64 t383, .int .i64 t384] 24 (0, 0)) (by (with_reducible repeat first | apply bN | apply bD | apply bA); refine blk_far ?_ NB389_414.out _; (with_reducible repeat first | apply bN | apply bD | apply bA); refine blk_far ?_ NB389_414.out _; (with_reducible repeat first | apply bN | apply bD | apply bA); refine blk_far ?_ NB389_414.out _; (with_reducible repeat first | apply bN | apply bD | apply bA); refine blk_far ?_ NB389_414.out _; (with_reducible repeat first | apply bN | apply bD | apply bA); exact BK389.out) hb); have n1_ := Aside0.mk (blk_below (g := gb390) (o := .cells #[.int .i64 t385, .int .i64 t386, .int .i64 t387, .int .i64 t388] 24 (0, 0)) (by (with_reducible repeat first | apply bN | apply bD | apply bA); refine blk_far ?_ NB390_414.out _; (with_reducible repeat first | apply bN | apply bD | apply bA); refine blk_far ?_ NB390_414.out _; (with_reducible repeat first | apply bN | apply bD | apply bA); refine blk_far ?_ NB390_414.out _; (with_reducible repeat first | apply bN | apply bD | apply bA); refine blk_far ?_ NB390_414.out _; (with_reducible repeat first | apply bN | apply bD | apply bA); exact BK390.out) hb); have n2_ := Aside0.mk (blk_below (g := gb396) (o := .cells #[.int .i64 t391, .int .i64 t392, .int .i64 t393, .int .i64 t394] 24 (0, 0)) (by (with_reducible repeat first | apply bN | apply bD | apply bA); refine blk_far ?_ NB396_414.out _; (with_reducible repeat first | apply bN | apply bD | apply bA); refine blk_far ?_ NB396_414.out _; (with_reducible repeat first | apply bN | apply bD | apply bA); refine blk_far ?_ NB396_414.out _; (with_reducible repeat first | apply bN | apply bD | apply bA); refine blk_far ?_ NB396_414.out _; (with_reducible repeat first | apply bN | apply bD | apply bA); exact BK396.out) hb); have n3_ := Aside0.mk (blk_below (g := gb402) (o := .cells #[.int .i64 t397, .int .i64 t398, .int .i64 t399, .int .i64 t400] 24 (0, 0)) (by (with_reducible repeat first | apply bN | apply bD | apply bA); refine blk_far ?_ NB402_414.out _; (with_reducible repeat first | apply bN | apply bD | apply bA); refine blk_far ?_ NB402_414.out _; (with_reducible repeat first | apply bN | apply bD | apply bA); refine blk_far ?_ NB402_414.out _; (with_reducible repeat first | apply bN | apply bD | apply bA); refine blk_far ?_ NB402_414.out _; (with_reducible repeat first | apply bN | apply bD | apply bA); exact BK402.out) hb); have n4_ := Aside0.mk (blk_below (g := gb408) (o := .cells #[.int .i64 t403, .int .i64 t404, .int .i64 t405, .int .i64 t406] 24 (0, 0)) (by (with_reducible repeat first | apply bN | apply bD | apply bA); refine blk_far ?_ NB408_414.out _; (with_reducible repeat first | apply bN | apply bD | apply bA); refine blk_far ?_ NB408_414.out _; (with_reducible repeat first | apply bN | apply bD | apply bA); refine blk_far ?_ NB408_414.out _; (with_reducible repeat first | apply bN | apply bD | apply bA); refine blk_far ?_ NB408_414.out _; (with_reducible repeat first | apply bN | apply bD | apply bA); exact BK408.out) hb); have n5_ := Aside0.mk (blk_below (g := gb414) (o := .cells #[.int .i64 t409, .int .i64 t410, .int .i64 t411, .int .i64 t412] 24 (0, 0)) (by (with_reducible repeat first | apply bN | apply bD | apply bA); refine blk_put (cs := #[.int .i64 t409, .int .i64 t410, .int .i64 t411, .int .i64 0]) ?_ 3 _ rfl; (with_reducible repeat first | apply bN | apply bD | apply bA); refine blk_put (cs := #[.int .i64 t409, .int .i64 t410, .int .i64 0, .int .i64 0]) ?_ 2 _ rfl; (with_reducible repeat first | apply bN | apply bD | apply bA); refine blk_put (cs := #[.int .i64 t409, .int .i64 0, .int .i64 0, .int .i64 0]) ?_ 1 _ rfl; (with_reducible repeat first | apply bN | apply bD | apply bA); refine blk_put (cs := #[.int .i64 0, .int .i64 0, .int .i64 0, .int .i64 0]) ?_ 0 _ rfl; (with_reducible repeat first | apply bN | apply bD | apply bA); exact BK414.out) hb); have n6_ := Aside0.mk (below_step (by repeat first | (with_reducible first | exact HB.out | apply vA | apply vN | apply vD | refine vS ?_ GE389.out | refine vS ?_ GE390.out | refine vS ?_ GE396.out | refine vS ?_ GE402.out | refine vS ?_ GE408.out | refine vS ?_ GE414.out) | exact HB.out) hb); clear BK389; clear BK390; clear BK396; clear BK402; clear BK408; clear BK414; clear HB; have BK389 := n0_; have BK390 := n1_; have BK396 := n2_; have BK402 := n3_; have BK408 := n4_; have BK414 := n5_; have HB := n6_; clear n0_ n1_ n2_ n3_ n4_ n5_ n6_; (try clear hb); (try clear hb2); (try clear hk); (try clear hi)))
         go_meet
         case rel => exact ⟨_, (false), (by first | rfl | (simp; done) | (simp [*]; done)), H', ⟨by have := HJ2.out; have := HJ8.out; first | omega | exact Nat.le_refl _⟩, ⟨by (with_reducible repeat first | apply bN | apply bD | apply bA); exact BK389.out⟩, ⟨by (with_reducible repeat first | apply bN | apply bD | apply bA); exact BK390.out⟩, ⟨by (with_reducible repeat first | apply bN | apply bD | apply bA); exact BK396.out⟩, ⟨by (with_reducible repeat first | apply bN | apply bD | apply bA); exact BK402.out⟩, ⟨by (with_reducible repeat first | apply bN | apply bD | apply bA); exact BK408.out⟩, ⟨by (with_reducible repeat first | apply bN | apply bD | apply bA); exact BK414.out⟩, ⟨by repeat first | (with_reducible first | exact HB.out | apply vA | apply vN | apply vD | refine vS ?_ GE389.out | refine vS ?_ GE390.out | refine vS ?_ GE396.out | refine vS ?_ GE402.out | refine vS ?_ GE408.out | refine vS ?_ GE414.out) | exact HB.out⟩⟩
       case rest =>
        clear HC47
        try clear c1
        try clear c2
        try clear p2
        try clear c3
        try clear c4
        try clear c4b0
        try clear c4b1
        try clear c5
        try clear c6
        try clear c7
        try clear c8
        try clear c9
        try clear c13
        try clear c14
        try clear c15
        try clear c17
        try clear c18
        try clear c19
        try clear c25
        try clear c26
        try clear c27
        try clear c29
        try clear c29b0
        try clear c30
        try clear c31
        try clear c32
        try clear c34
        try clear c35
        try clear c37
        try clear c38
        try clear c39
        try clear c41
        try clear c42
        try clear c44
        try clear c48
        try clear c49
        try clear c50
        try clear c52
        try clear c53
        try clear c57
        try clear c58
        try clear c59
        try clear c60
        try clear c64
        try clear c65
        try clear c66
        try clear c67
        try clear c68
        try clear c71
        try clear c73
        try clear c74
        try clear c75
        try clear c76
        try clear c77
        try clear c80
        try clear c81
        try clear c82
        try clear c83
        try clear c86
        try clear c87
        try clear c88
        try clear c89
        try clear c90
        try clear hcz14_0
        try clear hcz14_1
        try clear hcz14_2
        try clear hcz14_3
        try clear hcz15_0
        try clear hcz15_1
        try clear hcz15_2
        try clear hcz15_3
        try clear hcz20_0
        try clear hcz20_1
        try clear hcz20_2
        try clear hcz20_3
        try clear hcz21_0
        try clear hcz21_1
        try clear hcz21_2
        try clear hcz21_3
        try clear hcz22_0
        try clear hcz22_1
        try clear hcz22_2
        try clear hcz22_3
        try clear hcz28_0
        try clear hcz28_1
        try clear hcz28_2
        try clear hcz28_3
        try clear hcz33_0
        try clear hcz33_1
        try clear hcz33_2
        try clear hcz33_3
        try clear hcz36_0
        try clear hcz36_1
        try clear hcz36_2
        try clear hcz36_3
        try clear hcz40_0
        try clear hcz40_1
        try clear hcz40_2
        try clear hcz40_3
        try clear hcz43_0
        try clear hcz43_1
        try clear hcz43_2
        try clear hcz43_3
        try clear hcz51_0
        try clear hcz51_1
        try clear hcz51_2
        try clear hcz51_3
        try clear hcz54_0
        try clear hcz54_1
        try clear hcz54_2
        try clear hcz54_3
        try clear hcz61_0
        try clear hcz61_1
        try clear hcz61_2
        try clear hcz61_3
        try clear hcz69_0
        try clear hcz69_1
        try clear hcz69_2
        try clear hcz69_3
        try clear hcz78_0
        try clear hcz78_1
        try clear hcz78_2
        try clear hcz78_3
        try clear hcz84_0
        try clear hcz84_1
        try clear hcz84_2
        try clear hcz84_3
        try clear hcz91_0
        try clear hcz91_1
        try clear hcz91_2
        try clear hcz91_3
        try clear hfz14_0
        try clear hfz14_1
        try clear hfz14_2
        try clear hfz14_3
        try clear hfz15_0
        try clear hfz15_1
        try clear hfz15_2
        try clear hfz15_3
        try clear hfz20_0
        try clear hfz20_1
        try clear hfz20_2
        try clear hfz20_3
        try clear hfz21_0
        try clear hfz21_1
        try clear hfz21_2
        try clear hfz21_3
        try clear hfz22_0
        try clear hfz22_1
        try clear hfz22_2
        try clear hfz22_3
        try clear hfz28_0
        try clear hfz28_1
        try clear hfz28_2
        try clear hfz28_3
        try clear hfz33_0
        try clear hfz33_1
        try clear hfz33_2
        try clear hfz33_3
        try clear hfz36_0
        try clear hfz36_1
        try clear hfz36_2
        try clear hfz36_3
        try clear hfz40_0
        try clear hfz40_1
        try clear hfz40_2
        try clear hfz40_3
        try clear hfz43_0
        try clear hfz43_1
        try clear hfz43_2
        try clear hfz43_3
        try clear hfz51_0
        try clear hfz51_1
        try clear hfz51_2
        try clear hfz51_3
        try clear hfz54_0
        try clear hfz54_1
        try clear hfz54_2
        try clear hfz54_3
        try clear hfz61_0
        try clear hfz61_1
        try clear hfz61_2
        try clear hfz61_3
        try clear hfz69_0
        try clear hfz69_1
        try clear hfz69_2
        try clear hfz69_3
        try clear hfz78_0
        try clear hfz78_1
        try clear hfz78_2
        try clear hfz78_3
        try clear hfz84_0
        try clear hfz84_1
        try clear hfz84_2
        try clear hfz84_3
        try clear hfz91_0
        try clear hfz91_1
        try clear hfz91_2
        try clear hfz91_3
        try clear p2
        obtain ⟨kq, x15_46, rfl, HA, HJ46, BK389, BK390, BK396, BK402, BK408, BK414, HB⟩ := hcut
        cases kq with
        | zero => exact absurd HA.out (by simp [laws_FnMeet.j2])
        | succ kj46 =>
         have H := HA.out
         clear HA
         simp only [laws_FnMeet.j2] at H
         replace H := Option.bind_eq_some_iff.mp H
         obtain ⟨t417, A930, H⟩ := H
         try dsimp only at H
         have A93 := Aside0.mk A930
         clear A930
         replace H := Option.bind_eq_some_iff.mp H
         obtain ⟨t418, A940, H⟩ := H
         try dsimp only at H
         have A94 := Aside0.mk A940
         clear A940
         by_cases c95 : t418 = true
         ·subst c95
          rw [if_pos rfl] at H
          replace H := Option.bind_eq_some_iff.mp H
          obtain ⟨t419, A960, H⟩ := H
          try dsimp only at H
          have A96 := Aside0.mk A960
          clear A960
          by_cases c97 : (t407 == t395) = true
          ·rw [if_pos c97] at H
           have c97b0 : (t407 == t395) = true := c97
           (try (have c97b1 : decide (t407 = t395) = true := by simpa using c97))
           (try (have c97b2 : (t407 == t395) = true := by simpa using c97))
           clear c97
           by_cases c98 : (t403 == t391 && (t404 == t392 && (t405 == t393 && (t406 == t394)))) = true
           ·rw [if_pos c98] at H
            have c98b0 : (t403 == t391 && (t404 == t392 && (t405 == t393 && (t406 == t394)))) = true := c98
            (try (have c98b1 : decide (t403 = t391 && (t404 == t392 && (t405 == t393 && (t406 == t394)))) = true := by simpa using c98))
            (try (have c98b2 : (t403 == t391 && (t404 == t392 && (t405 == t393 && (t406 == t394)))) = true := by simpa using c98))
            clear c98
            by_cases c99 : t395 = true
            ·subst c99
             rw [if_pos rfl] at H
             replace H := Option.bind_eq_some_iff.mp H
             obtain ⟨t420, A1000, H⟩ := H
             try dsimp only at H
             have A100 := Aside0.mk A1000
             clear A1000
             by_cases c101 : (t420 == x15_46) = true
             ·rw [if_pos c101] at H
              have c101b0 : (t420 == x15_46) = true := c101
              (try (have c101b1 : decide (t420 = x15_46) = true := by simpa using c101))
              (try (have c101b2 : (t420 == x15_46) = true := by simpa using c101))
              clear c101
              replace H := Option.bind_eq_some_iff.mp H
              obtain ⟨t421, A1020, H⟩ := H
              try dsimp only at H
              have A102 := Aside0.mk A1020
              clear A1020
              obtain rfl := Option.some.inj H
              have hnb103 := NB389_390.out
              have hnc103 := NB390_389.out
              have hnb104 := NB389_396.out
              have hnc104 := NB396_389.out
              have hnb105 := NB389_402.out
              have hnc105 := NB402_389.out
              have hnb106 := NB389_408.out
              have hnc106 := NB408_389.out
              have hnb107 := NB389_414.out
              have hnc107 := NB414_389.out
              obtain ⟨hcz108_0, hcz108_1, hcz108_2, hcz108_3, hfz108_0, hfz108_1, hfz108_2, hfz108_3⟩ := zc4 BK389
              go_wp2_with (first | ((with_reducible refine gate_callee (f := 19) rfl ?_); refine goesL_ (some 71) rfl rfl Try.func19 (by kernel_rfl) rfl #[.agg #[.int .i64 t381, .int .i64 t382, .int .i64 t383, .int .i64 t384]] rfl (by (try simp only [List.map_toArray, List.map_cons, List.map_nil]); first | done | rfl | (simp only [List.length_drop, List.length_take]; rfl)) ?_; (with_reducible refine (impl_RangeLeast.calls kj46 t381 t382 t383 t384 t417 _ A93.out).mono ?_); rintro e w109 ⟨rfl, hb⟩; refine ⟨_, rfl, ?_⟩; have n0_ := zb BK389 hb rfl; have n1_ := zb BK390 hb rfl; have n2_ := zb BK396 hb rfl; have n3_ := zb BK402 hb rfl; have n4_ := zb BK408 hb rfl; have n5_ := zb BK414 hb rfl; have n6_ := Aside0.mk (below_step (by repeat first | (with_reducible first | exact HB.out | apply vA | apply vN | apply vD | refine vS ?_ GE389.out | refine vS ?_ GE390.out | refine vS ?_ GE396.out | refine vS ?_ GE402.out | refine vS ?_ GE408.out | refine vS ?_ GE414.out) | exact HB.out) hb); clear BK389; clear BK390; clear BK396; clear BK402; clear BK408; clear BK414; clear HB; have BK389 := n0_; have BK390 := n1_; have BK396 := n2_; have BK402 := n3_; have BK408 := n4_; have BK414 := n5_; have HB := n6_; clear n0_ n1_ n2_ n3_ n4_ n5_ n6_; (try clear hb); (try clear hb2); (try clear hk); (try clear hi); obtain ⟨hcz110_0, hcz110_1, hcz110_2, hcz110_3, hfz110_0, hfz110_1, hfz110_2, hfz110_3⟩ := zc4 BK389) | ((with_reducible refine gate_callee (f := 18) rfl ?_); refine goesL_ (some 74) rfl rfl Try.func18 (by kernel_rfl) rfl #[.agg #[.int .i64 t381, .int .i64 t382, .int .i64 t383, .int .i64 t384], .int .i64 t417] rfl (by (try simp only [List.map_toArray, List.map_cons, List.map_nil]); first | done | rfl | (simp only [List.length_drop, List.length_take]; rfl)) ?_; (with_reducible refine (impl_RangeHas.calls t381 t382 t383 t384 t417 true _ A94.out).mono ?_); rintro e w111 ⟨rfl, hb⟩; refine ⟨_, rfl, ?_⟩; have n0_ := zb BK389 hb rfl; have n1_ := zb BK390 hb rfl; have n2_ := zb BK396 hb rfl; have n3_ := zb BK402 hb rfl; have n4_ := zb BK408 hb rfl; have n5_ := zb BK414 hb rfl; have n6_ := Aside0.mk (below_step (by repeat first | (with_reducible first | exact HB.out | apply vA | apply vN | apply vD | refine vS ?_ GE389.out | refine vS ?_ GE390.out | refine vS ?_ GE396.out | refine vS ?_ GE402.out | refine vS ?_ GE408.out | refine vS ?_ GE414.out) | exact HB.out) hb); clear BK389; clear BK390; clear BK396; clear BK402; clear BK408; clear BK414; clear HB; have BK389 := n0_; have BK390 := n1_; have BK396 := n2_; have BK402 := n3_; have BK408 := n4_; have BK414 := n5_; have HB := n6_; clear n0_ n1_ n2_ n3_ n4_ n5_ n6_; (try clear hb); (try clear hb2); (try clear hk); (try clear hi); have hnb112 := NB390_396.out; have hnc112 := NB396_390.out; have hnb113 := NB390_402.out; have hnc113 := NB402_390.out; have hnb114 := NB390_408.out; have hnc114 := NB408_390.out; have hnb115 := NB390_414.out; have hnc115 := NB414_390.out; obtain ⟨hcz116_0, hcz116_1, hcz116_2, hcz116_3, hfz116_0, hfz116_1, hfz116_2, hfz116_3⟩ := zc4 BK390) | (go_at_call 18; (with_reducible refine (impl_RangeHas.calls t385 t386 t387 t388 t417 t419 _ A96.out).mono ?_); rintro e w117 ⟨rfl, hb⟩; have n0_ := zb BK389 hb rfl; have n1_ := zb BK390 hb rfl; have n2_ := zb BK396 hb rfl; have n3_ := zb BK402 hb rfl; have n4_ := zb BK408 hb rfl; have n5_ := zb BK414 hb rfl; have n6_ := Aside0.mk (below_step (by repeat first | (with_reducible first | exact HB.out | apply vA | apply vN | apply vD | refine vS ?_ GE389.out | refine vS ?_ GE390.out | refine vS ?_ GE396.out | refine vS ?_ GE402.out | refine vS ?_ GE408.out | refine vS ?_ GE414.out) | exact HB.out) hb); clear BK389; clear BK390; clear BK396; clear BK402; clear BK408; clear BK414; clear HB; have BK389 := n0_; have BK390 := n1_; have BK396 := n2_; have BK402 := n3_; have BK408 := n4_; have BK414 := n5_; have HB := n6_; clear n0_ n1_ n2_ n3_ n4_ n5_ n6_; (try clear hb); (try clear hb2); (try clear hk); (try clear hi); have hnb118 := NB408_396.out; have hnc118 := NB396_408.out; have hnb119 := NB408_402.out; have hnc119 := NB402_408.out; have hnb120 := NB408_414.out; have hnc120 := NB414_408.out; obtain ⟨hcz121_0, hcz121_1, hcz121_2, hcz121_3, hfz121_0, hfz121_1, hfz121_2, hfz121_3⟩ := zc4 BK408; have hnb122 := NB396_402.out; have hnc122 := NB402_396.out; have hnb123 := NB396_414.out; have hnc123 := NB414_396.out; obtain ⟨hcz124_0, hcz124_1, hcz124_2, hcz124_3, hfz124_0, hfz124_1, hfz124_2, hfz124_3⟩ := zc4 BK396) | (go_at_call 18; (with_reducible refine (impl_RangeHas.calls t391 t392 t393 t394 t413 t420 _ A100.out).mono ?_); rintro e w125 ⟨rfl, hb⟩; have n0_ := zb BK389 hb rfl; have n1_ := zb BK390 hb rfl; have n2_ := zb BK396 hb rfl; have n3_ := zb BK402 hb rfl; have n4_ := zb BK408 hb rfl; have n5_ := zb BK414 hb rfl; have n6_ := Aside0.mk (below_step (by repeat first | (with_reducible first | exact HB.out | apply vA | apply vN | apply vD | refine vS ?_ GE389.out | refine vS ?_ GE390.out | refine vS ?_ GE396.out | refine vS ?_ GE402.out | refine vS ?_ GE408.out | refine vS ?_ GE414.out) | exact HB.out) hb); clear BK389; clear BK390; clear BK396; clear BK402; clear BK408; clear BK414; clear HB; have BK389 := n0_; have BK390 := n1_; have BK396 := n2_; have BK402 := n3_; have BK408 := n4_; have BK414 := n5_; have HB := n6_; clear n0_ n1_ n2_ n3_ n4_ n5_ n6_; (try clear hb); (try clear hb2); (try clear hk); (try clear hi); obtain ⟨hcz126_0, hcz126_1, hcz126_2, hcz126_3, hfz126_0, hfz126_1, hfz126_2, hfz126_3⟩ := zc4 BK396) | (go_at_call 18; (with_reducible refine (impl_RangeHas.calls t391 t392 t393 t394 t417 t421 _ A102.out).mono ?_); rintro e w127 ⟨rfl, hb⟩; have n0_ := zb BK389 hb rfl; have n1_ := zb BK390 hb rfl; have n2_ := zb BK396 hb rfl; have n3_ := zb BK402 hb rfl; have n4_ := zb BK408 hb rfl; have n5_ := zb BK414 hb rfl; have n6_ := Aside0.mk (below_step (by repeat first | (with_reducible first | exact HB.out | apply vA | apply vN | apply vD | refine vS ?_ GE389.out | refine vS ?_ GE390.out | refine vS ?_ GE396.out | refine vS ?_ GE402.out | refine vS ?_ GE408.out | refine vS ?_ GE414.out) | exact HB.out) hb); clear BK389; clear BK390; clear BK396; clear BK402; clear BK408; clear BK414; clear HB; have BK389 := n0_; have BK390 := n1_; have BK396 := n2_; have BK402 := n3_; have BK408 := n4_; have BK414 := n5_; have HB := n6_; clear n0_ n1_ n2_ n3_ n4_ n5_ n6_; (try clear hb); (try clear hb2); (try clear hk); (try clear hi)))
              go_ret
              exact ⟨by first | rfl | (simp [errW_none, errW_some] <;> rfl) | (simp [*, errW_none, errW_some] <;> rfl), by repeat first | (with_reducible first | exact HB.out | apply vA | apply vN | apply vD | refine vS ?_ GE389.out | refine vS ?_ GE390.out | refine vS ?_ GE396.out | refine vS ?_ GE402.out | refine vS ?_ GE408.out | refine vS ?_ GE414.out) | exact HB.out⟩
             ·rw [if_neg c101] at H
              exact absurd H (by simp)
            ·replace c99 := Bool.eq_false_iff.mpr c99
             subst c99
             rw [if_neg (show ¬ (false = true) by decide)] at H
             by_cases c128 : (false == x15_46) = true
             ·rw [if_pos c128] at H
              have c128b0 : (false == x15_46) = true := c128
              (try (have c128b1 : decide (false = x15_46) = true := by simpa using c128))
              (try (have c128b2 : (false == x15_46) = true := by simpa using c128))
              clear c128
              obtain rfl := Option.some.inj H
              have hnb129 := NB389_390.out
              have hnc129 := NB390_389.out
              have hnb130 := NB389_396.out
              have hnc130 := NB396_389.out
              have hnb131 := NB389_402.out
              have hnc131 := NB402_389.out
              have hnb132 := NB389_408.out
              have hnc132 := NB408_389.out
              have hnb133 := NB389_414.out
              have hnc133 := NB414_389.out
              obtain ⟨hcz134_0, hcz134_1, hcz134_2, hcz134_3, hfz134_0, hfz134_1, hfz134_2, hfz134_3⟩ := zc4 BK389
              go_wp2_with (first | ((with_reducible refine gate_callee (f := 19) rfl ?_); refine goesL_ (some 71) rfl rfl Try.func19 (by kernel_rfl) rfl #[.agg #[.int .i64 t381, .int .i64 t382, .int .i64 t383, .int .i64 t384]] rfl (by (try simp only [List.map_toArray, List.map_cons, List.map_nil]); first | done | rfl | (simp only [List.length_drop, List.length_take]; rfl)) ?_; (with_reducible refine (impl_RangeLeast.calls kj46 t381 t382 t383 t384 t417 _ A93.out).mono ?_); rintro e w135 ⟨rfl, hb⟩; refine ⟨_, rfl, ?_⟩; have n0_ := zb BK389 hb rfl; have n1_ := zb BK390 hb rfl; have n2_ := zb BK396 hb rfl; have n3_ := zb BK402 hb rfl; have n4_ := zb BK408 hb rfl; have n5_ := zb BK414 hb rfl; have n6_ := Aside0.mk (below_step (by repeat first | (with_reducible first | exact HB.out | apply vA | apply vN | apply vD | refine vS ?_ GE389.out | refine vS ?_ GE390.out | refine vS ?_ GE396.out | refine vS ?_ GE402.out | refine vS ?_ GE408.out | refine vS ?_ GE414.out) | exact HB.out) hb); clear BK389; clear BK390; clear BK396; clear BK402; clear BK408; clear BK414; clear HB; have BK389 := n0_; have BK390 := n1_; have BK396 := n2_; have BK402 := n3_; have BK408 := n4_; have BK414 := n5_; have HB := n6_; clear n0_ n1_ n2_ n3_ n4_ n5_ n6_; (try clear hb); (try clear hb2); (try clear hk); (try clear hi); obtain ⟨hcz136_0, hcz136_1, hcz136_2, hcz136_3, hfz136_0, hfz136_1, hfz136_2, hfz136_3⟩ := zc4 BK389) | ((with_reducible refine gate_callee (f := 18) rfl ?_); refine goesL_ (some 74) rfl rfl Try.func18 (by kernel_rfl) rfl #[.agg #[.int .i64 t381, .int .i64 t382, .int .i64 t383, .int .i64 t384], .int .i64 t417] rfl (by (try simp only [List.map_toArray, List.map_cons, List.map_nil]); first | done | rfl | (simp only [List.length_drop, List.length_take]; rfl)) ?_; (with_reducible refine (impl_RangeHas.calls t381 t382 t383 t384 t417 true _ A94.out).mono ?_); rintro e w137 ⟨rfl, hb⟩; refine ⟨_, rfl, ?_⟩; have n0_ := zb BK389 hb rfl; have n1_ := zb BK390 hb rfl; have n2_ := zb BK396 hb rfl; have n3_ := zb BK402 hb rfl; have n4_ := zb BK408 hb rfl; have n5_ := zb BK414 hb rfl; have n6_ := Aside0.mk (below_step (by repeat first | (with_reducible first | exact HB.out | apply vA | apply vN | apply vD | refine vS ?_ GE389.out | refine vS ?_ GE390.out | refine vS ?_ GE396.out | refine vS ?_ GE402.out | refine vS ?_ GE408.out | refine vS ?_ GE414.out) | exact HB.out) hb); clear BK389; clear BK390; clear BK396; clear BK402; clear BK408; clear BK414; clear HB; have BK389 := n0_; have BK390 := n1_; have BK396 := n2_; have BK402 := n3_; have BK408 := n4_; have BK414 := n5_; have HB := n6_; clear n0_ n1_ n2_ n3_ n4_ n5_ n6_; (try clear hb); (try clear hb2); (try clear hk); (try clear hi); have hnb138 := NB390_396.out; have hnc138 := NB396_390.out; have hnb139 := NB390_402.out; have hnc139 := NB402_390.out; have hnb140 := NB390_408.out; have hnc140 := NB408_390.out; have hnb141 := NB390_414.out; have hnc141 := NB414_390.out; obtain ⟨hcz142_0, hcz142_1, hcz142_2, hcz142_3, hfz142_0, hfz142_1, hfz142_2, hfz142_3⟩ := zc4 BK390) | (go_at_call 18; (with_reducible refine (impl_RangeHas.calls t385 t386 t387 t388 t417 t419 _ A96.out).mono ?_); rintro e w143 ⟨rfl, hb⟩; have n0_ := zb BK389 hb rfl; have n1_ := zb BK390 hb rfl; have n2_ := zb BK396 hb rfl; have n3_ := zb BK402 hb rfl; have n4_ := zb BK408 hb rfl; have n5_ := zb BK414 hb rfl; have n6_ := Aside0.mk (below_step (by repeat first | (with_reducible first | exact HB.out | apply vA | apply vN | apply vD | refine vS ?_ GE389.out | refine vS ?_ GE390.out | refine vS ?_ GE396.out | refine vS ?_ GE402.out | refine vS ?_ GE408.out | refine vS ?_ GE414.out) | exact HB.out) hb); clear BK389; clear BK390; clear BK396; clear BK402; clear BK408; clear BK414; clear HB; have BK389 := n0_; have BK390 := n1_; have BK396 := n2_; have BK402 := n3_; have BK408 := n4_; have BK414 := n5_; have HB := n6_; clear n0_ n1_ n2_ n3_ n4_ n5_ n6_; (try clear hb); (try clear hb2); (try clear hk); (try clear hi); have hnb144 := NB408_396.out; have hnc144 := NB396_408.out; have hnb145 := NB408_402.out; have hnc145 := NB402_408.out; have hnb146 := NB408_414.out; have hnc146 := NB414_408.out; obtain ⟨hcz147_0, hcz147_1, hcz147_2, hcz147_3, hfz147_0, hfz147_1, hfz147_2, hfz147_3⟩ := zc4 BK408; have hnb148 := NB396_402.out; have hnc148 := NB402_396.out; have hnb149 := NB396_414.out; have hnc149 := NB414_396.out; obtain ⟨hcz150_0, hcz150_1, hcz150_2, hcz150_3, hfz150_0, hfz150_1, hfz150_2, hfz150_3⟩ := zc4 BK396))
              go_ret
              exact ⟨by first | rfl | (simp [errW_none, errW_some] <;> rfl) | (simp [*, errW_none, errW_some] <;> rfl), by repeat first | (with_reducible first | exact HB.out | apply vA | apply vN | apply vD | refine vS ?_ GE389.out | refine vS ?_ GE390.out | refine vS ?_ GE396.out | refine vS ?_ GE402.out | refine vS ?_ GE408.out | refine vS ?_ GE414.out) | exact HB.out⟩
             ·rw [if_neg c128] at H
              exact absurd H (by simp)
           ·rw [if_neg c98] at H
            exact absurd H (by simp)
          ·rw [if_neg c97] at H
           exact absurd H (by simp)
         ·replace c95 := Bool.eq_false_iff.mpr c95
          subst c95
          rw [if_neg (show ¬ (false = true) by decide)] at H
          by_cases c151 : (t407 == t395) = true
          ·rw [if_pos c151] at H
           have c151b0 : (t407 == t395) = true := c151
           (try (have c151b1 : decide (t407 = t395) = true := by simpa using c151))
           (try (have c151b2 : (t407 == t395) = true := by simpa using c151))
           clear c151
           by_cases c152 : (t403 == t391 && (t404 == t392 && (t405 == t393 && (t406 == t394)))) = true
           ·rw [if_pos c152] at H
            have c152b0 : (t403 == t391 && (t404 == t392 && (t405 == t393 && (t406 == t394)))) = true := c152
            (try (have c152b1 : decide (t403 = t391 && (t404 == t392 && (t405 == t393 && (t406 == t394)))) = true := by simpa using c152))
            (try (have c152b2 : (t403 == t391 && (t404 == t392 && (t405 == t393 && (t406 == t394)))) = true := by simpa using c152))
            clear c152
            by_cases c153 : t395 = true
            ·subst c153
             rw [if_pos rfl] at H
             replace H := Option.bind_eq_some_iff.mp H
             obtain ⟨t422, A1540, H⟩ := H
             try dsimp only at H
             have A154 := Aside0.mk A1540
             clear A1540
             by_cases c155 : (t422 == x15_46) = true
             ·rw [if_pos c155] at H
              have c155b0 : (t422 == x15_46) = true := c155
              (try (have c155b1 : decide (t422 = x15_46) = true := by simpa using c155))
              (try (have c155b2 : (t422 == x15_46) = true := by simpa using c155))
              clear c155
              replace H := Option.bind_eq_some_iff.mp H
              obtain ⟨t423, A1560, H⟩ := H
              try dsimp only at H
              have A156 := Aside0.mk A1560
              clear A1560
              obtain rfl := Option.some.inj H
              have hnb157 := NB389_390.out
              have hnc157 := NB390_389.out
              have hnb158 := NB389_396.out
              have hnc158 := NB396_389.out
              have hnb159 := NB389_402.out
              have hnc159 := NB402_389.out
              have hnb160 := NB389_408.out
              have hnc160 := NB408_389.out
              have hnb161 := NB389_414.out
              have hnc161 := NB414_389.out
              obtain ⟨hcz162_0, hcz162_1, hcz162_2, hcz162_3, hfz162_0, hfz162_1, hfz162_2, hfz162_3⟩ := zc4 BK389
              go_wp2_with (first | ((with_reducible refine gate_callee (f := 19) rfl ?_); refine goesL_ (some 71) rfl rfl Try.func19 (by kernel_rfl) rfl #[.agg #[.int .i64 t381, .int .i64 t382, .int .i64 t383, .int .i64 t384]] rfl (by (try simp only [List.map_toArray, List.map_cons, List.map_nil]); first | done | rfl | (simp only [List.length_drop, List.length_take]; rfl)) ?_; (with_reducible refine (impl_RangeLeast.calls kj46 t381 t382 t383 t384 t417 _ A93.out).mono ?_); rintro e w163 ⟨rfl, hb⟩; refine ⟨_, rfl, ?_⟩; have n0_ := zb BK389 hb rfl; have n1_ := zb BK390 hb rfl; have n2_ := zb BK396 hb rfl; have n3_ := zb BK402 hb rfl; have n4_ := zb BK408 hb rfl; have n5_ := zb BK414 hb rfl; have n6_ := Aside0.mk (below_step (by repeat first | (with_reducible first | exact HB.out | apply vA | apply vN | apply vD | refine vS ?_ GE389.out | refine vS ?_ GE390.out | refine vS ?_ GE396.out | refine vS ?_ GE402.out | refine vS ?_ GE408.out | refine vS ?_ GE414.out) | exact HB.out) hb); clear BK389; clear BK390; clear BK396; clear BK402; clear BK408; clear BK414; clear HB; have BK389 := n0_; have BK390 := n1_; have BK396 := n2_; have BK402 := n3_; have BK408 := n4_; have BK414 := n5_; have HB := n6_; clear n0_ n1_ n2_ n3_ n4_ n5_ n6_; (try clear hb); (try clear hb2); (try clear hk); (try clear hi); obtain ⟨hcz164_0, hcz164_1, hcz164_2, hcz164_3, hfz164_0, hfz164_1, hfz164_2, hfz164_3⟩ := zc4 BK389) | ((with_reducible refine gate_callee (f := 18) rfl ?_); refine goesL_ (some 74) rfl rfl Try.func18 (by kernel_rfl) rfl #[.agg #[.int .i64 t381, .int .i64 t382, .int .i64 t383, .int .i64 t384], .int .i64 t417] rfl (by (try simp only [List.map_toArray, List.map_cons, List.map_nil]); first | done | rfl | (simp only [List.length_drop, List.length_take]; rfl)) ?_; (with_reducible refine (impl_RangeHas.calls t381 t382 t383 t384 t417 false _ A94.out).mono ?_); rintro e w165 ⟨rfl, hb⟩; refine ⟨_, rfl, ?_⟩; have n0_ := zb BK389 hb rfl; have n1_ := zb BK390 hb rfl; have n2_ := zb BK396 hb rfl; have n3_ := zb BK402 hb rfl; have n4_ := zb BK408 hb rfl; have n5_ := zb BK414 hb rfl; have n6_ := Aside0.mk (below_step (by repeat first | (with_reducible first | exact HB.out | apply vA | apply vN | apply vD | refine vS ?_ GE389.out | refine vS ?_ GE390.out | refine vS ?_ GE396.out | refine vS ?_ GE402.out | refine vS ?_ GE408.out | refine vS ?_ GE414.out) | exact HB.out) hb); clear BK389; clear BK390; clear BK396; clear BK402; clear BK408; clear BK414; clear HB; have BK389 := n0_; have BK390 := n1_; have BK396 := n2_; have BK402 := n3_; have BK408 := n4_; have BK414 := n5_; have HB := n6_; clear n0_ n1_ n2_ n3_ n4_ n5_ n6_; (try clear hb); (try clear hb2); (try clear hk); (try clear hi); have hnb166 := NB408_390.out; have hnc166 := NB390_408.out; have hnb167 := NB408_396.out; have hnc167 := NB396_408.out; have hnb168 := NB408_402.out; have hnc168 := NB402_408.out; have hnb169 := NB408_414.out; have hnc169 := NB414_408.out; obtain ⟨hcz170_0, hcz170_1, hcz170_2, hcz170_3, hfz170_0, hfz170_1, hfz170_2, hfz170_3⟩ := zc4 BK408; have hnb171 := NB396_390.out; have hnc171 := NB390_396.out; have hnb172 := NB396_402.out; have hnc172 := NB402_396.out; have hnb173 := NB396_414.out; have hnc173 := NB414_396.out; obtain ⟨hcz174_0, hcz174_1, hcz174_2, hcz174_3, hfz174_0, hfz174_1, hfz174_2, hfz174_3⟩ := zc4 BK396) | (go_at_call 18; (with_reducible refine (impl_RangeHas.calls t391 t392 t393 t394 t413 t422 _ A154.out).mono ?_); rintro e w175 ⟨rfl, hb⟩; have n0_ := zb BK389 hb rfl; have n1_ := zb BK390 hb rfl; have n2_ := zb BK396 hb rfl; have n3_ := zb BK402 hb rfl; have n4_ := zb BK408 hb rfl; have n5_ := zb BK414 hb rfl; have n6_ := Aside0.mk (below_step (by repeat first | (with_reducible first | exact HB.out | apply vA | apply vN | apply vD | refine vS ?_ GE389.out | refine vS ?_ GE390.out | refine vS ?_ GE396.out | refine vS ?_ GE402.out | refine vS ?_ GE408.out | refine vS ?_ GE414.out) | exact HB.out) hb); clear BK389; clear BK390; clear BK396; clear BK402; clear BK408; clear BK414; clear HB; have BK389 := n0_; have BK390 := n1_; have BK396 := n2_; have BK402 := n3_; have BK408 := n4_; have BK414 := n5_; have HB := n6_; clear n0_ n1_ n2_ n3_ n4_ n5_ n6_; (try clear hb); (try clear hb2); (try clear hk); (try clear hi); obtain ⟨hcz176_0, hcz176_1, hcz176_2, hcz176_3, hfz176_0, hfz176_1, hfz176_2, hfz176_3⟩ := zc4 BK396) | (go_at_call 18; (with_reducible refine (impl_RangeHas.calls t391 t392 t393 t394 t417 t423 _ A156.out).mono ?_); rintro e w177 ⟨rfl, hb⟩; have n0_ := zb BK389 hb rfl; have n1_ := zb BK390 hb rfl; have n2_ := zb BK396 hb rfl; have n3_ := zb BK402 hb rfl; have n4_ := zb BK408 hb rfl; have n5_ := zb BK414 hb rfl; have n6_ := Aside0.mk (below_step (by repeat first | (with_reducible first | exact HB.out | apply vA | apply vN | apply vD | refine vS ?_ GE389.out | refine vS ?_ GE390.out | refine vS ?_ GE396.out | refine vS ?_ GE402.out | refine vS ?_ GE408.out | refine vS ?_ GE414.out) | exact HB.out) hb); clear BK389; clear BK390; clear BK396; clear BK402; clear BK408; clear BK414; clear HB; have BK389 := n0_; have BK390 := n1_; have BK396 := n2_; have BK402 := n3_; have BK408 := n4_; have BK414 := n5_; have HB := n6_; clear n0_ n1_ n2_ n3_ n4_ n5_ n6_; (try clear hb); (try clear hb2); (try clear hk); (try clear hi)))
              go_ret
              exact ⟨by first | rfl | (simp [errW_none, errW_some] <;> rfl) | (simp [*, errW_none, errW_some] <;> rfl), by repeat first | (with_reducible first | exact HB.out | apply vA | apply vN | apply vD | refine vS ?_ GE389.out | refine vS ?_ GE390.out | refine vS ?_ GE396.out | refine vS ?_ GE402.out | refine vS ?_ GE408.out | refine vS ?_ GE414.out) | exact HB.out⟩
             ·rw [if_neg c155] at H
              exact absurd H (by simp)
            ·replace c153 := Bool.eq_false_iff.mpr c153
             subst c153
             rw [if_neg (show ¬ (false = true) by decide)] at H
             by_cases c178 : (false == x15_46) = true
             ·rw [if_pos c178] at H
              have c178b0 : (false == x15_46) = true := c178
              (try (have c178b1 : decide (false = x15_46) = true := by simpa using c178))
              (try (have c178b2 : (false == x15_46) = true := by simpa using c178))
              clear c178
              obtain rfl := Option.some.inj H
              have hnb179 := NB389_390.out
              have hnc179 := NB390_389.out
              have hnb180 := NB389_396.out
              have hnc180 := NB396_389.out
              have hnb181 := NB389_402.out
              have hnc181 := NB402_389.out
              have hnb182 := NB389_408.out
              have hnc182 := NB408_389.out
              have hnb183 := NB389_414.out
              have hnc183 := NB414_389.out
              obtain ⟨hcz184_0, hcz184_1, hcz184_2, hcz184_3, hfz184_0, hfz184_1, hfz184_2, hfz184_3⟩ := zc4 BK389
              go_wp2_with (first | ((with_reducible refine gate_callee (f := 19) rfl ?_); refine goesL_ (some 71) rfl rfl Try.func19 (by kernel_rfl) rfl #[.agg #[.int .i64 t381, .int .i64 t382, .int .i64 t383, .int .i64 t384]] rfl (by (try simp only [List.map_toArray, List.map_cons, List.map_nil]); first | done | rfl | (simp only [List.length_drop, List.length_take]; rfl)) ?_; (with_reducible refine (impl_RangeLeast.calls kj46 t381 t382 t383 t384 t417 _ A93.out).mono ?_); rintro e w185 ⟨rfl, hb⟩; refine ⟨_, rfl, ?_⟩; have n0_ := zb BK389 hb rfl; have n1_ := zb BK390 hb rfl; have n2_ := zb BK396 hb rfl; have n3_ := zb BK402 hb rfl; have n4_ := zb BK408 hb rfl; have n5_ := zb BK414 hb rfl; have n6_ := Aside0.mk (below_step (by repeat first | (with_reducible first | exact HB.out | apply vA | apply vN | apply vD | refine vS ?_ GE389.out | refine vS ?_ GE390.out | refine vS ?_ GE396.out | refine vS ?_ GE402.out | refine vS ?_ GE408.out | refine vS ?_ GE414.out) | exact HB.out) hb); clear BK389; clear BK390; clear BK396; clear BK402; clear BK408; clear BK414; clear HB; have BK389 := n0_; have BK390 := n1_; have BK396 := n2_; have BK402 := n3_; have BK408 := n4_; have BK414 := n5_; have HB := n6_; clear n0_ n1_ n2_ n3_ n4_ n5_ n6_; (try clear hb); (try clear hb2); (try clear hk); (try clear hi); obtain ⟨hcz186_0, hcz186_1, hcz186_2, hcz186_3, hfz186_0, hfz186_1, hfz186_2, hfz186_3⟩ := zc4 BK389) | ((with_reducible refine gate_callee (f := 18) rfl ?_); refine goesL_ (some 74) rfl rfl Try.func18 (by kernel_rfl) rfl #[.agg #[.int .i64 t381, .int .i64 t382, .int .i64 t383, .int .i64 t384], .int .i64 t417] rfl (by (try simp only [List.map_toArray, List.map_cons, List.map_nil]); first | done | rfl | (simp only [List.length_drop, List.length_take]; rfl)) ?_; (with_reducible refine (impl_RangeHas.calls t381 t382 t383 t384 t417 false _ A94.out).mono ?_); rintro e w187 ⟨rfl, hb⟩; refine ⟨_, rfl, ?_⟩; have n0_ := zb BK389 hb rfl; have n1_ := zb BK390 hb rfl; have n2_ := zb BK396 hb rfl; have n3_ := zb BK402 hb rfl; have n4_ := zb BK408 hb rfl; have n5_ := zb BK414 hb rfl; have n6_ := Aside0.mk (below_step (by repeat first | (with_reducible first | exact HB.out | apply vA | apply vN | apply vD | refine vS ?_ GE389.out | refine vS ?_ GE390.out | refine vS ?_ GE396.out | refine vS ?_ GE402.out | refine vS ?_ GE408.out | refine vS ?_ GE414.out) | exact HB.out) hb); clear BK389; clear BK390; clear BK396; clear BK402; clear BK408; clear BK414; clear HB; have BK389 := n0_; have BK390 := n1_; have BK396 := n2_; have BK402 := n3_; have BK408 := n4_; have BK414 := n5_; have HB := n6_; clear n0_ n1_ n2_ n3_ n4_ n5_ n6_; (try clear hb); (try clear hb2); (try clear hk); (try clear hi); have hnb188 := NB408_390.out; have hnc188 := NB390_408.out; have hnb189 := NB408_396.out; have hnc189 := NB396_408.out; have hnb190 := NB408_402.out; have hnc190 := NB402_408.out; have hnb191 := NB408_414.out; have hnc191 := NB414_408.out; obtain ⟨hcz192_0, hcz192_1, hcz192_2, hcz192_3, hfz192_0, hfz192_1, hfz192_2, hfz192_3⟩ := zc4 BK408; have hnb193 := NB396_390.out; have hnc193 := NB390_396.out; have hnb194 := NB396_402.out; have hnc194 := NB402_396.out; have hnb195 := NB396_414.out; have hnc195 := NB414_396.out; obtain ⟨hcz196_0, hcz196_1, hcz196_2, hcz196_3, hfz196_0, hfz196_1, hfz196_2, hfz196_3⟩ := zc4 BK396))
              go_ret
              exact ⟨by first | rfl | (simp [errW_none, errW_some] <;> rfl) | (simp [*, errW_none, errW_some] <;> rfl), by repeat first | (with_reducible first | exact HB.out | apply vA | apply vN | apply vD | refine vS ?_ GE389.out | refine vS ?_ GE390.out | refine vS ?_ GE396.out | refine vS ?_ GE402.out | refine vS ?_ GE408.out | refine vS ?_ GE414.out) | exact HB.out⟩
             ·rw [if_neg c178] at H
              exact absurd H (by simp)
           ·rw [if_neg c152] at H
            exact absurd H (by simp)
          ·rw [if_neg c151] at H
           exact absurd H (by simp)

/-- THE ONE PURE STATEMENT of laws_FnMeet: yours. -/
def laws_FnMeet.Pure : Prop := ∀ (l0 : List Int) (l1 : List Int), l0.length ≤ maxLen → l0.length * 1 ≤ 140737488351232 → (∀ x ∈ l0, (Lit.int .u8 x).wf = true) → l1.length ≤ maxLen → l1.length * 1 ≤ 140737488351232 → (∀ x ∈ l1, (Lit.int .u8 x).wf = true) → ∃ k, laws_FnMeet.f k l0 l1 = some true
theorem laws_FnMeet.walk (P : laws_FnMeet.Pure) (a0 : Option Addr) (len0 cap0 : Nat) (z0 : List Int) (a1 : Option Addr) (len1 cap1 : Nat) (z1 : List Int) (w : World) (w0 : (a0 = none ∧ len0 = 0 ∧ cap0 = 0 ∧ z0 = []) ∨ ∃ x, a0 = some x ∧ len0 ≤ cap0 ∧ cap0 ≤ maxLen ∧ z0.length = cap0 ∧ (∀ i, i < z0.length → w.cell? (x.add i) = some (.int .u8 (z0.getD i 0))) ∧ ∀ n ∈ z0, (Lit.int .u8 n).wf = true) (y0 : len0 * 1 ≤ 140737488351232) (w1 : (a1 = none ∧ len1 = 0 ∧ cap1 = 0 ∧ z1 = []) ∨ ∃ x, a1 = some x ∧ len1 ≤ cap1 ∧ cap1 ≤ maxLen ∧ z1.length = cap1 ∧ (∀ i, i < z1.length → w.cell? (x.add i) = some (.int .u8 (z1.getD i 0))) ∧ ∀ n ∈ z1, (Lit.int .u8 n).wf = true) (y1 : len1 * 1 ≤ 140737488351232) :
  Calls Try.prog 4 #[.slice a0 len0 cap0, .slice a1 len1 cap1] w fun e w' => e = .returned (.bool true) ∧ Below w.heap.size w w' := by
 obtain ⟨l0, rfl, hr0, hm0, hw0, hc0⟩ := ReadsInt.ofRowC w0
 obtain ⟨l1, rfl, hr1, hm1, hw1, hc1⟩ := ReadsInt.ofRowC w1
 obtain ⟨k, h⟩ := P l0 l1 hm0 y0 hw0 hm1 y1 hw1
 refine (laws_FnMeet.calls k _ _ l0 _ _ l1 true w (Kd.C_of_reads (d := (0 : Int)) (h1 := fun _ => rfl) hr0) hc0 (Kd.C_of_reads (d := (0 : Int)) (h1 := fun _ => rfl) hr1) hc1 h).mono ?_
 rintro e w' ⟨rfl, hd⟩
 exact ⟨rfl, hd⟩

end Go.Proofs.Ytcobkligpdaanaa.Q
