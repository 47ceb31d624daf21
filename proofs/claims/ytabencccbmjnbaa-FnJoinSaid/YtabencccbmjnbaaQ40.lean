/- The machine's side of this seat's laws: Go functions as Lean functions, and their contracts. By a program of this work over the kit's print. -/
import Derived.Test.YtabencccbmjnbaaQ0
import Derived.Test.YtabencccbmjnbaaQ2
import Derived.Test.YtabencccbmjnbaaQ3
import Derived.Test.YtabencccbmjnbaaQ9
import Derived.Test.YtabencccbmjnbaaQ10
import Derived.Test.YtabencccbmjnbaaQ15
import Derived.Test.YtabencccbmjnbaaQ16
import Derived.Test.YtabencccbmjnbaaQ33
namespace Go.Proofs.Ytabencccbmjnbaa.Q
open Go.RowKit Go.Proofs.YtabencccbmjnbaaW.PrintWords Go.Proofs.YtabencccbmjnbaaW.PrintLast Go.Proofs.YtabencccbmjnbaaW.PrintMore
attribute [local go_sem] max2_int min2_int max_two min_two max_three min_three max_four min_four Go.Proofs.YtabencccbmjnbaaN.not_i64   -- for this text's walks alone
set_option linter.unusedVariables false
set_option linter.unusedSimpArgs false

/-! ### spec_DrawRangeJoin: function 44 -/
def spec_DrawRangeJoin.f (k : Nat) (l0 : List Int) : Option (Int × Int × Int × Int × Int × Int × Int × Int) := (spec_l20Open.f l0).bind fun bt952 => ((spec_l20Two.f k bt952.1 bt952.2).bind fun bt955 => (some (bt955.1, bt955.2.1, bt955.2.2.1, bt955.2.2.2.1, bt955.2.2.2.2.1, bt955.2.2.2.2.2.1, bt955.2.2.2.2.2.2.1, bt955.2.2.2.2.2.2.2.1)))

set_option maxHeartbeats 8000000 in
set_option maxRecDepth 100000 in
theorem spec_DrawRangeJoin.calls (k : Nat) (A0 : Option Addr) (c0 : Nat) (l0 : List Int) (r1 : Int) (r2 : Int) (r3 : Int) (r4 : Int) (r5 : Int) (r6 : Int) (r7 : Int) (r8 : Int) (w : World) (hr0 : Kd.C (Kd.int .u8) w A0 l0.length l0) (hc0 : l0.length ≤ c0) (h : spec_DrawRangeJoin.f k l0 = some (r1, r2, r3, r4, r5, r6, r7, r8)) :
  Calls Try.prog 44 #[.slice A0 l0.length c0] w fun e w' => e = .returned (.tuple #[.agg #[.int .i64 r1, .int .i64 r2, .int .i64 r3, .int .i64 r4], .agg #[.int .i64 r5, .int .i64 r6, .int .i64 r7, .int .i64 r8]]) ∧ Below w.heap.size w w' := by
 have hu24 := Try.underlying24
 have HR0 := Aside0.mk hr0
 have HC0 := Aside0.mk hc0
 clear hr0 hc0
 have HB := Aside0.mk (Below.refl w.heap.size w)
 have H : ((spec_l20Open.f l0).bind fun bt952 => ((spec_l20Two.f k bt952.1 bt952.2).bind fun bt955 => (some (bt955.1, bt955.2.1, bt955.2.2.1, bt955.2.2.2.1, bt955.2.2.2.2.1, bt955.2.2.2.2.2.1, bt955.2.2.2.2.2.2.1, bt955.2.2.2.2.2.2.2.1)))) = some (r1, r2, r3, r4, r5, r6, r7, r8) := h
 clear h
 replace H := Option.bind_eq_some_iff.mp H
 obtain ⟨⟨t952, t953⟩, A20, H⟩ := H
 try dsimp only at H
 have A2 := Aside0.mk A20
 clear A20
 replace H := Option.bind_eq_some_iff.mp H
 obtain ⟨⟨t955, t956, t957, t958, t959, t960, t961, t962, t963⟩, A30, H⟩ := H
 try dsimp only at H
 have A3 := Aside0.mk A30
 clear A30
 simp only [Option.some.injEq, Prod.mk.injEq] at H
 obtain ⟨rfl, rfl, rfl, rfl, rfl, rfl, rfl, rfl⟩ := H
 go_enter Try.func44, Try.ntmps44
 go_wp2_with (first | ((with_reducible refine gate_dst (N := 2) rfl ?_); refine box_event ?hg (N := 2) ?hd (cs := #[.int .i64 0, .int .i64 0, .int .i64 0, .int .i64 0]) (t := 24) ?hr ?_; (case hd => rfl); (case hg => rfl); (case hr => first | (go_simp; done) | (go_simp; rfl)); intro gb950 hg w4 hbox hb; have n0_ := Aside0.mk (below_step (by repeat first | (with_reducible first | exact HB.out | apply vA | apply vN | apply vD) | exact HB.out) hb); have n1_ := Aside0.mk (hbox); have n2_ := Aside0.mk ((by rw [hg]; exact (below_size (by repeat first | (with_reducible first | exact HB.out | apply vA | apply vN | apply vD) | exact HB.out)) : w.heap.size ≤ gb950)); have n3_ := n2_; clear HB; have HB := n0_; have BK950 := n1_; have GW950 := n2_; have GE950 := n3_; clear n0_ n1_ n2_ n3_; clear hb hbox hg) | ((with_reducible refine gate_dst (N := 3) rfl ?_); refine box_event ?hg (N := 3) ?hd (cs := #[.int .i64 0, .int .i64 0, .int .i64 0, .int .i64 0]) (t := 24) ?hr ?_; (case hd => rfl); (case hg => rfl); (case hr => first | (go_simp; done) | (go_simp; rfl)); intro gb951 hg w5 hbox hb; have n0_ := zb BK950 hb rfl; have n1_ := Aside0.mk (below_step (by repeat first | (with_reducible first | exact HB.out | apply vA | apply vN | apply vD | refine vS ?_ GE950.out) | exact HB.out) hb); have n2_ := Aside0.mk (hbox); have n3_ := Aside0.mk ((by rw [hg]; exact (below_size (by repeat first | (with_reducible first | exact HB.out | apply vA | apply vN | apply vD | refine vS ?_ GE950.out) | exact HB.out)) : w.heap.size ≤ gb951)); have n4_ := n3_; have n5_ := zl BK950 hg rfl; have n6_ := zg BK950 hg rfl; clear BK950; clear HB; have BK950 := n0_; have HB := n1_; have BK951 := n2_; have GW951 := n3_; have GE951 := n4_; have NB950_951 := n5_; have NB951_950 := n6_; clear n0_ n1_ n2_ n3_ n4_ n5_ n6_; clear hb hbox hg) | ((with_reducible refine gate_callee (f := 47) rfl ?_); refine goesL_ (some 5) rfl rfl Try.func47 (by kernel_rfl) rfl #[.slice A0 l0.length c0] rfl (by (try simp only [List.map_toArray, List.map_cons, List.map_nil]); first | done | rfl | (simp only [List.length_drop, List.length_take]; rfl)) ?_; (with_reducible refine (spec_l20Open.calls _ _ l0 t952 t953 w _ ?side1 ?side2 ?side3 A2.out).mono ?_); (case side1 => repeat (first | (with_reducible first | exact HB.out | apply below_alloc | apply pw_below_drewN | apply below_drew1 | refine below_set ?_ GE950.out | refine below_set ?_ GE951.out) | exact HB.out)); (case side2 => exact HR0.out); (case side3 => exact HC0.out); rintro e w6 ⟨g954, rfl, hi, hb, hb2⟩; refine ⟨_, rfl, ?_⟩; have n0_ := Aside0.mk (blk_below (g := gb950) (o := .cells #[.int .i64 0, .int .i64 0, .int .i64 0, .int .i64 0] 24 (0, 0)) (by (with_reducible repeat first | apply bN | apply bD | apply bA); exact BK950.out) hb2); have n1_ := Aside0.mk (blk_below (g := gb951) (o := .cells #[.int .i64 0, .int .i64 0, .int .i64 0, .int .i64 0] 24 (0, 0)) (by (with_reducible repeat first | apply bN | apply bD | apply bA); exact BK951.out) hb2); have n2_ := Aside0.mk (hb); have n3_ := Aside0.mk (hi); have n4_ := Aside0.mk (IsS63.ne_blk hi (blk_below (g := gb950) (o := .cells #[.int .i64 0, .int .i64 0, .int .i64 0, .int .i64 0] 24 (0, 0)) (by (with_reducible repeat first | apply bN | apply bD | apply bA); exact BK950.out) hb2) (by decide)); have n5_ := Aside0.mk (Ne.symm (IsS63.ne_blk hi (blk_below (g := gb950) (o := .cells #[.int .i64 0, .int .i64 0, .int .i64 0, .int .i64 0] 24 (0, 0)) (by (with_reducible repeat first | apply bN | apply bD | apply bA); exact BK950.out) hb2) (by decide))); have n6_ := Aside0.mk (IsS63.ne_blk hi (blk_below (g := gb951) (o := .cells #[.int .i64 0, .int .i64 0, .int .i64 0, .int .i64 0] 24 (0, 0)) (by (with_reducible repeat first | apply bN | apply bD | apply bA); exact BK951.out) hb2) (by decide)); have n7_ := Aside0.mk (Ne.symm (IsS63.ne_blk hi (blk_below (g := gb951) (o := .cells #[.int .i64 0, .int .i64 0, .int .i64 0, .int .i64 0] 24 (0, 0)) (by (with_reducible repeat first | apply bN | apply bD | apply bA); exact BK951.out) hb2) (by decide))); clear BK950; clear BK951; clear HB; have BK950 := n0_; have BK951 := n1_; have HB := n2_; have HI954 := n3_; have NB954_950 := n4_; have NB950_954 := n5_; have NB954_951 := n6_; have NB951_954 := n7_; clear n0_ n1_ n2_ n3_ n4_ n5_ n6_ n7_; (try clear hb); (try clear hb2); (try clear hk); (try clear hi)) | ((with_reducible refine gate_callee (f := 78) rfl ?_); refine goesL_ (some 6) rfl rfl Try.func78 (by kernel_rfl) rfl #[.pointer (some ⟨g954, 0, none⟩)] rfl (by (try simp only [List.map_toArray, List.map_cons, List.map_nil]); first | done | rfl | (simp only [List.length_drop, List.length_take]; rfl)) ?_; (with_reducible refine (spec_l20Two.calls k g954 t952 t953 t955 t956 t957 t958 t959 t960 t961 t962 t963 w _ ?side1 ?side2 A3.out).mono ?_); (case side1 => repeat (first | (with_reducible first | exact HI954.out | apply IsS63.alloc | apply IsS63.drewN | apply IsS63.drew | apply IsS63.set_1 | refine IsS63.far ?_ NB954_950.out _ | refine IsS63.far ?_ NB954_951.out _) | exact HI954.out)); (case side2 => repeat (first | (with_reducible first | exact HB.out | apply below_alloc | apply pw_below_drewN | apply below_drew1 | refine below_set ?_ (IsS63.ge HI954.out) | refine below_set ?_ GE950.out | refine below_set ?_ GE951.out) | exact HB.out)); rintro e w7 ⟨rfl, hi, hb, hk⟩; refine ⟨_, rfl, ?_⟩; have n0_ := Aside0.mk (KeepBut.blk hk (g' := gb950) (o := .cells #[.int .i64 0, .int .i64 0, .int .i64 0, .int .i64 0] 24 (0, 0)) (by (with_reducible repeat first | apply bN | apply bD | apply bA); exact BK950.out) NB950_954.out (by simp)); have n1_ := Aside0.mk (KeepBut.blk hk (g' := gb951) (o := .cells #[.int .i64 0, .int .i64 0, .int .i64 0, .int .i64 0] 24 (0, 0)) (by (with_reducible repeat first | apply bN | apply bD | apply bA); exact BK951.out) NB951_954.out (by simp)); have n2_ := Aside0.mk (hb); have n3_ := Aside0.mk (hi); clear BK950; clear BK951; clear HB; clear HI954; have BK950 := n0_; have BK951 := n1_; have HB := n2_; have HI954 := n3_; clear n0_ n1_ n2_ n3_; (try clear hb); (try clear hb2); (try clear hk); (try clear hi); have hnb8 := NB950_951.out; have hnc8 := NB951_950.out; have hnb9 := NB950_954.out; have hnc9 := NB954_950.out; obtain ⟨hcz10_0, hcz10_1, hcz10_2, hcz10_3, hfz10_0, hfz10_1, hfz10_2, hfz10_3⟩ := zc4 BK950; have hnb11 := NB951_954.out; have hnc11 := NB954_951.out; obtain ⟨hcz12_0, hcz12_1, hcz12_2, hcz12_3, hfz12_0, hfz12_1, hfz12_2, hfz12_3⟩ := zc4 BK951))
 refine bodyPost_ret (results_cc rfl _ _ gb950 gb951 24 24 #[.int .i64 t955, .int .i64 t956, .int .i64 t957, .int .i64 t958] #[.int .i64 t959, .int .i64 t960, .int .i64 t961, .int .i64 t962] (0, 0) (0, 0) _ _ rfl (by (with_reducible repeat first | apply bN | apply bD | apply bA); refine blk_far ?_ NB950_951.out _; (with_reducible repeat first | apply bN | apply bD | apply bA); refine blk_far ?_ NB950_951.out _; (with_reducible repeat first | apply bN | apply bD | apply bA); refine blk_far ?_ NB950_951.out _; (with_reducible repeat first | apply bN | apply bD | apply bA); refine blk_far ?_ NB950_951.out _; (with_reducible repeat first | apply bN | apply bD | apply bA); refine blk_put (cs := #[.int .i64 t955, .int .i64 t956, .int .i64 t957, .int .i64 0]) ?_ 3 _ rfl; (with_reducible repeat first | apply bN | apply bD | apply bA); refine blk_put (cs := #[.int .i64 t955, .int .i64 t956, .int .i64 0, .int .i64 0]) ?_ 2 _ rfl; (with_reducible repeat first | apply bN | apply bD | apply bA); refine blk_put (cs := #[.int .i64 t955, .int .i64 0, .int .i64 0, .int .i64 0]) ?_ 1 _ rfl; (with_reducible repeat first | apply bN | apply bD | apply bA); refine blk_put (cs := #[.int .i64 0, .int .i64 0, .int .i64 0, .int .i64 0]) ?_ 0 _ rfl; (with_reducible repeat first | apply bN | apply bD | apply bA); exact BK950.out) Try.underlying24 rfl (by kernel_rfl) rfl (by (with_reducible repeat first | apply bN | apply bD | apply bA); refine blk_put (cs := #[.int .i64 t959, .int .i64 t960, .int .i64 t961, .int .i64 0]) ?_ 3 _ rfl; (with_reducible repeat first | apply bN | apply bD | apply bA); refine blk_put (cs := #[.int .i64 t959, .int .i64 t960, .int .i64 0, .int .i64 0]) ?_ 2 _ rfl; (with_reducible repeat first | apply bN | apply bD | apply bA); refine blk_put (cs := #[.int .i64 t959, .int .i64 0, .int .i64 0, .int .i64 0]) ?_ 1 _ rfl; (with_reducible repeat first | apply bN | apply bD | apply bA); refine blk_put (cs := #[.int .i64 0, .int .i64 0, .int .i64 0, .int .i64 0]) ?_ 0 _ rfl; (with_reducible repeat first | apply bN | apply bD | apply bA); refine blk_far ?_ NB951_950.out _; (with_reducible repeat first | apply bN | apply bD | apply bA); refine blk_far ?_ NB951_950.out _; (with_reducible repeat first | apply bN | apply bD | apply bA); refine blk_far ?_ NB951_950.out _; (with_reducible repeat first | apply bN | apply bD | apply bA); refine blk_far ?_ NB951_950.out _; (with_reducible repeat first | apply bN | apply bD | apply bA); exact BK951.out) Try.underlying24 rfl (by kernel_rfl)) rfl ?_
 exact ⟨by first | rfl | (simp [errW_none, errW_some] <;> rfl) | (simp [*, errW_none, errW_some] <;> rfl), by repeat (first | (with_reducible first | exact HB.out | apply below_alloc | apply pw_below_drewN | apply below_drew1 | refine below_set ?_ (IsS63.ge HI954.out) | refine below_set ?_ GE950.out | refine below_set ?_ GE951.out) | exact HB.out)⟩

/-! ### impl_RangeJoin: function 45 -/
def impl_RangeJoin.j0 : Nat → Bool → Int → Int → Int → Int → Int → Int → Int → Int → Option (Int × Int × Int × Int)
 | 0, _, _, _, _, _, _, _, _, _ => none
 | k + 1, x12, x965000, x965001, x965002, x965003, x966000, x966001, x966002, x966003 => if x12 = true then ((impl_noRange.f).bind fun bt969 => (some (bt969.1, bt969.2.1, bt969.2.2.1, bt969.2.2.2))) else ((impl_Range_tidy.f (mn x965000 x966000) (mx x965001 x966001) (Go.bits .and .i64 x965002 x966002) (Go.bits .or .i64 (Go.bits .or .i64 x965003 x966003) (Go.bits .xor .i64 x965002 x966002))).bind fun bt973 => (some (bt973.1, bt973.2.1, bt973.2.2.1, bt973.2.2.2)))
def impl_RangeJoin.f (k : Nat) (a0_0 : Int) (a0_1 : Int) (a0_2 : Int) (a0_3 : Int) (a1_0 : Int) (a1_1 : Int) (a1_2 : Int) (a1_3 : Int) : Option (Int × Int × Int × Int) := (impl_Range_some.f k a0_0 a0_1 a0_2 a0_3).bind fun t967 => (if t967 = true then ((impl_Range_some.f k a1_0 a1_1 a1_2 a1_3).bind fun t968 => (impl_RangeJoin.j0 k (!t968) a0_0 a0_1 a0_2 a0_3 a1_0 a1_1 a1_2 a1_3)) else (impl_RangeJoin.j0 k true a0_0 a0_1 a0_2 a0_3 a1_0 a1_1 a1_2 a1_3))


set_option maxHeartbeats 8000000 in
set_option maxRecDepth 100000 in
theorem impl_RangeJoin.calls (k : Nat) (a0_0 : Int) (a0_1 : Int) (a0_2 : Int) (a0_3 : Int) (a1_0 : Int) (a1_1 : Int) (a1_2 : Int) (a1_3 : Int) (r1 : Int) (r2 : Int) (r3 : Int) (r4 : Int) (w : World) (h : impl_RangeJoin.f k a0_0 a0_1 a0_2 a0_3 a1_0 a1_1 a1_2 a1_3 = some (r1, r2, r3, r4)) :
  Calls Try.prog 45 #[.agg #[.int .i64 a0_0, .int .i64 a0_1, .int .i64 a0_2, .int .i64 a0_3], .agg #[.int .i64 a1_0, .int .i64 a1_1, .int .i64 a1_2, .int .i64 a1_3]] w fun e w' => e = .returned (.agg #[.int .i64 r1, .int .i64 r2, .int .i64 r3, .int .i64 r4]) ∧ Below w.heap.size w w' := by
 have hu24 := Try.underlying24
 have HB := Aside0.mk (Below.refl w.heap.size w)
 have H : ((impl_Range_some.f k a0_0 a0_1 a0_2 a0_3).bind fun t967 => (if t967 = true then ((impl_Range_some.f k a1_0 a1_1 a1_2 a1_3).bind fun t968 => (impl_RangeJoin.j0 k (!t968) a0_0 a0_1 a0_2 a0_3 a1_0 a1_1 a1_2 a1_3)) else (impl_RangeJoin.j0 k true a0_0 a0_1 a0_2 a0_3 a1_0 a1_1 a1_2 a1_3))) = some (r1, r2, r3, r4) := h
 clear h
 have HC3 := Aside0.mk H
 clear H
 go_enter Try.func45, Try.ntmps45
 go_upto_region 1 with (first | ((with_reducible refine gate_dst (N := 2) rfl ?_); refine box_event ?hg (N := 2) ?hd (cs := #[.int .i64 a0_0, .int .i64 a0_1, .int .i64 a0_2, .int .i64 a0_3]) (t := 24) ?hr ?_; (case hd => rfl); (case hg => rfl); (case hr => first | (go_simp; done) | (go_simp; rfl)); intro gb964 hg w4 hbox hb; have n0_ := Aside0.mk (below_step (by repeat first | (with_reducible first | exact HB.out | apply vA | apply vN | apply vD) | exact HB.out) hb); have n1_ := Aside0.mk (hbox); have n2_ := Aside0.mk ((by rw [hg]; exact (below_size (by repeat first | (with_reducible first | exact HB.out | apply vA | apply vN | apply vD) | exact HB.out)) : w.heap.size ≤ gb964)); have n3_ := n2_; clear HB; have HB := n0_; have BK964 := n1_; have GW964 := n2_; have GE964 := n3_; clear n0_ n1_ n2_ n3_; clear hb hbox hg) | ((with_reducible refine gate_dst (N := 3) rfl ?_); refine box_event ?hg (N := 3) ?hd (cs := #[.int .i64 a1_0, .int .i64 a1_1, .int .i64 a1_2, .int .i64 a1_3]) (t := 24) ?hr ?_; (case hd => rfl); (case hg => rfl); (case hr => first | (go_simp; done) | (go_simp; rfl)); intro gb965 hg w5 hbox hb; have n0_ := zb BK964 hb rfl; have n1_ := Aside0.mk (below_step (by repeat first | (with_reducible first | exact HB.out | apply vA | apply vN | apply vD | refine vS ?_ GE964.out) | exact HB.out) hb); have n2_ := Aside0.mk (hbox); have n3_ := Aside0.mk ((by rw [hg]; exact (below_size (by repeat first | (with_reducible first | exact HB.out | apply vA | apply vN | apply vD | refine vS ?_ GE964.out) | exact HB.out)) : w.heap.size ≤ gb965)); have n4_ := n3_; have n5_ := zl BK964 hg rfl; have n6_ := zg BK964 hg rfl; clear BK964; clear HB; have BK964 := n0_; have HB := n1_; have BK965 := n2_; have GW965 := n3_; have GE965 := n4_; have NB964_965 := n5_; have NB965_964 := n6_; clear n0_ n1_ n2_ n3_ n4_ n5_ n6_; clear hb hbox hg) | ((with_reducible refine gate_dst (N := 4) rfl ?_); refine box_event ?hg (N := 4) ?hd (cs := #[.int .i64 0, .int .i64 0, .int .i64 0, .int .i64 0]) (t := 24) ?hr ?_; (case hd => rfl); (case hg => rfl); (case hr => first | (go_simp; done) | (go_simp; rfl)); intro gb966 hg w6 hbox hb; have n0_ := zb BK964 hb rfl; have n1_ := zb BK965 hb rfl; have n2_ := Aside0.mk (below_step (by repeat first | (with_reducible first | exact HB.out | apply vA | apply vN | apply vD | refine vS ?_ GE964.out | refine vS ?_ GE965.out) | exact HB.out) hb); have n3_ := Aside0.mk (hbox); have n4_ := Aside0.mk ((by rw [hg]; exact (below_size (by repeat first | (with_reducible first | exact HB.out | apply vA | apply vN | apply vD | refine vS ?_ GE964.out | refine vS ?_ GE965.out) | exact HB.out)) : w.heap.size ≤ gb966)); have n5_ := n4_; have n6_ := zl BK964 hg rfl; have n7_ := zg BK964 hg rfl; have n8_ := zl BK965 hg rfl; have n9_ := zg BK965 hg rfl; clear BK964; clear BK965; clear HB; have BK964 := n0_; have BK965 := n1_; have HB := n2_; have BK966 := n3_; have GW966 := n4_; have GE966 := n5_; have NB964_966 := n6_; have NB966_964 := n7_; have NB965_966 := n8_; have NB966_965 := n9_; clear n0_ n1_ n2_ n3_ n4_ n5_ n6_ n7_ n8_ n9_; clear hb hbox hg))
 (try simp only [Act.put, List.setIfInBounds_toArray, List.set_cons_zero, List.set_cons_succ])
 go_cut [12] (fun v12 wc => ∃ (kq : Nat) (x12_2 : Bool), v12 = .bool x12_2 ∧ Aside0 (impl_RangeJoin.j0 kq x12_2 a0_0 a0_1 a0_2 a0_3 a1_0 a1_1 a1_2 a1_3 = some (r1, r2, r3, r4)) ∧ Aside0 (kq ≤ k) ∧ Aside0 (wc.heap[gb964]? = some (.cells #[.int .i64 a0_0, .int .i64 a0_1, .int .i64 a0_2, .int .i64 a0_3] 24 (0, 0))) ∧ Aside0 (wc.heap[gb965]? = some (.cells #[.int .i64 a1_0, .int .i64 a1_1, .int .i64 a1_2, .int .i64 a1_3] 24 (0, 0))) ∧ Aside0 (wc.heap[gb966]? = some (.cells #[.int .i64 0, .int .i64 0, .int .i64 0, .int .i64 0] 24 (0, 0))) ∧ Aside0 (Below w.heap.size w wc))
 case first =>
  have H := HC3.out
  clear HC3
  replace H := Option.bind_eq_some_iff.mp H
  obtain ⟨t967, A70, H⟩ := H
  try dsimp only at H
  have A7 := Aside0.mk A70
  clear A70
  by_cases c8 : t967 = true
  ·subst c8
   rw [if_pos rfl] at H
   replace H := Option.bind_eq_some_iff.mp H
   obtain ⟨t968, A90, H⟩ := H
   try dsimp only at H
   have A9 := Aside0.mk A90
   clear A90
   have H' := Aside0.mk H
   clear H
   have hnb10 := NB964_965.out
   have hnc10 := NB965_964.out
   have hnb11 := NB964_966.out
   have hnc11 := NB966_964.out
   obtain ⟨hcz12_0, hcz12_1, hcz12_2, hcz12_3, hfz12_0, hfz12_1, hfz12_2, hfz12_3⟩ := zc4 BK964
   go_wp2_with (first | ((with_reducible refine gate_callee (f := 53) rfl ?_); refine goesL_ (some 6) rfl rfl Try.func53 (by kernel_rfl) rfl #[.agg #[.int .i64 a0_0, .int .i64 a0_1, .int .i64 a0_2, .int .i64 a0_3]] rfl (by (try simp only [List.map_toArray, List.map_cons, List.map_nil]); first | done | rfl | (simp only [List.length_drop, List.length_take]; rfl)) ?_; (with_reducible refine (impl_Range_some.calls k a0_0 a0_1 a0_2 a0_3 true _ A7.out).mono ?_); rintro e w13 ⟨rfl, hb⟩; refine ⟨_, rfl, ?_⟩; have n0_ := zb BK964 hb rfl; have n1_ := zb BK965 hb rfl; have n2_ := zb BK966 hb rfl; have n3_ := Aside0.mk (below_step (by repeat first | (with_reducible first | exact HB.out | apply vA | apply vN | apply vD | refine vS ?_ GE964.out | refine vS ?_ GE965.out | refine vS ?_ GE966.out) | exact HB.out) hb); clear BK964; clear BK965; clear BK966; clear HB; have BK964 := n0_; have BK965 := n1_; have BK966 := n2_; have HB := n3_; clear n0_ n1_ n2_ n3_; (try clear hb); (try clear hb2); (try clear hk); (try clear hi); have hnb14 := NB965_966.out; have hnc14 := NB966_965.out; obtain ⟨hcz15_0, hcz15_1, hcz15_2, hcz15_3, hfz15_0, hfz15_1, hfz15_2, hfz15_3⟩ := zc4 BK965) | (go_at_call 53; (with_reducible refine (impl_Range_some.calls k a1_0 a1_1 a1_2 a1_3 t968 _ A9.out).mono ?_); rintro e w16 ⟨rfl, hb⟩; have n0_ := zb BK964 hb rfl; have n1_ := zb BK965 hb rfl; have n2_ := zb BK966 hb rfl; have n3_ := Aside0.mk (below_step (by repeat first | (with_reducible first | exact HB.out | apply vA | apply vN | apply vD | refine vS ?_ GE964.out | refine vS ?_ GE965.out | refine vS ?_ GE966.out) | exact HB.out) hb); clear BK964; clear BK965; clear BK966; clear HB; have BK964 := n0_; have BK965 := n1_; have BK966 := n2_; have HB := n3_; clear n0_ n1_ n2_ n3_; (try clear hb); (try clear hb2); (try clear hk); (try clear hi)))
   go_meet
   case rel => exact ⟨_, (!t968), (by first | rfl | (simp; done) | (simp [*]; done)), H', ⟨by first | omega | exact Nat.le_refl _⟩, ⟨by (with_reducible repeat first | apply bN | apply bD | apply bA); exact BK964.out⟩, ⟨by (with_reducible repeat first | apply bN | apply bD | apply bA); exact BK965.out⟩, ⟨by (with_reducible repeat first | apply bN | apply bD | apply bA); exact BK966.out⟩, ⟨by repeat first | (with_reducible first | exact HB.out | apply vA | apply vN | apply vD | refine vS ?_ GE964.out | refine vS ?_ GE965.out | refine vS ?_ GE966.out) | exact HB.out⟩⟩
  ·replace c8 := Bool.eq_false_iff.mpr c8
   subst c8
   rw [if_neg (show ¬ (false = true) by decide)] at H
   have H' := Aside0.mk H
   clear H
   have hnb17 := NB964_965.out
   have hnc17 := NB965_964.out
   have hnb18 := NB964_966.out
   have hnc18 := NB966_964.out
   obtain ⟨hcz19_0, hcz19_1, hcz19_2, hcz19_3, hfz19_0, hfz19_1, hfz19_2, hfz19_3⟩ := zc4 BK964
   go_wp2_with (first | ((with_reducible refine gate_callee (f := 53) rfl ?_); refine goesL_ (some 6) rfl rfl Try.func53 (by kernel_rfl) rfl #[.agg #[.int .i64 a0_0, .int .i64 a0_1, .int .i64 a0_2, .int .i64 a0_3]] rfl (by (try simp only [List.map_toArray, List.map_cons, List.map_nil]); first | done | rfl | (simp only [List.length_drop, List.length_take]; rfl)) ?_; (with_reducible refine (impl_Range_some.calls k a0_0 a0_1 a0_2 a0_3 false _ A7.out).mono ?_); rintro e w20 ⟨rfl, hb⟩; refine ⟨_, rfl, ?_⟩; have n0_ := zb BK964 hb rfl; have n1_ := zb BK965 hb rfl; have n2_ := zb BK966 hb rfl; have n3_ := Aside0.mk (below_step (by repeat first | (with_reducible first | exact HB.out | apply vA | apply vN | apply vD | refine vS ?_ GE964.out | refine vS ?_ GE965.out | refine vS ?_ GE966.out) | exact HB.out) hb); clear BK964; clear BK965; clear BK966; clear HB; have BK964 := n0_; have BK965 := n1_; have BK966 := n2_; have HB := n3_; clear n0_ n1_ n2_ n3_; (try clear hb); (try clear hb2); (try clear hk); (try clear hi)))
   go_meet
   case rel => exact ⟨_, (true), (by first | rfl | (simp; done) | (simp [*]; done)), H', ⟨by first | omega | exact Nat.le_refl _⟩, ⟨by (with_reducible repeat first | apply bN | apply bD | apply bA); exact BK964.out⟩, ⟨by (with_reducible repeat first | apply bN | apply bD | apply bA); exact BK965.out⟩, ⟨by (with_reducible repeat first | apply bN | apply bD | apply bA); exact BK966.out⟩, ⟨by repeat first | (with_reducible first | exact HB.out | apply vA | apply vN | apply vD | refine vS ?_ GE964.out | refine vS ?_ GE965.out | refine vS ?_ GE966.out) | exact HB.out⟩⟩
 case rest =>
  clear HC3
  try clear c1
  try clear p2
  try clear c4
  try clear c5
  try clear c8
  try clear c10
  try clear c11
  try clear c14
  try clear c17
  try clear c18
  try clear hcz12_0
  try clear hcz12_1
  try clear hcz12_2
  try clear hcz12_3
  try clear hcz15_0
  try clear hcz15_1
  try clear hcz15_2
  try clear hcz15_3
  try clear hcz19_0
  try clear hcz19_1
  try clear hcz19_2
  try clear hcz19_3
  try clear hfz12_0
  try clear hfz12_1
  try clear hfz12_2
  try clear hfz12_3
  try clear hfz15_0
  try clear hfz15_1
  try clear hfz15_2
  try clear hfz15_3
  try clear hfz19_0
  try clear hfz19_1
  try clear hfz19_2
  try clear hfz19_3
  obtain ⟨kq, x12_2, rfl, HA, HJ2, BK964, BK965, BK966, HB⟩ := hcut
  cases kq with
  | zero => exact absurd HA.out (by simp [impl_RangeJoin.j0])
  | succ kj2 =>
   have H := HA.out
   clear HA
   simp only [impl_RangeJoin.j0] at H
   by_cases c21 : x12_2 = true
   ·subst c21
    rw [if_pos rfl] at H
    replace H := Option.bind_eq_some_iff.mp H
    obtain ⟨⟨t969, t970, t971, t972⟩, A220, H⟩ := H
    try dsimp only at H
    have A22 := Aside0.mk A220
    clear A220
    simp only [Option.some.injEq, Prod.mk.injEq] at H
    obtain ⟨rfl, rfl, rfl, rfl⟩ := H
    go_wp2_with (first | ((with_reducible refine gate_callee (f := 54) rfl ?_); refine goesL_ (some 13) rfl rfl Try.func54 (by kernel_rfl) rfl #[] rfl (by (try simp only [List.map_toArray, List.map_cons, List.map_nil]); first | done | rfl | (simp only [List.length_drop, List.length_take]; rfl)) ?_; (with_reducible refine (impl_noRange.calls  t969 t970 t971 t972 _ A22.out).mono ?_); rintro e w23 ⟨rfl, hb⟩; refine ⟨_, rfl, ?_⟩; have n0_ := zb BK964 hb rfl; have n1_ := zb BK965 hb rfl; have n2_ := zb BK966 hb rfl; have n3_ := Aside0.mk (below_step (by repeat first | (with_reducible first | exact HB.out | apply vA | apply vN | apply vD | refine vS ?_ GE964.out | refine vS ?_ GE965.out | refine vS ?_ GE966.out) | exact HB.out) hb); clear BK964; clear BK965; clear BK966; clear HB; have BK964 := n0_; have BK965 := n1_; have BK966 := n2_; have HB := n3_; clear n0_ n1_ n2_ n3_; (try clear hb); (try clear hb2); (try clear hk); (try clear hi); have hnb24 := NB966_964.out; have hnc24 := NB964_966.out; have hnb25 := NB966_965.out; have hnc25 := NB965_966.out; obtain ⟨hcz26_0, hcz26_1, hcz26_2, hcz26_3, hfz26_0, hfz26_1, hfz26_2, hfz26_3⟩ := zc4 BK966))
    refine bodyPost_ret (results_cell_row rfl _ _ gb966 24 #[.int .i64 t969, .int .i64 t970, .int .i64 t971, .int .i64 t972] (0, 0) _ rfl (by (with_reducible repeat first | apply bN | apply bD | apply bA); refine blk_put (cs := #[.int .i64 t969, .int .i64 t970, .int .i64 t971, .int .i64 0]) ?_ 3 _ rfl; (with_reducible repeat first | apply bN | apply bD | apply bA); refine blk_put (cs := #[.int .i64 t969, .int .i64 t970, .int .i64 0, .int .i64 0]) ?_ 2 _ rfl; (with_reducible repeat first | apply bN | apply bD | apply bA); refine blk_put (cs := #[.int .i64 t969, .int .i64 0, .int .i64 0, .int .i64 0]) ?_ 1 _ rfl; (with_reducible repeat first | apply bN | apply bD | apply bA); refine blk_put (cs := #[.int .i64 0, .int .i64 0, .int .i64 0, .int .i64 0]) ?_ 0 _ rfl; (with_reducible repeat first | apply bN | apply bD | apply bA); exact BK966.out) Try.underlying24 rfl (by kernel_rfl)) rfl ?_
    exact ⟨by first | rfl | (simp [errW_none, errW_some] <;> rfl) | (simp [*, errW_none, errW_some] <;> rfl), by repeat first | (with_reducible first | exact HB.out | apply vA | apply vN | apply vD | refine vS ?_ GE964.out | refine vS ?_ GE965.out | refine vS ?_ GE966.out) | exact HB.out⟩
   ·replace c21 := Bool.eq_false_iff.mpr c21
    subst c21
    rw [if_neg (show ¬ (false = true) by decide)] at H
    obtain ⟨ji27, hji27⟩ : ∃ j_ : Int, (mn a0_0 a1_0) = j_ := ⟨_, rfl⟩
    replace H : ((impl_Range_tidy.f (ji27) (mx a0_1 a1_1) (Go.bits .and .i64 a0_2 a1_2) (Go.bits .or .i64 (Go.bits .or .i64 a0_3 a1_3) (Go.bits .xor .i64 a0_2 a1_2))).bind fun bt973 => (some (bt973.1, bt973.2.1, bt973.2.2.1, bt973.2.2.2))) = some (r1, r2, r3, r4) := by first | (rw [hji27] at H; exact H) | (simp only [hji27] at H ⊢; exact H)
    have hji27_ : (if a1_0 < a0_0 then a1_0 else a0_0) = ji27 := hji27
    obtain ⟨ji28, hji28⟩ : ∃ j_ : Int, (mx a0_1 a1_1) = j_ := ⟨_, rfl⟩
    replace H : ((impl_Range_tidy.f (ji27) (ji28) (Go.bits .and .i64 a0_2 a1_2) (Go.bits .or .i64 (Go.bits .or .i64 a0_3 a1_3) (Go.bits .xor .i64 a0_2 a1_2))).bind fun bt973 => (some (bt973.1, bt973.2.1, bt973.2.2.1, bt973.2.2.2))) = some (r1, r2, r3, r4) := by first | (rw [hji28] at H; exact H) | (simp only [hji28] at H ⊢; exact H)
    have hji28_ : (if a0_1 < a1_1 then a1_1 else a0_1) = ji28 := hji28
    replace H := Option.bind_eq_some_iff.mp H
    obtain ⟨⟨t973, t974, t975, t976⟩, A290, H⟩ := H
    try dsimp only at H
    have A29 := Aside0.mk A290
    clear A290
    simp only [Option.some.injEq, Prod.mk.injEq] at H
    obtain ⟨rfl, rfl, rfl, rfl⟩ := H
    have hnb30 := NB964_965.out
    have hnc30 := NB965_964.out
    have hnb31 := NB964_966.out
    have hnc31 := NB966_964.out
    obtain ⟨hcz32_0, hcz32_1, hcz32_2, hcz32_3, hfz32_0, hfz32_1, hfz32_2, hfz32_3⟩ := zc4 BK964
    have hnb33 := NB965_966.out
    have hnc33 := NB966_965.out
    obtain ⟨hcz34_0, hcz34_1, hcz34_2, hcz34_3, hfz34_0, hfz34_1, hfz34_2, hfz34_3⟩ := zc4 BK965
    go_wp2_with (first | ((with_reducible refine gate_callee (f := 75) rfl ?_); refine goesL_ (some 41) rfl rfl Try.func75 (by kernel_rfl) rfl #[.agg #[.int .i64 ji27, .int .i64 ji28, .int .i64 (Go.bits .and .i64 a0_2 a1_2), .int .i64 (Go.bits .or .i64 (Go.bits .or .i64 a0_3 a1_3) (Go.bits .xor .i64 a0_2 a1_2))]] rfl (by (try simp only [List.map_toArray, List.map_cons, List.map_nil]); first | done | (simp only [hji27, hji28]; rfl) | rfl | (simp only [List.length_drop, List.length_take]; rfl)) ?_; (with_reducible refine (impl_Range_tidy.calls ji27 ji28 (Go.bits .and .i64 a0_2 a1_2) (Go.bits .or .i64 (Go.bits .or .i64 a0_3 a1_3) (Go.bits .xor .i64 a0_2 a1_2)) t973 t974 t975 t976 _ A29.out).mono ?_); rintro e w35 ⟨rfl, hb⟩; refine ⟨_, rfl, ?_⟩; have n0_ := zb BK964 hb rfl; have n1_ := zb BK965 hb rfl; have n2_ := zb BK966 hb rfl; have n3_ := Aside0.mk (below_step (by repeat first | (with_reducible first | exact HB.out | apply vA | apply vN | apply vD | refine vS ?_ GE964.out | refine vS ?_ GE965.out | refine vS ?_ GE966.out) | exact HB.out) hb); clear BK964; clear BK965; clear BK966; clear HB; have BK964 := n0_; have BK965 := n1_; have BK966 := n2_; have HB := n3_; clear n0_ n1_ n2_ n3_; (try clear hb); (try clear hb2); (try clear hk); (try clear hi); obtain ⟨hcz36_0, hcz36_1, hcz36_2, hcz36_3, hfz36_0, hfz36_1, hfz36_2, hfz36_3⟩ := zc4 BK966))
    refine bodyPost_ret (results_cell_row rfl _ _ gb966 24 #[.int .i64 t973, .int .i64 t974, .int .i64 t975, .int .i64 t976] (0, 0) _ rfl (by (with_reducible repeat first | apply bN | apply bD | apply bA); refine blk_put (cs := #[.int .i64 t973, .int .i64 t974, .int .i64 t975, .int .i64 0]) ?_ 3 _ rfl; (with_reducible repeat first | apply bN | apply bD | apply bA); refine blk_put (cs := #[.int .i64 t973, .int .i64 t974, .int .i64 0, .int .i64 0]) ?_ 2 _ rfl; (with_reducible repeat first | apply bN | apply bD | apply bA); refine blk_put (cs := #[.int .i64 t973, .int .i64 0, .int .i64 0, .int .i64 0]) ?_ 1 _ rfl; (with_reducible repeat first | apply bN | apply bD | apply bA); refine blk_put (cs := #[.int .i64 0, .int .i64 0, .int .i64 0, .int .i64 0]) ?_ 0 _ rfl; (with_reducible repeat first | apply bN | apply bD | apply bA); exact BK966.out) Try.underlying24 rfl (by kernel_rfl)) rfl ?_
    exact ⟨by first | rfl | (simp [errW_none, errW_some] <;> rfl) | (simp only [← hji27, ← hji28]; first | rfl | (simp [errW_none, errW_some] <;> rfl)) | (simp [*, errW_none, errW_some] <;> rfl), by repeat first | (with_reducible first | exact HB.out | apply vA | apply vN | apply vD | refine vS ?_ GE964.out | refine vS ?_ GE965.out | refine vS ?_ GE966.out) | exact HB.out⟩

/-! ### spec_RangeJoin: function 46 -/
def spec_RangeJoin.j0 : Nat → Bool → Int → Int → Int → Int → Int → Int → Int → Int → Option (Int × Int × Int × Int)
 | 0, _, _, _, _, _, _, _, _, _ => none
 | k + 1, x22, x978000, x978001, x978002, x978003, x979000, x979001, x979002, x979003 => if x22 = true then (some (1, 0, 0, 0)) else ((spec_l2Join.f k x978000 x978001 x978002 x978003 x979000 x979001 x979002 x979003).bind fun bt984 => (some (bt984.1, bt984.2.1, bt984.2.2.1, bt984.2.2.2)))
def spec_RangeJoin.f (k : Nat) (a0_0 : Int) (a0_1 : Int) (a0_2 : Int) (a0_3 : Int) (a1_0 : Int) (a1_1 : Int) (a1_2 : Int) (a1_3 : Int) : Option (Int × Int × Int × Int) := (spec_l2Ok.f a0_0 a0_1 a0_2 a0_3).bind fun t980 => (if t980 = true then ((spec_l2Ok.f a1_0 a1_1 a1_2 a1_3).bind fun t981 => (if t981 = true then ((spec_l2Some.f k a0_0 a0_1 a0_2 a0_3).bind fun t982 => (if t982 = true then ((spec_l2Some.f k a1_0 a1_1 a1_2 a1_3).bind fun t983 => (spec_RangeJoin.j0 k (!t983) a0_0 a0_1 a0_2 a0_3 a1_0 a1_1 a1_2 a1_3)) else (spec_RangeJoin.j0 k true a0_0 a0_1 a0_2 a0_3 a1_0 a1_1 a1_2 a1_3))) else (spec_RangeJoin.j0 k true a0_0 a0_1 a0_2 a0_3 a1_0 a1_1 a1_2 a1_3))) else (spec_RangeJoin.j0 k true a0_0 a0_1 a0_2 a0_3 a1_0 a1_1 a1_2 a1_3))


set_option maxHeartbeats 8000000 in
set_option maxRecDepth 100000 in
theorem spec_RangeJoin.calls (k : Nat) (a0_0 : Int) (a0_1 : Int) (a0_2 : Int) (a0_3 : Int) (a1_0 : Int) (a1_1 : Int) (a1_2 : Int) (a1_3 : Int) (r1 : Int) (r2 : Int) (r3 : Int) (r4 : Int) (w : World) (h : spec_RangeJoin.f k a0_0 a0_1 a0_2 a0_3 a1_0 a1_1 a1_2 a1_3 = some (r1, r2, r3, r4)) :
  Calls Try.prog 46 #[.agg #[.int .i64 a0_0, .int .i64 a0_1, .int .i64 a0_2, .int .i64 a0_3], .agg #[.int .i64 a1_0, .int .i64 a1_1, .int .i64 a1_2, .int .i64 a1_3]] w fun e w' => e = .returned (.agg #[.int .i64 r1, .int .i64 r2, .int .i64 r3, .int .i64 r4]) ∧ Below w.heap.size w w' := by
 have hu24 := Try.underlying24
 have HB := Aside0.mk (Below.refl w.heap.size w)
 have H : ((spec_l2Ok.f a0_0 a0_1 a0_2 a0_3).bind fun t980 => (if t980 = true then ((spec_l2Ok.f a1_0 a1_1 a1_2 a1_3).bind fun t981 => (if t981 = true then ((spec_l2Some.f k a0_0 a0_1 a0_2 a0_3).bind fun t982 => (if t982 = true then ((spec_l2Some.f k a1_0 a1_1 a1_2 a1_3).bind fun t983 => (spec_RangeJoin.j0 k (!t983) a0_0 a0_1 a0_2 a0_3 a1_0 a1_1 a1_2 a1_3)) else (spec_RangeJoin.j0 k true a0_0 a0_1 a0_2 a0_3 a1_0 a1_1 a1_2 a1_3))) else (spec_RangeJoin.j0 k true a0_0 a0_1 a0_2 a0_3 a1_0 a1_1 a1_2 a1_3))) else (spec_RangeJoin.j0 k true a0_0 a0_1 a0_2 a0_3 a1_0 a1_1 a1_2 a1_3))) = some (r1, r2, r3, r4) := h
 clear h
 have HC3 := Aside0.mk H
 clear H
 go_enter Try.func46, Try.ntmps46
 go_upto_region 1 with (first | ((with_reducible refine gate_dst (N := 2) rfl ?_); refine box_event ?hg (N := 2) ?hd (cs := #[.int .i64 a0_0, .int .i64 a0_1, .int .i64 a0_2, .int .i64 a0_3]) (t := 24) ?hr ?_; (case hd => rfl); (case hg => rfl); (case hr => first | (go_simp; done) | (go_simp; rfl)); intro gb977 hg w4 hbox hb; have n0_ := Aside0.mk (below_step (by repeat first | (with_reducible first | exact HB.out | apply vA | apply vN | apply vD) | exact HB.out) hb); have n1_ := Aside0.mk (hbox); have n2_ := Aside0.mk ((by rw [hg]; exact (below_size (by repeat first | (with_reducible first | exact HB.out | apply vA | apply vN | apply vD) | exact HB.out)) : w.heap.size ≤ gb977)); have n3_ := n2_; clear HB; have HB := n0_; have BK977 := n1_; have GW977 := n2_; have GE977 := n3_; clear n0_ n1_ n2_ n3_; clear hb hbox hg) | ((with_reducible refine gate_dst (N := 3) rfl ?_); refine box_event ?hg (N := 3) ?hd (cs := #[.int .i64 a1_0, .int .i64 a1_1, .int .i64 a1_2, .int .i64 a1_3]) (t := 24) ?hr ?_; (case hd => rfl); (case hg => rfl); (case hr => first | (go_simp; done) | (go_simp; rfl)); intro gb978 hg w5 hbox hb; have n0_ := zb BK977 hb rfl; have n1_ := Aside0.mk (below_step (by repeat first | (with_reducible first | exact HB.out | apply vA | apply vN | apply vD | refine vS ?_ GE977.out) | exact HB.out) hb); have n2_ := Aside0.mk (hbox); have n3_ := Aside0.mk ((by rw [hg]; exact (below_size (by repeat first | (with_reducible first | exact HB.out | apply vA | apply vN | apply vD | refine vS ?_ GE977.out) | exact HB.out)) : w.heap.size ≤ gb978)); have n4_ := n3_; have n5_ := zl BK977 hg rfl; have n6_ := zg BK977 hg rfl; clear BK977; clear HB; have BK977 := n0_; have HB := n1_; have BK978 := n2_; have GW978 := n3_; have GE978 := n4_; have NB977_978 := n5_; have NB978_977 := n6_; clear n0_ n1_ n2_ n3_ n4_ n5_ n6_; clear hb hbox hg) | ((with_reducible refine gate_dst (N := 4) rfl ?_); refine box_event ?hg (N := 4) ?hd (cs := #[.int .i64 0, .int .i64 0, .int .i64 0, .int .i64 0]) (t := 24) ?hr ?_; (case hd => rfl); (case hg => rfl); (case hr => first | (go_simp; done) | (go_simp; rfl)); intro gb979 hg w6 hbox hb; have n0_ := zb BK977 hb rfl; have n1_ := zb BK978 hb rfl; have n2_ := Aside0.mk (below_step (by repeat first | (with_reducible first | exact HB.out | apply vA | apply vN | apply vD | refine vS ?_ GE977.out | refine vS ?_ GE978.out) | exact HB.out) hb); have n3_ := Aside0.mk (hbox); have n4_ := Aside0.mk ((by rw [hg]; exact (below_size (by repeat first | (with_reducible first | exact HB.out | apply vA | apply vN | apply vD | refine vS ?_ GE977.out | refine vS ?_ GE978.out) | exact HB.out)) : w.heap.size ≤ gb979)); have n5_ := n4_; have n6_ := zl BK977 hg rfl; have n7_ := zg BK977 hg rfl; have n8_ := zl BK978 hg rfl; have n9_ := zg BK978 hg rfl; clear BK977; clear BK978; clear HB; have BK977 := n0_; have BK978 := n1_; have HB := n2_; have BK979 := n3_; have GW979 := n4_; have GE979 := n5_; have NB977_979 := n6_; have NB979_977 := n7_; have NB978_979 := n8_; have NB979_978 := n9_; clear n0_ n1_ n2_ n3_ n4_ n5_ n6_ n7_ n8_ n9_; clear hb hbox hg))
 (try simp only [Act.put, List.setIfInBounds_toArray, List.set_cons_zero, List.set_cons_succ])
 go_cut [22] (fun v22 wc => ∃ (kq : Nat) (x22_2 : Bool), v22 = .bool x22_2 ∧ Aside0 (spec_RangeJoin.j0 kq x22_2 a0_0 a0_1 a0_2 a0_3 a1_0 a1_1 a1_2 a1_3 = some (r1, r2, r3, r4)) ∧ Aside0 (kq ≤ k) ∧ Aside0 (wc.heap[gb977]? = some (.cells #[.int .i64 a0_0, .int .i64 a0_1, .int .i64 a0_2, .int .i64 a0_3] 24 (0, 0))) ∧ Aside0 (wc.heap[gb978]? = some (.cells #[.int .i64 a1_0, .int .i64 a1_1, .int .i64 a1_2, .int .i64 a1_3] 24 (0, 0))) ∧ Aside0 (wc.heap[gb979]? = some (.cells #[.int .i64 0, .int .i64 0, .int .i64 0, .int .i64 0] 24 (0, 0))) ∧ Aside0 (Below w.heap.size w wc))
 case first =>
  have H := HC3.out
  clear HC3
  replace H := Option.bind_eq_some_iff.mp H
  obtain ⟨t980, A70, H⟩ := H
  try dsimp only at H
  have A7 := Aside0.mk A70
  clear A70
  by_cases c8 : t980 = true
  ·subst c8
   rw [if_pos rfl] at H
   replace H := Option.bind_eq_some_iff.mp H
   obtain ⟨t981, A90, H⟩ := H
   try dsimp only at H
   have A9 := Aside0.mk A90
   clear A90
   by_cases c10 : t981 = true
   ·subst c10
    rw [if_pos rfl] at H
    replace H := Option.bind_eq_some_iff.mp H
    obtain ⟨t982, A110, H⟩ := H
    try dsimp only at H
    have A11 := Aside0.mk A110
    clear A110
    by_cases c12 : t982 = true
    ·subst c12
     rw [if_pos rfl] at H
     replace H := Option.bind_eq_some_iff.mp H
     obtain ⟨t983, A130, H⟩ := H
     try dsimp only at H
     have A13 := Aside0.mk A130
     clear A130
     have H' := Aside0.mk H
     clear H
     have hnb14 := NB977_978.out
     have hnc14 := NB978_977.out
     have hnb15 := NB977_979.out
     have hnc15 := NB979_977.out
     obtain ⟨hcz16_0, hcz16_1, hcz16_2, hcz16_3, hfz16_0, hfz16_1, hfz16_2, hfz16_3⟩ := zc4 BK977
     go_wp2_with (first | ((with_reducible refine gate_callee (f := 57) rfl ?_); refine goesL_ (some 6) rfl rfl Try.func57 (by kernel_rfl) rfl #[.agg #[.int .i64 a0_0, .int .i64 a0_1, .int .i64 a0_2, .int .i64 a0_3]] rfl (by (try simp only [List.map_toArray, List.map_cons, List.map_nil]); first | done | rfl | (simp only [List.length_drop, List.length_take]; rfl)) ?_; (with_reducible refine (spec_l2Ok.calls a0_0 a0_1 a0_2 a0_3 true _ A7.out).mono ?_); rintro e w17 ⟨rfl, hb⟩; refine ⟨_, rfl, ?_⟩; have n0_ := zb BK977 hb rfl; have n1_ := zb BK978 hb rfl; have n2_ := zb BK979 hb rfl; have n3_ := Aside0.mk (below_step (by repeat first | (with_reducible first | exact HB.out | apply vA | apply vN | apply vD | refine vS ?_ GE977.out | refine vS ?_ GE978.out | refine vS ?_ GE979.out) | exact HB.out) hb); clear BK977; clear BK978; clear BK979; clear HB; have BK977 := n0_; have BK978 := n1_; have BK979 := n2_; have HB := n3_; clear n0_ n1_ n2_ n3_; (try clear hb); (try clear hb2); (try clear hk); (try clear hi); have hnb18 := NB978_979.out; have hnc18 := NB979_978.out; obtain ⟨hcz19_0, hcz19_1, hcz19_2, hcz19_3, hfz19_0, hfz19_1, hfz19_2, hfz19_3⟩ := zc4 BK978) | (go_at_call 57; (with_reducible refine (spec_l2Ok.calls a1_0 a1_1 a1_2 a1_3 true _ A9.out).mono ?_); rintro e w20 ⟨rfl, hb⟩; have n0_ := zb BK977 hb rfl; have n1_ := zb BK978 hb rfl; have n2_ := zb BK979 hb rfl; have n3_ := Aside0.mk (below_step (by repeat first | (with_reducible first | exact HB.out | apply vA | apply vN | apply vD | refine vS ?_ GE977.out | refine vS ?_ GE978.out | refine vS ?_ GE979.out) | exact HB.out) hb); clear BK977; clear BK978; clear BK979; clear HB; have BK977 := n0_; have BK978 := n1_; have BK979 := n2_; have HB := n3_; clear n0_ n1_ n2_ n3_; (try clear hb); (try clear hb2); (try clear hk); (try clear hi); obtain ⟨hcz21_0, hcz21_1, hcz21_2, hcz21_3, hfz21_0, hfz21_1, hfz21_2, hfz21_3⟩ := zc4 BK977) | (go_at_call 58; (with_reducible refine (spec_l2Some.calls k a0_0 a0_1 a0_2 a0_3 true _ A11.out).mono ?_); rintro e w22 ⟨rfl, hb⟩; have n0_ := zb BK977 hb rfl; have n1_ := zb BK978 hb rfl; have n2_ := zb BK979 hb rfl; have n3_ := Aside0.mk (below_step (by repeat first | (with_reducible first | exact HB.out | apply vA | apply vN | apply vD | refine vS ?_ GE977.out | refine vS ?_ GE978.out | refine vS ?_ GE979.out) | exact HB.out) hb); clear BK977; clear BK978; clear BK979; clear HB; have BK977 := n0_; have BK978 := n1_; have BK979 := n2_; have HB := n3_; clear n0_ n1_ n2_ n3_; (try clear hb); (try clear hb2); (try clear hk); (try clear hi); obtain ⟨hcz23_0, hcz23_1, hcz23_2, hcz23_3, hfz23_0, hfz23_1, hfz23_2, hfz23_3⟩ := zc4 BK978) | (go_at_call 58; (with_reducible refine (spec_l2Some.calls k a1_0 a1_1 a1_2 a1_3 t983 _ A13.out).mono ?_); rintro e w24 ⟨rfl, hb⟩; have n0_ := zb BK977 hb rfl; have n1_ := zb BK978 hb rfl; have n2_ := zb BK979 hb rfl; have n3_ := Aside0.mk (below_step (by repeat first | (with_reducible first | exact HB.out | apply vA | apply vN | apply vD | refine vS ?_ GE977.out | refine vS ?_ GE978.out | refine vS ?_ GE979.out) | exact HB.out) hb); clear BK977; clear BK978; clear BK979; clear HB; have BK977 := n0_; have BK978 := n1_; have BK979 := n2_; have HB := n3_; clear n0_ n1_ n2_ n3_; (try clear hb); (try clear hb2); (try clear hk); (try clear hi)))
     go_meet
     case rel => exact ⟨_, (!t983), (by first | rfl | (simp; done) | (simp [*]; done)), H', ⟨by first | omega | exact Nat.le_refl _⟩, ⟨by (with_reducible repeat first | apply bN | apply bD | apply bA); exact BK977.out⟩, ⟨by (with_reducible repeat first | apply bN | apply bD | apply bA); exact BK978.out⟩, ⟨by (with_reducible repeat first | apply bN | apply bD | apply bA); exact BK979.out⟩, ⟨by repeat first | (with_reducible first | exact HB.out | apply vA | apply vN | apply vD | refine vS ?_ GE977.out | refine vS ?_ GE978.out | refine vS ?_ GE979.out) | exact HB.out⟩⟩
    ·replace c12 := Bool.eq_false_iff.mpr c12
     subst c12
     rw [if_neg (show ¬ (false = true) by decide)] at H
     have H' := Aside0.mk H
     clear H
     have hnb25 := NB977_978.out
     have hnc25 := NB978_977.out
     have hnb26 := NB977_979.out
     have hnc26 := NB979_977.out
     obtain ⟨hcz27_0, hcz27_1, hcz27_2, hcz27_3, hfz27_0, hfz27_1, hfz27_2, hfz27_3⟩ := zc4 BK977
     go_wp2_with (first | ((with_reducible refine gate_callee (f := 57) rfl ?_); refine goesL_ (some 6) rfl rfl Try.func57 (by kernel_rfl) rfl #[.agg #[.int .i64 a0_0, .int .i64 a0_1, .int .i64 a0_2, .int .i64 a0_3]] rfl (by (try simp only [List.map_toArray, List.map_cons, List.map_nil]); first | done | rfl | (simp only [List.length_drop, List.length_take]; rfl)) ?_; (with_reducible refine (spec_l2Ok.calls a0_0 a0_1 a0_2 a0_3 true _ A7.out).mono ?_); rintro e w28 ⟨rfl, hb⟩; refine ⟨_, rfl, ?_⟩; have n0_ := zb BK977 hb rfl; have n1_ := zb BK978 hb rfl; have n2_ := zb BK979 hb rfl; have n3_ := Aside0.mk (below_step (by repeat first | (with_reducible first | exact HB.out | apply vA | apply vN | apply vD | refine vS ?_ GE977.out | refine vS ?_ GE978.out | refine vS ?_ GE979.out) | exact HB.out) hb); clear BK977; clear BK978; clear BK979; clear HB; have BK977 := n0_; have BK978 := n1_; have BK979 := n2_; have HB := n3_; clear n0_ n1_ n2_ n3_; (try clear hb); (try clear hb2); (try clear hk); (try clear hi); have hnb29 := NB978_979.out; have hnc29 := NB979_978.out; obtain ⟨hcz30_0, hcz30_1, hcz30_2, hcz30_3, hfz30_0, hfz30_1, hfz30_2, hfz30_3⟩ := zc4 BK978) | (go_at_call 57; (with_reducible refine (spec_l2Ok.calls a1_0 a1_1 a1_2 a1_3 true _ A9.out).mono ?_); rintro e w31 ⟨rfl, hb⟩; have n0_ := zb BK977 hb rfl; have n1_ := zb BK978 hb rfl; have n2_ := zb BK979 hb rfl; have n3_ := Aside0.mk (below_step (by repeat first | (with_reducible first | exact HB.out | apply vA | apply vN | apply vD | refine vS ?_ GE977.out | refine vS ?_ GE978.out | refine vS ?_ GE979.out) | exact HB.out) hb); clear BK977; clear BK978; clear BK979; clear HB; have BK977 := n0_; have BK978 := n1_; have BK979 := n2_; have HB := n3_; clear n0_ n1_ n2_ n3_; (try clear hb); (try clear hb2); (try clear hk); (try clear hi); obtain ⟨hcz32_0, hcz32_1, hcz32_2, hcz32_3, hfz32_0, hfz32_1, hfz32_2, hfz32_3⟩ := zc4 BK977) | (go_at_call 58; (with_reducible refine (spec_l2Some.calls k a0_0 a0_1 a0_2 a0_3 false _ A11.out).mono ?_); rintro e w33 ⟨rfl, hb⟩; have n0_ := zb BK977 hb rfl; have n1_ := zb BK978 hb rfl; have n2_ := zb BK979 hb rfl; have n3_ := Aside0.mk (below_step (by repeat first | (with_reducible first | exact HB.out | apply vA | apply vN | apply vD | refine vS ?_ GE977.out | refine vS ?_ GE978.out | refine vS ?_ GE979.out) | exact HB.out) hb); clear BK977; clear BK978; clear BK979; clear HB; have BK977 := n0_; have BK978 := n1_; have BK979 := n2_; have HB := n3_; clear n0_ n1_ n2_ n3_; (try clear hb); (try clear hb2); (try clear hk); (try clear hi)))
     go_meet
     case rel => exact ⟨_, (true), (by first | rfl | (simp; done) | (simp [*]; done)), H', ⟨by first | omega | exact Nat.le_refl _⟩, ⟨by (with_reducible repeat first | apply bN | apply bD | apply bA); exact BK977.out⟩, ⟨by (with_reducible repeat first | apply bN | apply bD | apply bA); exact BK978.out⟩, ⟨by (with_reducible repeat first | apply bN | apply bD | apply bA); exact BK979.out⟩, ⟨by repeat first | (with_reducible first | exact HB.out | apply vA | apply vN | apply vD | refine vS ?_ GE977.out | refine vS ?_ GE978.out | refine vS ?_ GE979.out) | exact HB.out⟩⟩
   ·replace c10 := Bool.eq_false_iff.mpr c10
    subst c10
    rw [if_neg (show ¬ (false = true) by decide)] at H
    have H' := Aside0.mk H
    clear H
    have hnb34 := NB977_978.out
    have hnc34 := NB978_977.out
    have hnb35 := NB977_979.out
    have hnc35 := NB979_977.out
    obtain ⟨hcz36_0, hcz36_1, hcz36_2, hcz36_3, hfz36_0, hfz36_1, hfz36_2, hfz36_3⟩ := zc4 BK977
    go_wp2_with (first | ((with_reducible refine gate_callee (f := 57) rfl ?_); refine goesL_ (some 6) rfl rfl Try.func57 (by kernel_rfl) rfl #[.agg #[.int .i64 a0_0, .int .i64 a0_1, .int .i64 a0_2, .int .i64 a0_3]] rfl (by (try simp only [List.map_toArray, List.map_cons, List.map_nil]); first | done | rfl | (simp only [List.length_drop, List.length_take]; rfl)) ?_; (with_reducible refine (spec_l2Ok.calls a0_0 a0_1 a0_2 a0_3 true _ A7.out).mono ?_); rintro e w37 ⟨rfl, hb⟩; refine ⟨_, rfl, ?_⟩; have n0_ := zb BK977 hb rfl; have n1_ := zb BK978 hb rfl; have n2_ := zb BK979 hb rfl; have n3_ := Aside0.mk (below_step (by repeat first | (with_reducible first | exact HB.out | apply vA | apply vN | apply vD | refine vS ?_ GE977.out | refine vS ?_ GE978.out | refine vS ?_ GE979.out) | exact HB.out) hb); clear BK977; clear BK978; clear BK979; clear HB; have BK977 := n0_; have BK978 := n1_; have BK979 := n2_; have HB := n3_; clear n0_ n1_ n2_ n3_; (try clear hb); (try clear hb2); (try clear hk); (try clear hi); have hnb38 := NB978_979.out; have hnc38 := NB979_978.out; obtain ⟨hcz39_0, hcz39_1, hcz39_2, hcz39_3, hfz39_0, hfz39_1, hfz39_2, hfz39_3⟩ := zc4 BK978) | (go_at_call 57; (with_reducible refine (spec_l2Ok.calls a1_0 a1_1 a1_2 a1_3 false _ A9.out).mono ?_); rintro e w40 ⟨rfl, hb⟩; have n0_ := zb BK977 hb rfl; have n1_ := zb BK978 hb rfl; have n2_ := zb BK979 hb rfl; have n3_ := Aside0.mk (below_step (by repeat first | (with_reducible first | exact HB.out | apply vA | apply vN | apply vD | refine vS ?_ GE977.out | refine vS ?_ GE978.out | refine vS ?_ GE979.out) | exact HB.out) hb); clear BK977; clear BK978; clear BK979; clear HB; have BK977 := n0_; have BK978 := n1_; have BK979 := n2_; have HB := n3_; clear n0_ n1_ n2_ n3_; (try clear hb); (try clear hb2); (try clear hk); (try clear hi)))
    go_meet
    case rel => exact ⟨_, (true), (by first | rfl | (simp; done) | (simp [*]; done)), H', ⟨by first | omega | exact Nat.le_refl _⟩, ⟨by (with_reducible repeat first | apply bN | apply bD | apply bA); exact BK977.out⟩, ⟨by (with_reducible repeat first | apply bN | apply bD | apply bA); exact BK978.out⟩, ⟨by (with_reducible repeat first | apply bN | apply bD | apply bA); exact BK979.out⟩, ⟨by repeat first | (with_reducible first | exact HB.out | apply vA | apply vN | apply vD | refine vS ?_ GE977.out | refine vS ?_ GE978.out | refine vS ?_ GE979.out) | exact HB.out⟩⟩
  ·replace c8 := Bool.eq_false_iff.mpr c8
   subst c8
   rw [if_neg (show ¬ (false = true) by decide)] at H
   have H' := Aside0.mk H
   clear H
   have hnb41 := NB977_978.out
   have hnc41 := NB978_977.out
   have hnb42 := NB977_979.out
   have hnc42 := NB979_977.out
   obtain ⟨hcz43_0, hcz43_1, hcz43_2, hcz43_3, hfz43_0, hfz43_1, hfz43_2, hfz43_3⟩ := zc4 BK977
   go_wp2_with (first | ((with_reducible refine gate_callee (f := 57) rfl ?_); refine goesL_ (some 6) rfl rfl Try.func57 (by kernel_rfl) rfl #[.agg #[.int .i64 a0_0, .int .i64 a0_1, .int .i64 a0_2, .int .i64 a0_3]] rfl (by (try simp only [List.map_toArray, List.map_cons, List.map_nil]); first | done | rfl | (simp only [List.length_drop, List.length_take]; rfl)) ?_; (with_reducible refine (spec_l2Ok.calls a0_0 a0_1 a0_2 a0_3 false _ A7.out).mono ?_); rintro e w44 ⟨rfl, hb⟩; refine ⟨_, rfl, ?_⟩; have n0_ := zb BK977 hb rfl; have n1_ := zb BK978 hb rfl; have n2_ := zb BK979 hb rfl; have n3_ := Aside0.mk (below_step (by repeat first | (with_reducible first | exact HB.out | apply vA | apply vN | apply vD | refine vS ?_ GE977.out | refine vS ?_ GE978.out | refine vS ?_ GE979.out) | exact HB.out) hb); clear BK977; clear BK978; clear BK979; clear HB; have BK977 := n0_; have BK978 := n1_; have BK979 := n2_; have HB := n3_; clear n0_ n1_ n2_ n3_; (try clear hb); (try clear hb2); (try clear hk); (try clear hi)))
   go_meet
   case rel => exact ⟨_, (true), (by first | rfl | (simp; done) | (simp [*]; done)), H', ⟨by first | omega | exact Nat.le_refl _⟩, ⟨by (with_reducible repeat first | apply bN | apply bD | apply bA); exact BK977.out⟩, ⟨by (with_reducible repeat first | apply bN | apply bD | apply bA); exact BK978.out⟩, ⟨by (with_reducible repeat first | apply bN | apply bD | apply bA); exact BK979.out⟩, ⟨by repeat first | (with_reducible first | exact HB.out | apply vA | apply vN | apply vD | refine vS ?_ GE977.out | refine vS ?_ GE978.out | refine vS ?_ GE979.out) | exact HB.out⟩⟩
 case rest =>
  clear HC3
  try clear c1
  try clear c2
  try clear p2
  try clear c3
  try clear c4
  try clear c5
  try clear c8
  try clear c10
  try clear c12
  try clear c14
  try clear c15
  try clear c18
  try clear c25
  try clear c26
  try clear c29
  try clear c34
  try clear c35
  try clear c38
  try clear c41
  try clear c42
  try clear hcz16_0
  try clear hcz16_1
  try clear hcz16_2
  try clear hcz16_3
  try clear hcz19_0
  try clear hcz19_1
  try clear hcz19_2
  try clear hcz19_3
  try clear hcz21_0
  try clear hcz21_1
  try clear hcz21_2
  try clear hcz21_3
  try clear hcz23_0
  try clear hcz23_1
  try clear hcz23_2
  try clear hcz23_3
  try clear hcz27_0
  try clear hcz27_1
  try clear hcz27_2
  try clear hcz27_3
  try clear hcz30_0
  try clear hcz30_1
  try clear hcz30_2
  try clear hcz30_3
  try clear hcz32_0
  try clear hcz32_1
  try clear hcz32_2
  try clear hcz32_3
  try clear hcz36_0
  try clear hcz36_1
  try clear hcz36_2
  try clear hcz36_3
  try clear hcz39_0
  try clear hcz39_1
  try clear hcz39_2
  try clear hcz39_3
  try clear hcz43_0
  try clear hcz43_1
  try clear hcz43_2
  try clear hcz43_3
  try clear hfz16_0
  try clear hfz16_1
  try clear hfz16_2
  try clear hfz16_3
  try clear hfz19_0
  try clear hfz19_1
  try clear hfz19_2
  try clear hfz19_3
  try clear hfz21_0
  try clear hfz21_1
  try clear hfz21_2
  try clear hfz21_3
  try clear hfz23_0
  try clear hfz23_1
  try clear hfz23_2
  try clear hfz23_3
  try clear hfz27_0
  try clear hfz27_1
  try clear hfz27_2
  try clear hfz27_3
  try clear hfz30_0
  try clear hfz30_1
  try clear hfz30_2
  try clear hfz30_3
  try clear hfz32_0
  try clear hfz32_1
  try clear hfz32_2
  try clear hfz32_3
  try clear hfz36_0
  try clear hfz36_1
  try clear hfz36_2
  try clear hfz36_3
  try clear hfz39_0
  try clear hfz39_1
  try clear hfz39_2
  try clear hfz39_3
  try clear hfz43_0
  try clear hfz43_1
  try clear hfz43_2
  try clear hfz43_3
  obtain ⟨kq, x22_2, rfl, HA, HJ2, BK977, BK978, BK979, HB⟩ := hcut
  cases kq with
  | zero => exact absurd HA.out (by simp [spec_RangeJoin.j0])
  | succ kj2 =>
   have H := HA.out
   clear HA
   simp only [spec_RangeJoin.j0] at H
   by_cases c45 : x22_2 = true
   ·subst c45
    rw [if_pos rfl] at H
    simp only [Option.some.injEq, Prod.mk.injEq] at H
    obtain ⟨rfl, rfl, rfl, rfl⟩ := H
    have hnb46 := NB979_977.out
    have hnc46 := NB977_979.out
    have hnb47 := NB979_978.out
    have hnc47 := NB978_979.out
    obtain ⟨hcz48_0, hcz48_1, hcz48_2, hcz48_3, hfz48_0, hfz48_1, hfz48_2, hfz48_3⟩ := zc4 BK979
    go_wp2
    refine bodyPost_ret (results_cell_row rfl _ _ gb979 24 #[.int .i64 1, .int .i64 0, .int .i64 0, .int .i64 0] (0, 0) _ rfl (by (with_reducible repeat first | apply bN | apply bD | apply bA); refine blk_put (cs := #[.int .i64 1, .int .i64 0, .int .i64 0, .int .i64 0]) ?_ 3 _ rfl; (with_reducible repeat first | apply bN | apply bD | apply bA); refine blk_put (cs := #[.int .i64 1, .int .i64 0, .int .i64 0, .int .i64 0]) ?_ 2 _ rfl; (with_reducible repeat first | apply bN | apply bD | apply bA); refine blk_put (cs := #[.int .i64 1, .int .i64 0, .int .i64 0, .int .i64 0]) ?_ 1 _ rfl; (with_reducible repeat first | apply bN | apply bD | apply bA); refine blk_put (cs := #[.int .i64 0, .int .i64 0, .int .i64 0, .int .i64 0]) ?_ 0 _ rfl; (with_reducible repeat first | apply bN | apply bD | apply bA); exact BK979.out) Try.underlying24 rfl (by kernel_rfl)) rfl ?_
    exact ⟨by first | rfl | (simp [errW_none, errW_some] <;> rfl) | (simp [*, errW_none, errW_some] <;> rfl), by repeat first | (with_reducible first | exact HB.out | apply vA | apply vN | apply vD | refine vS ?_ GE977.out | refine vS ?_ GE978.out | refine vS ?_ GE979.out) | exact HB.out⟩
   ·replace c45 := Bool.eq_false_iff.mpr c45
    subst c45
    rw [if_neg (show ¬ (false = true) by decide)] at H
    replace H := Option.bind_eq_some_iff.mp H
    obtain ⟨⟨t984, t985, t986, t987⟩, A490, H⟩ := H
    try dsimp only at H
    have A49 := Aside0.mk A490
    clear A490
    simp only [Option.some.injEq, Prod.mk.injEq] at H
    obtain ⟨rfl, rfl, rfl, rfl⟩ := H
    have hnb50 := NB977_978.out
    have hnc50 := NB978_977.out
    have hnb51 := NB977_979.out
    have hnc51 := NB979_977.out
    obtain ⟨hcz52_0, hcz52_1, hcz52_2, hcz52_3, hfz52_0, hfz52_1, hfz52_2, hfz52_3⟩ := zc4 BK977
    have hnb53 := NB978_979.out
    have hnc53 := NB979_978.out
    obtain ⟨hcz54_0, hcz54_1, hcz54_2, hcz54_3, hfz54_0, hfz54_1, hfz54_2, hfz54_3⟩ := zc4 BK978
    go_wp2_with (first | ((with_reducible refine gate_callee (f := 80) rfl ?_); refine goesL_ (some 26) rfl rfl Try.func80 (by kernel_rfl) rfl #[.agg #[.int .i64 a0_0, .int .i64 a0_1, .int .i64 a0_2, .int .i64 a0_3], .agg #[.int .i64 a1_0, .int .i64 a1_1, .int .i64 a1_2, .int .i64 a1_3]] rfl (by (try simp only [List.map_toArray, List.map_cons, List.map_nil]); first | done | rfl | (simp only [List.length_drop, List.length_take]; rfl)) ?_; (with_reducible refine (spec_l2Join.calls kj2 a0_0 a0_1 a0_2 a0_3 a1_0 a1_1 a1_2 a1_3 t984 t985 t986 t987 _ A49.out).mono ?_); rintro e w55 ⟨rfl, hb⟩; refine ⟨_, rfl, ?_⟩; have n0_ := zb BK977 hb rfl; have n1_ := zb BK978 hb rfl; have n2_ := zb BK979 hb rfl; have n3_ := Aside0.mk (below_step (by repeat first | (with_reducible first | exact HB.out | apply vA | apply vN | apply vD | refine vS ?_ GE977.out | refine vS ?_ GE978.out | refine vS ?_ GE979.out) | exact HB.out) hb); clear BK977; clear BK978; clear BK979; clear HB; have BK977 := n0_; have BK978 := n1_; have BK979 := n2_; have HB := n3_; clear n0_ n1_ n2_ n3_; (try clear hb); (try clear hb2); (try clear hk); (try clear hi); obtain ⟨hcz56_0, hcz56_1, hcz56_2, hcz56_3, hfz56_0, hfz56_1, hfz56_2, hfz56_3⟩ := zc4 BK979))
    refine bodyPost_ret (results_cell_row rfl _ _ gb979 24 #[.int .i64 t984, .int .i64 t985, .int .i64 t986, .int .i64 t987] (0, 0) _ rfl (by (with_reducible repeat first | apply bN | apply bD | apply bA); refine blk_put (cs := #[.int .i64 t984, .int .i64 t985, .int .i64 t986, .int .i64 0]) ?_ 3 _ rfl; (with_reducible repeat first | apply bN | apply bD | apply bA); refine blk_put (cs := #[.int .i64 t984, .int .i64 t985, .int .i64 0, .int .i64 0]) ?_ 2 _ rfl; (with_reducible repeat first | apply bN | apply bD | apply bA); refine blk_put (cs := #[.int .i64 t984, .int .i64 0, .int .i64 0, .int .i64 0]) ?_ 1 _ rfl; (with_reducible repeat first | apply bN | apply bD | apply bA); refine blk_put (cs := #[.int .i64 0, .int .i64 0, .int .i64 0, .int .i64 0]) ?_ 0 _ rfl; (with_reducible repeat first | apply bN | apply bD | apply bA); exact BK979.out) Try.underlying24 rfl (by kernel_rfl)) rfl ?_
    exact ⟨by first | rfl | (simp [errW_none, errW_some] <;> rfl) | (simp [*, errW_none, errW_some] <;> rfl), by repeat first | (with_reducible first | exact HB.out | apply vA | apply vN | apply vD | refine vS ?_ GE977.out | refine vS ?_ GE978.out | refine vS ?_ GE979.out) | exact HB.out⟩

end Go.Proofs.Ytabencccbmjnbaa.Q
