/- The machine's side of this seat's laws: Go functions as Lean functions, and their contracts. By a program of this work over the kit's print. -/
import Derived.Test.YtcobkligpdaanaaQ0
import Derived.Test.YtcobkligpdaanaaQ3
import Derived.Test.YtcobkligpdaanaaQ46
import Derived.Test.YtcobkligpdaanaaQ47
import Derived.Test.YtcobkligpdaanaaQ49
import Derived.Test.YtcobkligpdaanaaQ50
import Derived.Test.YtcobkligpdaanaaQ52
import Derived.Test.YtcobkligpdaanaaQ53
namespace Go.Proofs.Ytcobkligpdaanaa.Q
open Go.RowKit Go.Proofs.YtcobkligpdaanaaW.PrintWords Go.Proofs.YtcobkligpdaanaaW.PrintLast Go.Proofs.YtcobkligpdaanaaW.PrintMore
attribute [local go_sem] max2_int min2_int max_two min_two max_three min_three max_four min_four Go.Proofs.YtcobkligpdaanaaN.not_i64 Go.Proofs.YtcobkligpdaanaaN.isSome_setCell   -- for this text's walks alone
set_option linter.unusedVariables false
set_option linter.unusedSimpArgs false

/-! ### spec_DrawTableLook: function 44 -/
def spec_DrawTableLook.f (k : Nat) (l0 : List Int) : Option (Int × Int × Int × List Int × List ByteArray × Int) := (spec_l20Open.f l0).bind fun bt1539 => ((spec_l20AnyTable.f k bt1539.1 bt1539.2).bind fun bt1542 => ((spec_l20Key.f k bt1539.1 bt1542.2.2.2.2.2).bind fun bt1553 => (some (bt1542.1, bt1542.2.1, bt1542.2.2.1, bt1542.2.2.2.1, bt1542.2.2.2.2.1, bt1553.1))))

set_option maxHeartbeats 8000000 in
set_option maxRecDepth 100000 in
theorem spec_DrawTableLook.calls (k : Nat) (A0 : Option Addr) (c0 : Nat) (l0 : List Int) (r1 : Int) (r2 : Int) (r3 : Int) (r4 : List Int) (r5 : List ByteArray) (r6 : Int) (w : World) (hr0 : Kd.C (Kd.int .u8) w A0 l0.length l0) (hc0 : l0.length ≤ c0) (h : spec_DrawTableLook.f k l0 = some (r1, r2, r3, r4, r5, r6)) :
  Calls Try.prog 44 #[.slice A0 l0.length c0] w fun e w' => ∃ v3_ v4_ : Value, e = .returned (.tuple #[.agg #[.int .i64 r1, .int .i64 r2, .int .i64 r3, v3_, v4_], .int .i64 r6]) ∧ Kd.R (Kd.int .i64) 3 w' w.heap.size (fun _ => True) v3_ r4 ∧ Kd.R Kd.string 9 w' w.heap.size (fun _ => True) v4_ r5 ∧ Below w.heap.size w w' := by
 have hu60 := Try.underlying60
 have HR0 := Aside0.mk hr0
 have HC0 := Aside0.mk hc0
 clear hr0 hc0
 have HB := Aside0.mk (Below.refl w.heap.size w)
 have H : ((spec_l20Open.f l0).bind fun bt1539 => ((spec_l20AnyTable.f k bt1539.1 bt1539.2).bind fun bt1542 => ((spec_l20Key.f k bt1539.1 bt1542.2.2.2.2.2).bind fun bt1553 => (some (bt1542.1, bt1542.2.1, bt1542.2.2.1, bt1542.2.2.2.1, bt1542.2.2.2.2.1, bt1553.1))))) = some (r1, r2, r3, r4, r5, r6) := h
 clear h
 replace H := Option.bind_eq_some_iff.mp H
 obtain ⟨⟨t1539, t1540⟩, A20, H⟩ := H
 try dsimp only at H
 have A2 := Aside0.mk A20
 clear A20
 replace H := Option.bind_eq_some_iff.mp H
 obtain ⟨⟨t1542, t1543, t1544, t1545, t1548, t1551⟩, A30, H⟩ := H
 try dsimp only at H
 have A3 := Aside0.mk A30
 clear A30
 replace H := Option.bind_eq_some_iff.mp H
 obtain ⟨⟨t1553, t1554⟩, A40, H⟩ := H
 try dsimp only at H
 have A4 := Aside0.mk A40
 clear A40
 simp only [Option.some.injEq, Prod.mk.injEq] at H
 obtain ⟨rfl, rfl, rfl, rfl, rfl, rfl⟩ := H
 go_enter Try.func44, Try.ntmps44
 try go_wp2_with (first | ((with_reducible refine gate_dst (N := 2) rfl ?_); refine box_event ?hg (N := 2) ?hd (cs := #[.int .i64 0, .int .i64 0, .int .i64 0, .slice none 0 0, .slice none 0 0]) (t := 60) ?hr ?_; (case hd => rfl); (case hg => rfl); (case hr => first | (go_simp; done) | (go_simp; rfl)); intro gb1538 hg w5 hbox hb; have n0_ := Aside0.mk (below_step (by repeat first | (with_reducible first | exact HB.out | apply vA | apply vN | apply vD) | exact HB.out) hb); have n1_ := Aside0.mk (hbox); have n2_ := Aside0.mk ((by rw [hg]; exact (below_size (by repeat first | (with_reducible first | exact HB.out | apply vA | apply vN | apply vD) | exact HB.out)) : w.heap.size ≤ gb1538)); have n3_ := n2_; clear HB; have HB := n0_; have BK1538 := n1_; have GW1538 := n2_; have GE1538 := n3_; clear n0_ n1_ n2_ n3_; clear hb hbox hg) | ((with_reducible refine gate_callee (f := 52) rfl ?_); refine goesL_ (some 7) rfl rfl Try.func52 (by kernel_rfl) rfl #[.slice A0 l0.length c0] rfl (by (try simp only [List.map_toArray, List.map_cons, List.map_nil]); first | done | rfl | (simp only [List.length_drop, List.length_take]; rfl)) ?_; (with_reducible refine (spec_l20Open.calls _ _ l0 t1539 t1540 w _ ?side1 ?side2 ?side3 A2.out).mono ?_); (case side1 => repeat (first | (with_reducible first | exact HB.out | apply below_alloc | apply pw_below_drewN | apply below_drew1 | refine below_set ?_ GE1538.out) | exact HB.out)); (case side2 => exact HR0.out); (case side3 => exact HC0.out); rintro e w6 ⟨g1541, rfl, hi, hb, hb2⟩; refine ⟨_, rfl, ?_⟩; have n0_ := Aside0.mk (blk_below (g := gb1538) (o := .cells #[.int .i64 0, .int .i64 0, .int .i64 0, .slice none 0 0, .slice none 0 0] 60 (0, 0)) (by (with_reducible repeat first | apply bN | apply bD | apply bA); exact BK1538.out) hb2); have n1_ := Aside0.mk (hb); have n2_ := Aside0.mk (hi); have n3_ := Aside0.mk (IsS101.ne_blk hi (blk_below (g := gb1538) (o := .cells #[.int .i64 0, .int .i64 0, .int .i64 0, .slice none 0 0, .slice none 0 0] 60 (0, 0)) (by (with_reducible repeat first | apply bN | apply bD | apply bA); exact BK1538.out) hb2) (by decide)); have n4_ := Aside0.mk (Ne.symm (IsS101.ne_blk hi (blk_below (g := gb1538) (o := .cells #[.int .i64 0, .int .i64 0, .int .i64 0, .slice none 0 0, .slice none 0 0] 60 (0, 0)) (by (with_reducible repeat first | apply bN | apply bD | apply bA); exact BK1538.out) hb2) (by decide))); clear BK1538; clear HB; have BK1538 := n0_; have HB := n1_; have HI1541 := n2_; have NB1541_1538 := n3_; have NB1538_1541 := n4_; clear n0_ n1_ n2_ n3_ n4_; (try clear hb); (try clear hb2); (try clear hk); (try clear hi)) | ((with_reducible refine gate_callee (f := 89) rfl ?_); refine goesL_ (some 9) rfl rfl Try.func89 (by kernel_rfl) rfl #[.pointer (some ⟨g1541, 0, none⟩)] rfl (by (try simp only [List.map_toArray, List.map_cons, List.map_nil]); first | done | rfl | (simp only [List.length_drop, List.length_take]; rfl)) ?_; (with_reducible refine (spec_l20AnyTable.calls k g1541 t1539 t1540 t1542 t1543 t1544 t1545 t1548 t1551 w _ ?side1 ?side2 A3.out).mono ?_); (case side1 => repeat (first | (with_reducible first | exact HI1541.out | apply IsS101.alloc | apply IsS101.drewN | apply IsS101.drew | apply IsS101.set_1 | refine IsS101.far ?_ NB1541_1538.out _) | exact HI1541.out)); (case side2 => repeat (first | (with_reducible first | exact HB.out | apply below_alloc | apply pw_below_drewN | apply below_drew1 | refine below_set ?_ (IsS101.ge HI1541.out) | refine below_set ?_ GE1538.out) | exact HB.out)); rintro e w7 ⟨v1546, v1549, rfl, ho0, ho1, hi, hb, hk⟩; refine ⟨_, rfl, ?_⟩; have n0_ := Aside0.mk (KeepBut.blk hk (g' := gb1538) (o := .cells #[.int .i64 0, .int .i64 0, .int .i64 0, .slice none 0 0, .slice none 0 0] 60 (0, 0)) (by (with_reducible repeat first | apply bN | apply bD | apply bA); exact BK1538.out) NB1538_1541.out (by simp)); have n1_ := Aside0.mk (Kd.R_lower ho0 (below_size (by repeat (first | (with_reducible first | exact HB.out | apply below_alloc | apply pw_below_drewN | apply below_drew1 | refine below_set ?_ (IsS101.ge HI1541.out) | refine below_set ?_ GE1538.out) | exact HB.out)))); have n2_ := Aside0.mk (Kd.R_lower ho1 (below_size (by repeat (first | (with_reducible first | exact HB.out | apply below_alloc | apply pw_below_drewN | apply below_drew1 | refine below_set ?_ (IsS101.ge HI1541.out) | refine below_set ?_ GE1538.out) | exact HB.out)))); have n3_ := Aside0.mk (hb); have n4_ := Aside0.mk (hi); clear BK1538; clear HB; clear HI1541; have BK1538 := n0_; have HO1547 := n1_; have HO1550 := n2_; have HB := n3_; have HI1541 := n4_; clear n0_ n1_ n2_ n3_ n4_; (try clear hb); (try clear hb2); (try clear hk); (try clear hi); (try clear ho0); (try clear ho1)) | ((with_reducible refine gate_dst (N := 5) rfl ?_); refine box_event ?hg (N := 5) ?hd (cs := #[.int .i64 0, .int .i64 0, .int .i64 0, .slice none 0 0, .slice none 0 0]) (t := 60) ?hr ?_; (case hd => rfl); (case hg => rfl); (case hr => first | (go_simp; done) | (go_simp; rfl)); intro gb1552 hg w8 hbox hb; have n0_ := Aside0.mk (Kd.R_below (by (with_reducible repeat (first | apply Kd.R_alloc | apply Kd.R_drewN | apply Kd.R_drew)); exact HO1547.out) hb); have n1_ := Aside0.mk (Kd.R_below (by (with_reducible repeat (first | apply Kd.R_alloc | apply Kd.R_drewN | apply Kd.R_drew)); exact HO1550.out) hb); have n2_ := zb BK1538 hb rfl; have n3_ := Aside0.mk (IsS101.below (by repeat (first | (with_reducible first | exact HI1541.out | apply IsS101.alloc | apply IsS101.drewN | apply IsS101.drew | apply IsS101.set_1 | refine IsS101.far ?_ NB1541_1538.out _) | exact HI1541.out)) hb); have n4_ := Aside0.mk (below_step (by repeat (first | (with_reducible first | exact HB.out | apply below_alloc | apply pw_below_drewN | apply below_drew1 | refine below_set ?_ (IsS101.ge HI1541.out) | refine below_set ?_ GE1538.out) | exact HB.out)) hb); have n5_ := Aside0.mk (hbox); have n6_ := Aside0.mk ((by rw [hg]; exact (below_size (by repeat (first | (with_reducible first | exact HB.out | apply below_alloc | apply pw_below_drewN | apply below_drew1 | refine below_set ?_ (IsS101.ge HI1541.out) | refine below_set ?_ GE1538.out) | exact HB.out))) : w.heap.size ≤ gb1552)); have n7_ := n6_; have n8_ := zl BK1538 hg rfl; have n9_ := zg BK1538 hg rfl; have n10_ := Aside0.mk ((by rw [hg]; exact Nat.ne_of_lt (IsS101.lt (show IsS101 w _ g1541 t1539 t1551 from by repeat (first | (with_reducible first | exact HI1541.out | apply IsS101.alloc | apply IsS101.drewN | apply IsS101.drew | apply IsS101.set_1 | refine IsS101.far ?_ NB1541_1538.out _) | exact HI1541.out))) : g1541 ≠ gb1552)); have n11_ := Aside0.mk ((by rw [hg]; exact Nat.ne_of_gt (IsS101.lt (show IsS101 w _ g1541 t1539 t1551 from by repeat (first | (with_reducible first | exact HI1541.out | apply IsS101.alloc | apply IsS101.drewN | apply IsS101.drew | apply IsS101.set_1 | refine IsS101.far ?_ NB1541_1538.out _) | exact HI1541.out))) : gb1552 ≠ g1541)); clear HO1547; clear HO1550; clear BK1538; clear HI1541; clear HB; have HO1547 := n0_; have HO1550 := n1_; have BK1538 := n2_; have HI1541 := n3_; have HB := n4_; have BK1552 := n5_; have GW1552 := n6_; have GE1552 := n7_; have NB1538_1552 := n8_; have NB1552_1538 := n9_; have NB1541_1552 := n10_; have NB1552_1541 := n11_; clear n0_ n1_ n2_ n3_ n4_ n5_ n6_ n7_ n8_ n9_ n10_ n11_; clear hb hbox hg; have hnb9 := NB1552_1538.out; have hnc9 := NB1538_1552.out; have hnb10 := NB1552_1541.out; have hnc10 := NB1541_1552.out; obtain ⟨hcz11_0, hcz11_1, hcz11_2, hcz11_3, hcz11_4, hfz11_0, hfz11_1, hfz11_2, hfz11_3, hfz11_4⟩ := zc5 BK1552; obtain ⟨Ao12, co12, eo12⟩ := Kd.R_slice HO1547.out; subst eo12; obtain ⟨Ao13, co13, eo13⟩ := Kd.R_slice HO1550.out; subst eo13))
 have n0_ : Aside0 (Kd.R (Kd.int .i64) 3 (((((w8.setCell ⟨gb1552, 0, none⟩ (.int .i64 t1542)).setCell ⟨gb1552, 1, none⟩ (.int .i64 t1543)).setCell ⟨gb1552, 2, none⟩ (.int .i64 t1544)).setCell ⟨gb1552, 3, none⟩ (.slice Ao12 t1545.length co12)).setCell ⟨gb1552, 4, none⟩ (.slice Ao13 t1548.length co13)) w.heap.size (fun _ => True) (.slice Ao12 t1545.length co12) t1545) := ⟨by (with_reducible repeat (first | apply Kd.R_alloc | apply Kd.R_drewN | apply Kd.R_drew)); exact Kd.R_mono (Kd.R_far (p := ⟨gb1552, 4, none⟩) (Kd.R_far (p := ⟨gb1552, 3, none⟩) (Kd.R_far (p := ⟨gb1552, 2, none⟩) (Kd.R_far (p := ⟨gb1552, 1, none⟩) (Kd.R_far (p := ⟨gb1552, 0, none⟩) (Kd.R_types HO1547.out BK1552.out (by decide)) (fun _ hk => hk.2) (.int .i64 t1542)) (fun _ hk => hk.2) (.int .i64 t1543)) (fun _ hk => hk.2) (.int .i64 t1544)) (fun _ hk => hk.2) (.slice Ao12 t1545.length co12)) (fun _ hk => hk.2) (.slice Ao13 t1548.length co13)) (fun _ hk => trivial)⟩
 have n1_ : Aside0 (Kd.R Kd.string 9 (((((w8.setCell ⟨gb1552, 0, none⟩ (.int .i64 t1542)).setCell ⟨gb1552, 1, none⟩ (.int .i64 t1543)).setCell ⟨gb1552, 2, none⟩ (.int .i64 t1544)).setCell ⟨gb1552, 3, none⟩ (.slice Ao12 t1545.length co12)).setCell ⟨gb1552, 4, none⟩ (.slice Ao13 t1548.length co13)) w.heap.size (fun _ => True) (.slice Ao13 t1548.length co13) t1548) := ⟨by (with_reducible repeat (first | apply Kd.R_alloc | apply Kd.R_drewN | apply Kd.R_drew)); exact Kd.R_mono (Kd.R_far (p := ⟨gb1552, 4, none⟩) (Kd.R_far (p := ⟨gb1552, 3, none⟩) (Kd.R_far (p := ⟨gb1552, 2, none⟩) (Kd.R_far (p := ⟨gb1552, 1, none⟩) (Kd.R_far (p := ⟨gb1552, 0, none⟩) (Kd.R_types HO1550.out BK1552.out (by decide)) (fun _ hk => hk.2) (.int .i64 t1542)) (fun _ hk => hk.2) (.int .i64 t1543)) (fun _ hk => hk.2) (.int .i64 t1544)) (fun _ hk => hk.2) (.slice Ao12 t1545.length co12)) (fun _ hk => hk.2) (.slice Ao13 t1548.length co13)) (fun _ hk => trivial)⟩
 have n2_ : Aside0 ((((((w8.setCell ⟨gb1552, 0, none⟩ (.int .i64 t1542)).setCell ⟨gb1552, 1, none⟩ (.int .i64 t1543)).setCell ⟨gb1552, 2, none⟩ (.int .i64 t1544)).setCell ⟨gb1552, 3, none⟩ (.slice Ao12 t1545.length co12)).setCell ⟨gb1552, 4, none⟩ (.slice Ao13 t1548.length co13)).heap[gb1538]? = some (.cells #[.int .i64 0, .int .i64 0, .int .i64 0, .slice none 0 0, .slice none 0 0] 60 (0, 0))) := ⟨by (with_reducible repeat first | apply bN | apply bD | apply bA); refine blk_far ?_ NB1538_1552.out _; (with_reducible repeat first | apply bN | apply bD | apply bA); refine blk_far ?_ NB1538_1552.out _; (with_reducible repeat first | apply bN | apply bD | apply bA); refine blk_far ?_ NB1538_1552.out _; (with_reducible repeat first | apply bN | apply bD | apply bA); refine blk_far ?_ NB1538_1552.out _; (with_reducible repeat first | apply bN | apply bD | apply bA); refine blk_far ?_ NB1538_1552.out _; (with_reducible repeat first | apply bN | apply bD | apply bA); exact BK1538.out⟩
 have n3_ : Aside0 ((((((w8.setCell ⟨gb1552, 0, none⟩ (.int .i64 t1542)).setCell ⟨gb1552, 1, none⟩ (.int .i64 t1543)).setCell ⟨gb1552, 2, none⟩ (.int .i64 t1544)).setCell ⟨gb1552, 3, none⟩ (.slice Ao12 t1545.length co12)).setCell ⟨gb1552, 4, none⟩ (.slice Ao13 t1548.length co13)).heap[gb1552]? = some (.cells #[.int .i64 t1542, .int .i64 t1543, .int .i64 t1544, .slice Ao12 t1545.length co12, .slice Ao13 t1548.length co13] 60 (0, 0))) := ⟨by (with_reducible repeat first | apply bN | apply bD | apply bA); refine blk_put (cs := #[.int .i64 t1542, .int .i64 t1543, .int .i64 t1544, .slice Ao12 t1545.length co12, .slice none 0 0]) ?_ 4 _ rfl; (with_reducible repeat first | apply bN | apply bD | apply bA); refine blk_put (cs := #[.int .i64 t1542, .int .i64 t1543, .int .i64 t1544, .slice none 0 0, .slice none 0 0]) ?_ 3 _ rfl; (with_reducible repeat first | apply bN | apply bD | apply bA); refine blk_put (cs := #[.int .i64 t1542, .int .i64 t1543, .int .i64 0, .slice none 0 0, .slice none 0 0]) ?_ 2 _ rfl; (with_reducible repeat first | apply bN | apply bD | apply bA); refine blk_put (cs := #[.int .i64 t1542, .int .i64 0, .int .i64 0, .slice none 0 0, .slice none 0 0]) ?_ 1 _ rfl; (with_reducible repeat first | apply bN | apply bD | apply bA); refine blk_put (cs := #[.int .i64 0, .int .i64 0, .int .i64 0, .slice none 0 0, .slice none 0 0]) ?_ 0 _ rfl; (with_reducible repeat first | apply bN | apply bD | apply bA); exact BK1552.out⟩
 have n4_ : Aside0 (IsS101 w (((((w8.setCell ⟨gb1552, 0, none⟩ (.int .i64 t1542)).setCell ⟨gb1552, 1, none⟩ (.int .i64 t1543)).setCell ⟨gb1552, 2, none⟩ (.int .i64 t1544)).setCell ⟨gb1552, 3, none⟩ (.slice Ao12 t1545.length co12)).setCell ⟨gb1552, 4, none⟩ (.slice Ao13 t1548.length co13)) g1541 t1539 t1551) := ⟨by repeat (first | (with_reducible first | exact HI1541.out | apply IsS101.alloc | apply IsS101.drewN | apply IsS101.drew | apply IsS101.set_1 | refine IsS101.far ?_ NB1541_1538.out _ | refine IsS101.far ?_ NB1541_1552.out _) | exact HI1541.out)⟩
 have n5_ : Aside0 (Below w.heap.size w (((((w8.setCell ⟨gb1552, 0, none⟩ (.int .i64 t1542)).setCell ⟨gb1552, 1, none⟩ (.int .i64 t1543)).setCell ⟨gb1552, 2, none⟩ (.int .i64 t1544)).setCell ⟨gb1552, 3, none⟩ (.slice Ao12 t1545.length co12)).setCell ⟨gb1552, 4, none⟩ (.slice Ao13 t1548.length co13))) := ⟨by repeat (first | (with_reducible first | exact HB.out | apply below_alloc | apply pw_below_drewN | apply below_drew1 | refine below_set ?_ (IsS101.ge HI1541.out) | refine below_set ?_ GE1538.out | refine below_set ?_ GE1552.out) | exact HB.out)⟩
 (try clear HO1547)
 (try clear HO1550)
 (try clear BK1538)
 (try clear BK1552)
 (try clear HI1541)
 (try clear HB)
 generalize (((((w8.setCell ⟨gb1552, 0, none⟩ (.int .i64 t1542)).setCell ⟨gb1552, 1, none⟩ (.int .i64 t1543)).setCell ⟨gb1552, 2, none⟩ (.int .i64 t1544)).setCell ⟨gb1552, 3, none⟩ (.slice Ao12 t1545.length co12)).setCell ⟨gb1552, 4, none⟩ (.slice Ao13 t1548.length co13)) = w14 at n0_ n1_ n2_ n3_ n4_ n5_ ⊢
 have HO1547 := n0_
 have HO1550 := n1_
 have BK1538 := n2_
 have BK1552 := n3_
 have HI1541 := n4_
 have HB := n5_
 clear n0_ n1_ n2_ n3_ n4_ n5_
 have n0_ := Aside0.mk (Kd.R_drew HO1547.out)
 have n1_ := Aside0.mk (Kd.R_drew HO1550.out)
 have n2_ := Aside0.mk (blk_drew BK1538.out)
 have n3_ := Aside0.mk (blk_drew BK1552.out)
 have n4_ := Aside0.mk (IsS101.drew HI1541.out)
 have n5_ := Aside0.mk (below_drew1 HB.out)
 clear HO1547
 clear HO1550
 clear BK1538
 clear BK1552
 clear HI1541
 clear HB
 have HO1547 := n0_
 have HO1550 := n1_
 have BK1538 := n2_
 have BK1552 := n3_
 have HI1541 := n4_
 have HB := n5_
 clear n0_ n1_ n2_ n3_ n4_ n5_
 refine start_ (n := 5) (S := fun w' => w'.cell? ⟨gb1552, 0, none⟩ = some (.int .i64 t1542) ∧ w'.cell? ⟨gb1552, 1, none⟩ = some (.int .i64 t1543) ∧ w'.cell? ⟨gb1552, 2, none⟩ = some (.int .i64 t1544) ∧ w'.cell? ⟨gb1552, 3, none⟩ = some (.slice Ao12 t1545.length co12) ∧ w'.cell? ⟨gb1552, 4, none⟩ = some (.slice Ao13 t1548.length co13)) (ds := []) #[false, false, false, false, false] (by kernel_rfl) rfl rfl ⟨(blk_cell BK1552.out 0).trans rfl, (blk_cell BK1552.out 1).trans rfl, (blk_cell BK1552.out 2).trans rfl, (blk_cell BK1552.out 3).trans rfl, (blk_cell BK1552.out 4).trans rfl⟩ (fun hHeld => ?_)
 generalize w14.drew = w15 at HO1547 HO1550 BK1538 BK1552 HI1541 HB hHeld ⊢
 refine pure_ (i := 1) (N := some 11) (v := ?_) (a' := ?_) #[false, true, false, false, false] rfl rfl (by kernel_rfl) (fun _ _ _ h => h) (Or.inl ⟨by rfl, ?_⟩) ?_ ?_
 rotate_left
 ·intro w'
  go_simp
  with_reducible rfl
 rotate_left
 ·simp only [Act.put, List.setIfInBounds_toArray, List.set_cons_zero, List.set_cons_succ, i64_w, i32_w]
  rfl
 refine take_ (i := 0) (N := some 10) (v := ?_) (a' := ?_) #[true, true, false, false, false] rfl rfl (by kernel_rfl) (fun _ _ _ h => h) (Or.inl ⟨by rfl, ?_⟩) hHeld ?_ ?_
 rotate_left
 ·rintro w' ⟨s0, s1, s2, s3, s4⟩
  go_simp
  with_reducible rfl
 rotate_left
 ·simp only [Act.put, List.setIfInBounds_toArray, List.set_cons_zero, List.set_cons_succ, i64_w, i32_w]
  rfl
 refine one_ (i := 2) (N := some 12) #[true, true, true, false, false] rfl rfl (by kernel_rfl) (by decide) (fun K hK => ?_)
 refine goes_ Try.func90 (by kernel_rfl) rfl #[.pointer (some ⟨g1541, 0, none⟩)] (by rfl) rfl rfl (by (try simp only [List.map_toArray, List.map_cons, List.map_nil]); first | done | rfl | (simp only [List.length_drop, List.length_take]; rfl)) ?_
 with_reducible refine (spec_l20Key.calls k g1541 t1539 t1551 t1553 t1554 w _ ?side1 ?side2 A4.out).mono ?_
 (case side1 => repeat (first | (with_reducible first | exact HI1541.out | apply IsS101.alloc | apply IsS101.drewN | apply IsS101.drew | apply IsS101.set_1 | refine IsS101.far ?_ NB1541_1538.out _ | refine IsS101.far ?_ NB1541_1552.out _) | exact HI1541.out))
 (case side2 => repeat (first | (with_reducible first | exact HB.out | apply below_alloc | apply pw_below_drewN | apply below_drew1 | refine below_set ?_ (IsS101.ge HI1541.out) | refine below_set ?_ GE1538.out | refine below_set ?_ GE1552.out) | exact HB.out))
 rintro e w16 ⟨rfl, hi, hb, hk⟩
 refine ⟨_, rfl, ?_⟩
 have n0_ := Aside0.mk (KeepBut.blk hk (g' := gb1538) (o := .cells #[.int .i64 0, .int .i64 0, .int .i64 0, .slice none 0 0, .slice none 0 0] 60 (0, 0)) (by (with_reducible repeat first | apply bN | apply bD | apply bA); exact BK1538.out) NB1538_1541.out (by simp))
 have n1_ := Aside0.mk (Kd.R_mono (Kd.R_keep (IsS101.apart (show IsS101 w _ g1541 t1539 t1551 from by repeat (first | (with_reducible first | exact HI1541.out | apply IsS101.alloc | apply IsS101.drewN | apply IsS101.drew | apply IsS101.set_1 | refine IsS101.far ?_ NB1541_1538.out _ | refine IsS101.far ?_ NB1541_1552.out _) | exact HI1541.out)) (by (with_reducible repeat (first | apply Kd.R_alloc | apply Kd.R_drewN | apply Kd.R_drew)); exact HO1547.out) (by decide)) hk (fun _ h => h.2)) (fun _ h => h.1))
 have n2_ := Aside0.mk (Kd.R_mono (Kd.R_keep (IsS101.apart (show IsS101 w _ g1541 t1539 t1551 from by repeat (first | (with_reducible first | exact HI1541.out | apply IsS101.alloc | apply IsS101.drewN | apply IsS101.drew | apply IsS101.set_1 | refine IsS101.far ?_ NB1541_1538.out _ | refine IsS101.far ?_ NB1541_1552.out _) | exact HI1541.out)) (by (with_reducible repeat (first | apply Kd.R_alloc | apply Kd.R_drewN | apply Kd.R_drew)); exact HO1550.out) (by decide)) hk (fun _ h => h.2)) (fun _ h => h.1))
 have n3_ := Aside0.mk (KeepBut.blk hk (g' := gb1552) (o := .cells #[.int .i64 t1542, .int .i64 t1543, .int .i64 t1544, .slice Ao12 t1545.length co12, .slice Ao13 t1548.length co13] 60 (0, 0)) (by (with_reducible repeat first | apply bN | apply bD | apply bA); exact BK1552.out) NB1552_1541.out (by simp))
 have n4_ := Aside0.mk (hb)
 have n5_ := Aside0.mk (hi)
 clear BK1538
 clear HO1547
 clear HO1550
 clear BK1552
 clear HB
 clear HI1541
 have BK1538 := n0_
 have HO1547 := n1_
 have HO1550 := n2_
 have BK1552 := n3_
 have HB := n4_
 have HI1541 := n5_
 clear n0_ n1_ n2_ n3_ n4_ n5_
 (try clear hb)
 (try clear hb2)
 (try clear hk)
 (try clear hi)
 refine hK.out _ _ ⟨(blk_cell BK1552.out 0).trans rfl, (blk_cell BK1552.out 1).trans rfl, (blk_cell BK1552.out 2).trans rfl, (blk_cell BK1552.out 3).trans rfl, (blk_cell BK1552.out 4).trans rfl⟩ (fun hHeld => ?_)
 clear hK K
 refine norm_ (a' := ?_) ?_ ?_
 rotate_left
 ·show Act.put _ (some 12) _ = _
  simp only [Act.put, List.setIfInBounds_toArray, List.set_cons_zero, List.set_cons_succ, i64_w, i32_w]
  rfl
 refine one_ (i := 3) (N := none) #[true, true, true, true, false] rfl rfl (by kernel_rfl) (by decide) (fun K hK => ?_)
 have hs17 : w16.cell? ⟨gb1538, 0, none⟩ = some (.int .i64 0) := (blk_cell BK1538.out 0).trans rfl
 have hfs17 := blk_frozen BK1538.out 0
 have hns17_1 := NB1552_1538.out
 have hms17_1 := NB1538_1552.out
 have hs18 : w16.cell? ⟨gb1538, 1, none⟩ = some (.int .i64 0) := (blk_cell BK1538.out 1).trans rfl
 have hfs18 := blk_frozen BK1538.out 1
 have hns18_1 := NB1552_1538.out
 have hms18_1 := NB1538_1552.out
 have hs19 : w16.cell? ⟨gb1538, 2, none⟩ = some (.int .i64 0) := (blk_cell BK1538.out 2).trans rfl
 have hfs19 := blk_frozen BK1538.out 2
 have hns19_1 := NB1552_1538.out
 have hms19_1 := NB1538_1552.out
 have hs20 : w16.cell? ⟨gb1538, 3, none⟩ = some (.slice none 0 0) := (blk_cell BK1538.out 3).trans rfl
 have hfs20 := blk_frozen BK1538.out 3
 have hns20_1 := NB1552_1538.out
 have hms20_1 := NB1538_1552.out
 have hs21 : w16.cell? ⟨gb1538, 4, none⟩ = some (.slice none 0 0) := (blk_cell BK1538.out 4).trans rfl
 have hfs21 := blk_frozen BK1538.out 4
 have hns21_1 := NB1552_1538.out
 have hms21_1 := NB1538_1552.out
 refine skip_ (w1 := ?_) (by rfl) rfl ?_ ?_
 rotate_left
 ·go_simp
  rfl
 refine hK.out _ _ ⟨((cell_far (p := ⟨gb1538, _, none⟩) NB1552_1538.out _).trans (((cell_far (p := ⟨gb1538, _, none⟩) NB1552_1538.out _).trans (((cell_far (p := ⟨gb1538, _, none⟩) NB1552_1538.out _).trans (((cell_far (p := ⟨gb1538, _, none⟩) NB1552_1538.out _).trans (((cell_far (p := ⟨gb1538, _, none⟩) NB1552_1538.out _).trans (hHeld.1)))))))))), ((cell_far (p := ⟨gb1538, _, none⟩) NB1552_1538.out _).trans (((cell_far (p := ⟨gb1538, _, none⟩) NB1552_1538.out _).trans (((cell_far (p := ⟨gb1538, _, none⟩) NB1552_1538.out _).trans (((cell_far (p := ⟨gb1538, _, none⟩) NB1552_1538.out _).trans (((cell_far (p := ⟨gb1538, _, none⟩) NB1552_1538.out _).trans (hHeld.2.1)))))))))), ((cell_far (p := ⟨gb1538, _, none⟩) NB1552_1538.out _).trans (((cell_far (p := ⟨gb1538, _, none⟩) NB1552_1538.out _).trans (((cell_far (p := ⟨gb1538, _, none⟩) NB1552_1538.out _).trans (((cell_far (p := ⟨gb1538, _, none⟩) NB1552_1538.out _).trans (((cell_far (p := ⟨gb1538, _, none⟩) NB1552_1538.out _).trans (hHeld.2.2.1)))))))))), ((cell_far (p := ⟨gb1538, _, none⟩) NB1552_1538.out _).trans (((cell_far (p := ⟨gb1538, _, none⟩) NB1552_1538.out _).trans (((cell_far (p := ⟨gb1538, _, none⟩) NB1552_1538.out _).trans (((cell_far (p := ⟨gb1538, _, none⟩) NB1552_1538.out _).trans (((cell_far (p := ⟨gb1538, _, none⟩) NB1552_1538.out _).trans (hHeld.2.2.2.1)))))))))), ((cell_far (p := ⟨gb1538, _, none⟩) NB1552_1538.out _).trans (((cell_far (p := ⟨gb1538, _, none⟩) NB1552_1538.out _).trans (((cell_far (p := ⟨gb1538, _, none⟩) NB1552_1538.out _).trans (((cell_far (p := ⟨gb1538, _, none⟩) NB1552_1538.out _).trans (((cell_far (p := ⟨gb1538, _, none⟩) NB1552_1538.out _).trans (hHeld.2.2.2.2))))))))))⟩ (fun hHeld => ?_)
 clear hK K
 refine pure_ (i := 4) (N := some 3) (v := ?_) (a' := ?_) #[true, true, true, true, true] rfl rfl (by kernel_rfl) (fun _ _ _ h => h) (Or.inl ⟨by rfl, ?_⟩) ?_ ?_
 rotate_left
 ·intro w'
  go_simp
  with_reducible rfl
 rotate_left
 ·simp only [Act.put, List.setIfInBounds_toArray, List.set_cons_zero, List.set_cons_succ, i64_w, i32_w]
  rfl
 refine done_ (by kernel_rfl) ?_
 try go_wp2
 refine bodyPost_ret (results_ct rfl _ _ gb1538 60 #[.int .i64 t1542, .int .i64 t1543, .int .i64 t1544, .slice Ao12 t1545.length co12, .slice Ao13 t1548.length co13] (0, 0) _ rfl (by (with_reducible repeat first | apply bN | apply bD | apply bA); refine blk_put (cs := #[.int .i64 t1542, .int .i64 t1543, .int .i64 t1544, .slice Ao12 t1545.length co12, .slice none 0 0]) ?_ 4 _ rfl; (with_reducible repeat first | apply bN | apply bD | apply bA); refine blk_put (cs := #[.int .i64 t1542, .int .i64 t1543, .int .i64 t1544, .slice none 0 0, .slice none 0 0]) ?_ 3 _ rfl; (with_reducible repeat first | apply bN | apply bD | apply bA); refine blk_put (cs := #[.int .i64 t1542, .int .i64 t1543, .int .i64 0, .slice none 0 0, .slice none 0 0]) ?_ 2 _ rfl; (with_reducible repeat first | apply bN | apply bD | apply bA); refine blk_put (cs := #[.int .i64 t1542, .int .i64 0, .int .i64 0, .slice none 0 0, .slice none 0 0]) ?_ 1 _ rfl; (with_reducible repeat first | apply bN | apply bD | apply bA); refine blk_put (cs := #[.int .i64 0, .int .i64 0, .int .i64 0, .slice none 0 0, .slice none 0 0]) ?_ 0 _ rfl; (with_reducible repeat first | apply bN | apply bD | apply bA); exact BK1538.out) Try.underlying60 rfl (by kernel_rfl)) rfl ?_
 exact ⟨_, _, by first | rfl | (simp [errW_none, errW_some] <;> rfl) | (simp [*, errW_none, errW_some] <;> rfl), by (with_reducible repeat (first | apply Kd.R_alloc | apply Kd.R_drewN | apply Kd.R_drew)); exact Kd.R_mono (Kd.R_far (p := ⟨gb1538, 4, none⟩) (Kd.R_far (p := ⟨gb1538, 3, none⟩) (Kd.R_far (p := ⟨gb1538, 2, none⟩) (Kd.R_far (p := ⟨gb1538, 1, none⟩) (Kd.R_far (p := ⟨gb1538, 0, none⟩) (Kd.R_types HO1547.out BK1538.out (by decide)) (fun _ hk => hk.2) (.int .i64 t1542)) (fun _ hk => hk.2) (.int .i64 t1543)) (fun _ hk => hk.2) (.int .i64 t1544)) (fun _ hk => hk.2) (.slice Ao12 t1545.length co12)) (fun _ hk => hk.2) (.slice Ao13 t1548.length co13)) (fun _ hk => trivial), by (with_reducible repeat (first | apply Kd.R_alloc | apply Kd.R_drewN | apply Kd.R_drew)); exact Kd.R_mono (Kd.R_far (p := ⟨gb1538, 4, none⟩) (Kd.R_far (p := ⟨gb1538, 3, none⟩) (Kd.R_far (p := ⟨gb1538, 2, none⟩) (Kd.R_far (p := ⟨gb1538, 1, none⟩) (Kd.R_far (p := ⟨gb1538, 0, none⟩) (Kd.R_types HO1550.out BK1538.out (by decide)) (fun _ hk => hk.2) (.int .i64 t1542)) (fun _ hk => hk.2) (.int .i64 t1543)) (fun _ hk => hk.2) (.int .i64 t1544)) (fun _ hk => hk.2) (.slice Ao12 t1545.length co12)) (fun _ hk => hk.2) (.slice Ao13 t1548.length co13)) (fun _ hk => trivial), by repeat (first | (with_reducible first | exact HB.out | apply below_alloc | apply pw_below_drewN | apply below_drew1 | refine below_set ?_ (IsS101.ge HI1541.out) | refine below_set ?_ GE1538.out | refine below_set ?_ GE1552.out) | exact HB.out)⟩

/-! ### spec_TableLook: function 46 -/
def spec_TableLook.f (k : Nat) (a0_0 : Int) (a0_1 : Int) (a0_2 : Int) (l0_3 : List Int) (l0_4 : List ByteArray) (a1 : Int) : Option (ByteArray × Bool) := (spec_l3Ok.f k a0_0 a0_1 a0_2 l0_3 l0_4).bind fun t1573 => (if t1573 = true then ((spec_l3At.f k a0_0 a0_1 a0_2 l0_3 l0_4 a1).bind fun t1574 => (if t1574 < 0 then (some ((⟨#[]⟩ : ByteArray), false)) else ((spec_l3At.f k a0_0 a0_1 a0_2 l0_3 l0_4 a1).bind fun t1575 => (if 0 ≤ t1575 then (if t1575 < (l0_4.length : Int) then (some (rdOf ByteArray.empty l0_4 t1575, true)) else (none)) else (none))))) else (some ((⟨#[]⟩ : ByteArray), false)))

def spec_TableLook.T3 : Bool × List (List Nat × List Nat) := (true, [([], []), ([0], [0]), ([], []), ([], []), ([2, 3], [2, 3]), ([1, 4], [1, 4]), ([5], [5]), ([6, 4, 0, 1, 2, 3, 4, 5, 6], [6]), ([7, 0, 1, 2, 3, 4, 5, 6, 7], [])])
def spec_TableLook.B3 : List Nat := [0, 1, 0, 0, 12, 31, 63, 127, 255]
theorem spec_TableLook.tab3 : rtab .any (opsOf Try.f46 3) = spec_TableLook.T3 := by kernel_rfl
theorem spec_TableLook.bits3 : waitsOk spec_TableLook.T3.2 spec_TableLook.B3 = true := by kernel_rfl
set_option maxHeartbeats 8000000 in
set_option maxRecDepth 100000 in
theorem spec_TableLook.calls (k : Nat) (a0_0 : Int) (a0_1 : Int) (a0_2 : Int) (A0_3 : Option Addr) (c0_3 : Nat) (l0_3 : List Int) (A0_4 : Option Addr) (c0_4 : Nat) (l0_4 : List ByteArray) (a1 : Int) (r1 : ByteArray) (r2 : Bool) (w : World) (hr0_3 : Kd.C (Kd.int .i64) w A0_3 l0_3.length l0_3) (hc0_3 : l0_3.length ≤ c0_3) (hr0_4 : Kd.C Kd.string w A0_4 l0_4.length l0_4) (hc0_4 : l0_4.length ≤ c0_4) (h : spec_TableLook.f k a0_0 a0_1 a0_2 l0_3 l0_4 a1 = some (r1, r2)) :
  Calls Try.prog 46 #[.agg #[.int .i64 a0_0, .int .i64 a0_1, .int .i64 a0_2, .slice A0_3 l0_3.length c0_3, .slice A0_4 l0_4.length c0_4], .int .i64 a1] w fun e w' => e = .returned (.tuple #[.string r1, .bool r2]) ∧ Below w.heap.size w w' := by
 have hu60 := Try.underlying60
 have HR0_3 := Aside0.mk hr0_3
 have HC0_3 := Aside0.mk hc0_3
 clear hr0_3 hc0_3
 have HR0_4 := Aside0.mk hr0_4
 have HC0_4 := Aside0.mk hc0_4
 clear hr0_4 hc0_4
 have HB := Aside0.mk (Below.refl w.heap.size w)
 have H : ((spec_l3Ok.f k a0_0 a0_1 a0_2 l0_3 l0_4).bind fun t1573 => (if t1573 = true then ((spec_l3At.f k a0_0 a0_1 a0_2 l0_3 l0_4 a1).bind fun t1574 => (if t1574 < 0 then (some ((⟨#[]⟩ : ByteArray), false)) else ((spec_l3At.f k a0_0 a0_1 a0_2 l0_3 l0_4 a1).bind fun t1575 => (if 0 ≤ t1575 then (if t1575 < (l0_4.length : Int) then (some (rdOf ByteArray.empty l0_4 t1575, true)) else (none)) else (none))))) else (some ((⟨#[]⟩ : ByteArray), false)))) = some (r1, r2) := h
 clear h
 replace H := Option.bind_eq_some_iff.mp H
 obtain ⟨t1573, A30, H⟩ := H
 try dsimp only at H
 have A3 := Aside0.mk A30
 clear A30
 by_cases c4 : t1573 = true
 ·subst c4
  rw [if_pos rfl] at H
  replace H := Option.bind_eq_some_iff.mp H
  obtain ⟨t1574, A50, H⟩ := H
  try dsimp only at H
  have A5 := Aside0.mk A50
  clear A50
  by_cases c6 : t1574 < 0
  ·rw [if_pos c6] at H
   have c6b0 : decide (t1574 < 0) = true := decide_eq_true c6
   clear c6
   simp only [Option.some.injEq, Prod.mk.injEq] at H
   obtain ⟨rfl, rfl⟩ := H
   go_enter Try.func46, Try.ntmps46
   go_wp2_with (first | ((with_reducible refine gate_dst (N := 2) rfl ?_); refine box_event ?hg (N := 2) ?hd (cs := #[.int .i64 a0_0, .int .i64 a0_1, .int .i64 a0_2, .slice A0_3 l0_3.length c0_3, .slice A0_4 l0_4.length c0_4]) (t := 60) ?hr ?_; (case hd => rfl); (case hg => rfl); (case hr => first | (go_simp; done) | (go_simp; rfl)); intro gb1572 hg w7 hbox hb; have n0_ := Aside0.mk (below_step (by repeat first | (with_reducible first | exact HB.out | apply vA | apply vN | apply vD) | exact HB.out) hb); have n1_ := Aside0.mk (hbox); have n2_ := Aside0.mk ((by rw [hg]; exact (below_size (by repeat first | (with_reducible first | exact HB.out | apply vA | apply vN | apply vD) | exact HB.out)) : w.heap.size ≤ gb1572)); have n3_ := n2_; clear HB; have HB := n0_; have BK1572 := n1_; have GW1572 := n2_; have GE1572 := n3_; clear n0_ n1_ n2_ n3_; clear hb hbox hg; obtain ⟨hcz8_0, hcz8_1, hcz8_2, hcz8_3, hcz8_4, hfz8_0, hfz8_1, hfz8_2, hfz8_3, hfz8_4⟩ := zc5 BK1572) | ((with_reducible refine gate_callee (f := 92) rfl ?_); refine goesL_ (some 7) rfl rfl Try.func92 (by kernel_rfl) rfl #[.agg #[.int .i64 a0_0, .int .i64 a0_1, .int .i64 a0_2, .slice A0_3 l0_3.length c0_3, .slice A0_4 l0_4.length c0_4]] rfl (by (try simp only [List.map_toArray, List.map_cons, List.map_nil]); first | done | rfl | (simp only [List.length_drop, List.length_take]; rfl)) ?_; (with_reducible refine (spec_l3Ok.calls k a0_0 a0_1 a0_2 _ _ l0_3 _ _ l0_4 true _ ?side1 ?side2 ?side3 ?side4 A3.out).mono ?_); (case side1 => repeat (first | exact (Kd.C_below HR0_3.out HB.out) | (with_reducible refine Kd.C_alloc ?_ _) | (with_reducible refine Kd.C_drewN ?_ _) | (with_reducible refine Kd.C_drew ?_))); (case side2 => exact HC0_3.out); (case side3 => repeat (first | exact (Kd.C_below HR0_4.out HB.out) | (with_reducible refine Kd.C_alloc ?_ _) | (with_reducible refine Kd.C_drewN ?_ _) | (with_reducible refine Kd.C_drew ?_))); (case side4 => exact HC0_4.out); rintro e w9 ⟨rfl, hb⟩; refine ⟨_, rfl, ?_⟩; have n0_ := zb BK1572 hb rfl; have n1_ := Aside0.mk (below_step (by repeat first | (with_reducible first | exact HB.out | apply vA | apply vN | apply vD | refine vS ?_ GE1572.out) | exact HB.out) hb); clear BK1572; clear HB; have BK1572 := n0_; have HB := n1_; clear n0_ n1_; (try clear hb); (try clear hb2); (try clear hk); (try clear hi); obtain ⟨hcz10_0, hcz10_1, hcz10_2, hcz10_3, hcz10_4, hfz10_0, hfz10_1, hfz10_2, hfz10_3, hfz10_4⟩ := zc5 BK1572) | (go_at_call 93; (with_reducible refine (spec_l3At.calls k a0_0 a0_1 a0_2 _ _ l0_3 _ _ l0_4 a1 t1574 _ ?side1 ?side2 ?side3 ?side4 A5.out).mono ?_); (case side1 => repeat (first | exact (Kd.C_below HR0_3.out HB.out) | (with_reducible refine Kd.C_alloc ?_ _) | (with_reducible refine Kd.C_drewN ?_ _) | (with_reducible refine Kd.C_drew ?_))); (case side2 => exact HC0_3.out); (case side3 => repeat (first | exact (Kd.C_below HR0_4.out HB.out) | (with_reducible refine Kd.C_alloc ?_ _) | (with_reducible refine Kd.C_drewN ?_ _) | (with_reducible refine Kd.C_drew ?_))); (case side4 => exact HC0_4.out); rintro e w11 ⟨rfl, hb⟩; have n0_ := zb BK1572 hb rfl; have n1_ := Aside0.mk (below_step (by repeat first | (with_reducible first | exact HB.out | apply vA | apply vN | apply vD | refine vS ?_ GE1572.out) | exact HB.out) hb); clear BK1572; clear HB; have BK1572 := n0_; have HB := n1_; clear n0_ n1_; (try clear hb); (try clear hb2); (try clear hk); (try clear hi)))
   go_ret2
   exact ⟨by first | rfl | (simp [errW_none, errW_some] <;> rfl) | (simp [*, errW_none, errW_some] <;> rfl), by repeat first | (with_reducible first | exact HB.out | apply vA | apply vN | apply vD | refine vS ?_ GE1572.out) | exact HB.out⟩
  ·rw [if_neg c6] at H
   have c6b0 : decide (t1574 < 0) = false := decide_eq_false c6
   clear c6
   replace H := Option.bind_eq_some_iff.mp H
   obtain ⟨t1575, A120, H⟩ := H
   try dsimp only at H
   have A12 := Aside0.mk A120
   clear A120
   by_cases c13 : 0 ≤ t1575
   ·rw [if_pos c13] at H
    have c13b0 : decide (0 ≤ t1575) = true := decide_eq_true c13
    clear c13
    by_cases c14 : t1575 < (l0_4.length : Int)
    ·rw [if_pos c14] at H
     have c14b0 : decide (t1575 < (l0_4.length : Int)) = true := decide_eq_true c14
     clear c14
     simp only [Option.some.injEq, Prod.mk.injEq] at H
     obtain ⟨rfl, rfl⟩ := H
     go_enter Try.func46, Try.ntmps46
     try go_wp2_with (first | ((with_reducible refine gate_dst (N := 2) rfl ?_); refine box_event ?hg (N := 2) ?hd (cs := #[.int .i64 a0_0, .int .i64 a0_1, .int .i64 a0_2, .slice A0_3 l0_3.length c0_3, .slice A0_4 l0_4.length c0_4]) (t := 60) ?hr ?_; (case hd => rfl); (case hg => rfl); (case hr => first | (go_simp; done) | (go_simp; rfl)); intro gb1572 hg w15 hbox hb; have n0_ := Aside0.mk (below_step (by repeat first | (with_reducible first | exact HB.out | apply vA | apply vN | apply vD) | exact HB.out) hb); have n1_ := Aside0.mk (hbox); have n2_ := Aside0.mk ((by rw [hg]; exact (below_size (by repeat first | (with_reducible first | exact HB.out | apply vA | apply vN | apply vD) | exact HB.out)) : w.heap.size ≤ gb1572)); have n3_ := n2_; clear HB; have HB := n0_; have BK1572 := n1_; have GW1572 := n2_; have GE1572 := n3_; clear n0_ n1_ n2_ n3_; clear hb hbox hg; obtain ⟨hcz16_0, hcz16_1, hcz16_2, hcz16_3, hcz16_4, hfz16_0, hfz16_1, hfz16_2, hfz16_3, hfz16_4⟩ := zc5 BK1572) | ((with_reducible refine gate_callee (f := 92) rfl ?_); refine goesL_ (some 7) rfl rfl Try.func92 (by kernel_rfl) rfl #[.agg #[.int .i64 a0_0, .int .i64 a0_1, .int .i64 a0_2, .slice A0_3 l0_3.length c0_3, .slice A0_4 l0_4.length c0_4]] rfl (by (try simp only [List.map_toArray, List.map_cons, List.map_nil]); first | done | rfl | (simp only [List.length_drop, List.length_take]; rfl)) ?_; (with_reducible refine (spec_l3Ok.calls k a0_0 a0_1 a0_2 _ _ l0_3 _ _ l0_4 true _ ?side1 ?side2 ?side3 ?side4 A3.out).mono ?_); (case side1 => repeat (first | exact (Kd.C_below HR0_3.out HB.out) | (with_reducible refine Kd.C_alloc ?_ _) | (with_reducible refine Kd.C_drewN ?_ _) | (with_reducible refine Kd.C_drew ?_))); (case side2 => exact HC0_3.out); (case side3 => repeat (first | exact (Kd.C_below HR0_4.out HB.out) | (with_reducible refine Kd.C_alloc ?_ _) | (with_reducible refine Kd.C_drewN ?_ _) | (with_reducible refine Kd.C_drew ?_))); (case side4 => exact HC0_4.out); rintro e w17 ⟨rfl, hb⟩; refine ⟨_, rfl, ?_⟩; have n0_ := zb BK1572 hb rfl; have n1_ := Aside0.mk (below_step (by repeat first | (with_reducible first | exact HB.out | apply vA | apply vN | apply vD | refine vS ?_ GE1572.out) | exact HB.out) hb); clear BK1572; clear HB; have BK1572 := n0_; have HB := n1_; clear n0_ n1_; (try clear hb); (try clear hb2); (try clear hk); (try clear hi); obtain ⟨hcz18_0, hcz18_1, hcz18_2, hcz18_3, hcz18_4, hfz18_0, hfz18_1, hfz18_2, hfz18_3, hfz18_4⟩ := zc5 BK1572) | (go_at_call 93; (with_reducible refine (spec_l3At.calls k a0_0 a0_1 a0_2 _ _ l0_3 _ _ l0_4 a1 t1574 _ ?side1 ?side2 ?side3 ?side4 A5.out).mono ?_); (case side1 => repeat (first | exact (Kd.C_below HR0_3.out HB.out) | (with_reducible refine Kd.C_alloc ?_ _) | (with_reducible refine Kd.C_drewN ?_ _) | (with_reducible refine Kd.C_drew ?_))); (case side2 => exact HC0_3.out); (case side3 => repeat (first | exact (Kd.C_below HR0_4.out HB.out) | (with_reducible refine Kd.C_alloc ?_ _) | (with_reducible refine Kd.C_drewN ?_ _) | (with_reducible refine Kd.C_drew ?_))); (case side4 => exact HC0_4.out); rintro e w19 ⟨rfl, hb⟩; have n0_ := zb BK1572 hb rfl; have n1_ := Aside0.mk (below_step (by repeat first | (with_reducible first | exact HB.out | apply vA | apply vN | apply vD | refine vS ?_ GE1572.out) | exact HB.out) hb); clear BK1572; clear HB; have BK1572 := n0_; have HB := n1_; clear n0_ n1_; (try clear hb); (try clear hb2); (try clear hk); (try clear hi)))
     have n0_ := Aside0.mk (blk_drew BK1572.out)
     have n1_ := Aside0.mk (below_drew1 HB.out)
     clear BK1572
     clear HB
     have BK1572 := n0_
     have HB := n1_
     clear n0_ n1_
     have p1576 : 0 ≤ (t1575 : Int) := of_decide_eq_true (by first | (with_reducible assumption) | assumption)
     have q1576 : t1575 < (l0_4.length : Int) := of_decide_eq_true (by first | (with_reducible assumption) | assumption)
     obtain ⟨ad1576, e1576, hx1576_0⟩ := Kd.at_string HR0_4.out t1575 p1576 q1576
     have hw1576_0 := hx1576_0
     cases e1576
     replace hx1576_0 := (HB.out.cell (World.block_lt_of_cell? w _ hx1576_0)).trans hx1576_0
     replace p1576 := eq_true p1576
     replace q1576 := eq_true q1576
     refine start_ (n := 9) (S := fun w' => w'.cell? ⟨gb1572, 0, none⟩ = some (.int .i64 a0_0) ∧ w'.cell? ⟨gb1572, 1, none⟩ = some (.int .i64 a0_1) ∧ w'.cell? ⟨gb1572, 2, none⟩ = some (.int .i64 a0_2) ∧ w'.cell? ⟨gb1572, 3, none⟩ = some (.slice A0_3 l0_3.length c0_3) ∧ w'.cell? ⟨gb1572, 4, none⟩ = some (.slice (some ad1576) l0_4.length c0_4) ∧ w'.cell? (ad1576.add (t1575).toNat) = some (.string (rdOf ByteArray.empty l0_4 t1575))) (ds := []) #[false, false, false, false, false, false, false, false, false] (by kernel_rfl) rfl rfl ⟨(blk_cell BK1572.out 0).trans rfl, (blk_cell BK1572.out 1).trans rfl, (blk_cell BK1572.out 2).trans rfl, (blk_cell BK1572.out 3).trans rfl, (blk_cell BK1572.out 4).trans rfl, ((HB.out.cell (World.block_lt_of_cell? w _ hw1576_0)).trans hw1576_0)⟩ (fun hHeld => ?_); refine with_tabW spec_TableLook.tab3 spec_TableLook.bits3 (fun HT_ HW_ => ?_)
     generalize w19.drew = w20 at BK1572 HB hx1576_0 hHeld ⊢
     refine pure_ (i := 0) (N := some 15) (v := ?_) (a' := ?_) #[true, false, false, false, false, false, false, false, false] rfl rfl (any_of HT_.out (by kernel_rfl)) (fun _ _ _ h => h) (Or.inl ⟨by rfl, ?_⟩) ?_ ?_
     rotate_left
     ·intro w'
      go_simp
      with_reducible rfl
     rotate_left
     ·simp only [Act.put, List.setIfInBounds_toArray, List.set_cons_zero, List.set_cons_succ, i64_w, i32_w]
      rfl
     refine pure_ (i := 3) (N := some 18) (v := ?_) (a' := ?_) #[true, false, false, true, false, false, false, false, false] rfl rfl (any_of HT_.out (by kernel_rfl)) (fun _ _ _ h => h) (Or.inl ⟨by rfl, ?_⟩) ?_ ?_
     rotate_left
     ·intro w'
      go_simp
      with_reducible rfl
     rotate_left
     ·simp only [Act.put, List.setIfInBounds_toArray, List.set_cons_zero, List.set_cons_succ, i64_w, i32_w]
      rfl
     refine take_ (i := 1) (N := some 16) (v := ?_) (a' := ?_) #[true, true, false, true, false, false, false, false, false] rfl rfl (take_ofW HT_.out HW_.out (by kernel_rfl)) (fun _ _ _ h => h) (Or.inl ⟨by rfl, ?_⟩) hHeld ?_ ?_
     rotate_left
     ·rintro w' ⟨s0, s1, s2, s3, s4, s5⟩
      go_simp
      with_reducible rfl
     rotate_left
     ·simp only [Act.put, List.setIfInBounds_toArray, List.set_cons_zero, List.set_cons_succ, i64_w, i32_w]
      rfl
     refine take_ (i := 2) (N := some 17) (v := ?_) (a' := ?_) #[true, true, true, true, false, false, false, false, false] rfl rfl (take_ofW HT_.out HW_.out (by kernel_rfl)) (fun _ _ _ h => h) (Or.inl ⟨by rfl, ?_⟩) hHeld ?_ ?_
     rotate_left
     ·rintro w' ⟨s0, s1, s2, s3, s4, s5⟩
      go_simp
      with_reducible rfl
     rotate_left
     ·simp only [Act.put, List.setIfInBounds_toArray, List.set_cons_zero, List.set_cons_succ, i64_w, i32_w]
      rfl
     refine one_ (i := 4) (N := some 19) #[true, true, true, true, true, false, false, false, false] rfl rfl (one_of HT_.out (by kernel_rfl)) (by decide) (fun K hK => ?_)
     refine goes_ Try.func93 (by kernel_rfl) rfl #[.agg #[.int .i64 a0_0, .int .i64 a0_1, .int .i64 a0_2, .slice A0_3 l0_3.length c0_3, .slice (some ad1576) l0_4.length c0_4], .int .i64 a1] (by rfl) rfl rfl (by (try simp only [List.map_toArray, List.map_cons, List.map_nil]); first | done | rfl | (simp only [List.length_drop, List.length_take]; rfl)) ?_
     with_reducible refine (spec_l3At.calls k a0_0 a0_1 a0_2 _ _ l0_3 _ _ l0_4 a1 t1575 _ ?side1 ?side2 ?side3 ?side4 A12.out).mono ?_
     (case side1 => repeat (first | exact (Kd.C_below HR0_3.out HB.out) | (with_reducible refine Kd.C_alloc ?_ _) | (with_reducible refine Kd.C_drewN ?_ _) | (with_reducible refine Kd.C_drew ?_)))
     (case side2 => exact HC0_3.out)
     (case side3 => repeat (first | exact (Kd.C_below HR0_4.out HB.out) | (with_reducible refine Kd.C_alloc ?_ _) | (with_reducible refine Kd.C_drewN ?_ _) | (with_reducible refine Kd.C_drew ?_)))
     (case side4 => exact HC0_4.out)
     rintro e w21 ⟨rfl, hb⟩
     refine ⟨_, rfl, ?_⟩
     have n0_ := zb BK1572 hb rfl
     have n1_ := Aside0.mk (below_step (by repeat first | (with_reducible first | exact HB.out | apply vA | apply vN | apply vD | refine vS ?_ GE1572.out) | exact HB.out) hb)
     clear BK1572
     clear HB
     have BK1572 := n0_
     have HB := n1_
     clear n0_ n1_
     (try clear hb)
     (try clear hb2)
     (try clear hk)
     (try clear hi)
     refine hK.out _ _ ⟨(blk_cell BK1572.out 0).trans rfl, (blk_cell BK1572.out 1).trans rfl, (blk_cell BK1572.out 2).trans rfl, (blk_cell BK1572.out 3).trans rfl, (blk_cell BK1572.out 4).trans rfl, ((HB.out.cell (World.block_lt_of_cell? w _ hw1576_0)).trans hw1576_0)⟩ (fun hHeld => ?_)
     clear hK K
     refine norm_ (a' := ?_) ?_ ?_
     rotate_left
     ·show Act.put _ (some 19) _ = _
      simp only [Act.put, List.setIfInBounds_toArray, List.set_cons_zero, List.set_cons_succ, i64_w, i32_w]
      rfl
     refine pure_ (i := 5) (N := some 20) (v := ?_) (a' := ?_) #[true, true, true, true, true, true, false, false, false] rfl rfl (any_of HT_.out (by kernel_rfl)) (fun _ _ _ h => h) (Or.inl ⟨by rfl, ?_⟩) ?_ ?_
     rotate_left
     ·intro w'
      go_simp
      with_reducible rfl
     rotate_left
     ·simp only [Act.put, List.setIfInBounds_toArray, List.set_cons_zero, List.set_cons_succ, i64_w, i32_w]
      rfl
     refine take_ (i := 6) (N := some 21) (v := ?_) (a' := ?_) #[true, true, true, true, true, true, true, false, false] rfl rfl (take_ofW HT_.out HW_.out (by kernel_rfl)) (fun _ _ _ h => h) (Or.inl ⟨by rfl, ?_⟩) hHeld ?_ ?_
     rotate_left
     ·rintro w' ⟨s0, s1, s2, s3, s4, s5⟩
      go_simp
      with_reducible rfl
     rotate_left
     ·simp only [Act.put, List.setIfInBounds_toArray, List.set_cons_zero, List.set_cons_succ, i64_w, i32_w]
      rfl
     refine pure_ (i := 7) (N := some 4) (v := ?_) (a' := ?_) #[true, true, true, true, true, true, true, true, false] rfl rfl (any_of HT_.out (by kernel_rfl)) (fun _ _ _ h => h) (Or.inl ⟨by rfl, ?_⟩) ?_ ?_
     rotate_left
     ·intro w'
      go_simp
      with_reducible rfl
     rotate_left
     ·simp only [Act.put, List.setIfInBounds_toArray, List.set_cons_zero, List.set_cons_succ, i64_w, i32_w]
      rfl
     refine pure_ (i := 8) (N := some 5) (v := ?_) (a' := ?_) #[true, true, true, true, true, true, true, true, true] rfl rfl (any_of HT_.out (by kernel_rfl)) (fun _ _ _ h => h) (Or.inl ⟨by rfl, ?_⟩) ?_ ?_
     rotate_left
     ·intro w'
      go_simp
      with_reducible rfl
     rotate_left
     ·simp only [Act.put, List.setIfInBounds_toArray, List.set_cons_zero, List.set_cons_succ, i64_w, i32_w]
      rfl
     refine done_ (done_of HT_.out (by kernel_rfl)) ?_
     try go_wp2
     go_ret2
     exact ⟨by first | rfl | (simp [errW_none, errW_some] <;> rfl) | (simp [*, errW_none, errW_some] <;> rfl), by repeat first | (with_reducible first | exact HB.out | apply vA | apply vN | apply vD | refine vS ?_ GE1572.out) | exact HB.out⟩
    ·rw [if_neg c14] at H
     exact absurd H (by simp)
   ·rw [if_neg c13] at H
    exact absurd H (by simp)
 ·replace c4 := Bool.eq_false_iff.mpr c4
  subst c4
  rw [if_neg (show ¬ (false = true) by decide)] at H
  simp only [Option.some.injEq, Prod.mk.injEq] at H
  obtain ⟨rfl, rfl⟩ := H
  go_enter Try.func46, Try.ntmps46
  go_wp2_with (first | ((with_reducible refine gate_dst (N := 2) rfl ?_); refine box_event ?hg (N := 2) ?hd (cs := #[.int .i64 a0_0, .int .i64 a0_1, .int .i64 a0_2, .slice A0_3 l0_3.length c0_3, .slice A0_4 l0_4.length c0_4]) (t := 60) ?hr ?_; (case hd => rfl); (case hg => rfl); (case hr => first | (go_simp; done) | (go_simp; rfl)); intro gb1572 hg w22 hbox hb; have n0_ := Aside0.mk (below_step (by repeat first | (with_reducible first | exact HB.out | apply vA | apply vN | apply vD) | exact HB.out) hb); have n1_ := Aside0.mk (hbox); have n2_ := Aside0.mk ((by rw [hg]; exact (below_size (by repeat first | (with_reducible first | exact HB.out | apply vA | apply vN | apply vD) | exact HB.out)) : w.heap.size ≤ gb1572)); have n3_ := n2_; clear HB; have HB := n0_; have BK1572 := n1_; have GW1572 := n2_; have GE1572 := n3_; clear n0_ n1_ n2_ n3_; clear hb hbox hg; obtain ⟨hcz23_0, hcz23_1, hcz23_2, hcz23_3, hcz23_4, hfz23_0, hfz23_1, hfz23_2, hfz23_3, hfz23_4⟩ := zc5 BK1572) | ((with_reducible refine gate_callee (f := 92) rfl ?_); refine goesL_ (some 7) rfl rfl Try.func92 (by kernel_rfl) rfl #[.agg #[.int .i64 a0_0, .int .i64 a0_1, .int .i64 a0_2, .slice A0_3 l0_3.length c0_3, .slice A0_4 l0_4.length c0_4]] rfl (by (try simp only [List.map_toArray, List.map_cons, List.map_nil]); first | done | rfl | (simp only [List.length_drop, List.length_take]; rfl)) ?_; (with_reducible refine (spec_l3Ok.calls k a0_0 a0_1 a0_2 _ _ l0_3 _ _ l0_4 false _ ?side1 ?side2 ?side3 ?side4 A3.out).mono ?_); (case side1 => repeat (first | exact (Kd.C_below HR0_3.out HB.out) | (with_reducible refine Kd.C_alloc ?_ _) | (with_reducible refine Kd.C_drewN ?_ _) | (with_reducible refine Kd.C_drew ?_))); (case side2 => exact HC0_3.out); (case side3 => repeat (first | exact (Kd.C_below HR0_4.out HB.out) | (with_reducible refine Kd.C_alloc ?_ _) | (with_reducible refine Kd.C_drewN ?_ _) | (with_reducible refine Kd.C_drew ?_))); (case side4 => exact HC0_4.out); rintro e w24 ⟨rfl, hb⟩; refine ⟨_, rfl, ?_⟩; have n0_ := zb BK1572 hb rfl; have n1_ := Aside0.mk (below_step (by repeat first | (with_reducible first | exact HB.out | apply vA | apply vN | apply vD | refine vS ?_ GE1572.out) | exact HB.out) hb); clear BK1572; clear HB; have BK1572 := n0_; have HB := n1_; clear n0_ n1_; (try clear hb); (try clear hb2); (try clear hk); (try clear hi)))
  go_ret2
  exact ⟨by first | rfl | (simp [errW_none, errW_some] <;> rfl) | (simp [*, errW_none, errW_some] <;> rfl), by repeat first | (with_reducible first | exact HB.out | apply vA | apply vN | apply vD | refine vS ?_ GE1572.out) | exact HB.out⟩

/-! ### laws_FnTableLook: function 11 -/
mutual
def laws_FnTableLook.j0 : Nat → Int → ByteArray → Bool → ByteArray → Bool → Bool → Int → Int → Int → List Int → List ByteArray → Option (Bool)
 | 0, _, _, _, _, _, _, _, _, _, _, _ => none
 | k + 1, x4, x5, x6, x7, x8, x43, x1588000, x1588001, x1588002, x1588003, x1588004 => if x43 = true then (if x5.toList = x7.toList then (some (x6 == x8)) else (none)) else (laws_FnTableLook.l0 k x4 x5 x6 false 0 x1588000 x1588001 x1588002 x1588003 x1588004)
def laws_FnTableLook.l0 : Nat → Int → ByteArray → Bool → Bool → Int → Int → Int → Int → List Int → List ByteArray → Option (Bool)
 | 0, _, _, _, _, _, _, _, _, _, _ => none
 | k + 1, x4, x5, x6, x9, x10, x1588000, x1588001, x1588002, x1588003, x1588004 => if x10 < (x1588003.length : Int) then (if x9 = true then (laws_FnTableLook.l0 k x4 x5 x6 true (wrap64 (x10 + 1)) x1588000 x1588001 x1588002 x1588003 x1588004) else (if 0 ≤ x10 then (if (rd x1588003 x10) = x4 then (if x10 < (x1588004.length : Int) then (laws_FnTableLook.l0 k x4 x5 x6 ((rdOf ByteArray.empty x1588004 x10).toList == x5.toList) (wrap64 (x10 + 1)) x1588000 x1588001 x1588002 x1588003 x1588004) else (none)) else (laws_FnTableLook.l0 k x4 x5 x6 false (wrap64 (x10 + 1)) x1588000 x1588001 x1588002 x1588003 x1588004)) else (none))) else (some (x9 == x6))
end
def laws_FnTableLook.f (k : Nat) (l0 : List Int) : Option (Bool) := if (l0.length : Int) > 1048576 then (some true) else ((spec_DrawTableLook.f k l0).bind fun bt1577 => ((impl_TableLook.f k bt1577.1 bt1577.2.1 bt1577.2.2.1 bt1577.2.2.2.1 bt1577.2.2.2.2.1 bt1577.2.2.2.2.2).bind fun bt1588 => ((spec_TableLook.f k bt1577.1 bt1577.2.1 bt1577.2.2.1 bt1577.2.2.2.1 bt1577.2.2.2.2.1 bt1577.2.2.2.2.2).bind fun bt1590 => (if bt1588.1.toList = bt1590.1.toList then (if (bt1588.2 != bt1590.2) = true then (laws_FnTableLook.j0 k bt1577.2.2.2.2.2 bt1588.1 bt1588.2 bt1590.1 bt1590.2 true bt1577.1 bt1577.2.1 bt1577.2.2.1 bt1577.2.2.2.1 bt1577.2.2.2.2.1) else ((impl_TableOk.f k bt1577.1 bt1577.2.1 bt1577.2.2.1 bt1577.2.2.2.1 bt1577.2.2.2.2.1).bind fun t1592 => (laws_FnTableLook.j0 k bt1577.2.2.2.2.2 bt1588.1 bt1588.2 bt1590.1 bt1590.2 (!t1592) bt1577.1 bt1577.2.1 bt1577.2.2.1 bt1577.2.2.2.1 bt1577.2.2.2.2.1))) else (laws_FnTableLook.j0 k bt1577.2.2.2.2.2 bt1588.1 bt1588.2 bt1590.1 bt1590.2 true bt1577.1 bt1577.2.1 bt1577.2.2.1 bt1577.2.2.2.1 bt1577.2.2.2.2.1)))))


set_option maxHeartbeats 8000000 in
set_option maxRecDepth 100000 in
theorem laws_FnTableLook.calls (k : Nat) (A0 : Option Addr) (c0 : Nat) (l0 : List Int) (r : Bool) (w : World) (hr0 : Kd.C (Kd.int .u8) w A0 l0.length l0) (hc0 : l0.length ≤ c0) (h : laws_FnTableLook.f k l0 = some r) :
  Calls Try.prog 11 #[.slice A0 l0.length c0] w fun e w' => e = .returned (.bool r) ∧ Below w.heap.size w w' := by
 have hu60 := Try.underlying60
 have HR0 := Aside0.mk hr0
 have HC0 := Aside0.mk hc0
 clear hr0 hc0
 have HB := Aside0.mk (Below.refl w.heap.size w)
 have H : (if (l0.length : Int) > 1048576 then (some true) else ((spec_DrawTableLook.f k l0).bind fun bt1577 => ((impl_TableLook.f k bt1577.1 bt1577.2.1 bt1577.2.2.1 bt1577.2.2.2.1 bt1577.2.2.2.2.1 bt1577.2.2.2.2.2).bind fun bt1588 => ((spec_TableLook.f k bt1577.1 bt1577.2.1 bt1577.2.2.1 bt1577.2.2.2.1 bt1577.2.2.2.2.1 bt1577.2.2.2.2.2).bind fun bt1590 => (if bt1588.1.toList = bt1590.1.toList then (if (bt1588.2 != bt1590.2) = true then (laws_FnTableLook.j0 k bt1577.2.2.2.2.2 bt1588.1 bt1588.2 bt1590.1 bt1590.2 true bt1577.1 bt1577.2.1 bt1577.2.2.1 bt1577.2.2.2.1 bt1577.2.2.2.2.1) else ((impl_TableOk.f k bt1577.1 bt1577.2.1 bt1577.2.2.1 bt1577.2.2.2.1 bt1577.2.2.2.2.1).bind fun t1592 => (laws_FnTableLook.j0 k bt1577.2.2.2.2.2 bt1588.1 bt1588.2 bt1590.1 bt1590.2 (!t1592) bt1577.1 bt1577.2.1 bt1577.2.2.1 bt1577.2.2.2.1 bt1577.2.2.2.2.1))) else (laws_FnTableLook.j0 k bt1577.2.2.2.2.2 bt1588.1 bt1588.2 bt1590.1 bt1590.2 true bt1577.1 bt1577.2.1 bt1577.2.2.1 bt1577.2.2.2.1 bt1577.2.2.2.2.1)))))) = some r := h
 clear h
 by_cases c2 : (l0.length : Int) > 1048576
 ·rw [if_pos c2] at H
  have c2b0 : decide (1048576 < (l0.length : Int)) = true := decide_eq_true c2
  have c2b1 : decide (1048576 < l0.length) = true := decide_eq_true (by omega)
  clear c2
  obtain rfl := Option.some.inj H
  go_enter Try.func11, Try.ntmps11
  go_wp2
  go_ret
  exact ⟨by first | rfl | (simp [errW_none, errW_some] <;> rfl) | (simp [*, errW_none, errW_some] <;> rfl), by repeat first | (with_reducible first | exact HB.out | apply vA | apply vN | apply vD) | exact HB.out⟩
 ·rw [if_neg c2] at H
  have c2b0 : decide (1048576 < (l0.length : Int)) = false := decide_eq_false c2
  have c2b1 : decide (1048576 < l0.length) = false := decide_eq_false (by omega)
  clear c2
  replace H := Option.bind_eq_some_iff.mp H
  obtain ⟨⟨t1577, t1578, t1579, t1580, t1583, t1586⟩, A30, H⟩ := H
  try dsimp only at H
  have A3 := Aside0.mk A30
  clear A30
  replace H := Option.bind_eq_some_iff.mp H
  obtain ⟨⟨t1588, t1589⟩, A40, H⟩ := H
  try dsimp only at H
  have A4 := Aside0.mk A40
  clear A40
  replace H := Option.bind_eq_some_iff.mp H
  obtain ⟨⟨t1590, t1591⟩, A50, H⟩ := H
  try dsimp only at H
  have A5 := Aside0.mk A50
  clear A50
  have HC6 := Aside0.mk H
  clear H
  go_enter Try.func11, Try.ntmps11
  go_upto_region 6 with (first | ((with_reducible refine gate_callee (f := 44) rfl ?_); refine goesL_ (some 16) rfl rfl Try.func44 (by kernel_rfl) rfl #[.slice A0 l0.length c0] rfl (by (try simp only [List.map_toArray, List.map_cons, List.map_nil]); first | done | rfl | (simp only [List.length_drop, List.length_take]; rfl)) ?_; (with_reducible refine (spec_DrawTableLook.calls k _ _ l0 t1577 t1578 t1579 t1580 t1583 t1586 _ ?side1 ?side2 A3.out).mono ?_); (case side1 => repeat (first | exact HR0.out | (with_reducible refine Kd.C_alloc ?_ _) | (with_reducible refine Kd.C_drewN ?_ _) | (with_reducible refine Kd.C_drew ?_))); (case side2 => exact HC0.out); rintro e w7 ⟨v1581, v1584, rfl, ho0, ho1, hb⟩; refine ⟨_, rfl, ?_⟩; have n0_ := Aside0.mk (Kd.R_lower ho0 (below_size (by repeat first | (with_reducible first | exact HB.out | apply vA | apply vN | apply vD) | exact HB.out))); have n1_ := Aside0.mk (Kd.R_lower ho1 (below_size (by repeat first | (with_reducible first | exact HB.out | apply vA | apply vN | apply vD) | exact HB.out))); have n2_ := Aside0.mk (below_step (by repeat first | (with_reducible first | exact HB.out | apply vA | apply vN | apply vD) | exact HB.out) hb); clear HB; have HO1582 := n0_; have HO1585 := n1_; have HB := n2_; clear n0_ n1_ n2_; (try clear hb); (try clear hb2); (try clear hk); (try clear hi); (try clear ho0); (try clear ho1)) | ((with_reducible refine gate_dst (N := 3) rfl ?_); refine box_event ?hg (N := 3) ?hd (cs := #[.int .i64 0, .int .i64 0, .int .i64 0, .slice none 0 0, .slice none 0 0]) (t := 60) ?hr ?_; (case hd => rfl); (case hg => rfl); (case hr => first | (go_simp; done) | (go_simp; rfl)); intro gb1587 hg w8 hbox hb; have n0_ := Aside0.mk (Kd.R_below (by (with_reducible repeat (first | apply Kd.R_alloc | apply Kd.R_drewN | apply Kd.R_drew)); exact HO1582.out) hb); have n1_ := Aside0.mk (Kd.R_below (by (with_reducible repeat (first | apply Kd.R_alloc | apply Kd.R_drewN | apply Kd.R_drew)); exact HO1585.out) hb); have n2_ := Aside0.mk (below_step (by repeat first | (with_reducible first | exact HB.out | apply vA | apply vN | apply vD) | exact HB.out) hb); have n3_ := Aside0.mk (hbox); have n4_ := Aside0.mk ((by rw [hg]; exact (below_size (by repeat first | (with_reducible first | exact HB.out | apply vA | apply vN | apply vD) | exact HB.out)) : w.heap.size ≤ gb1587)); have n5_ := n4_; clear HO1582; clear HO1585; clear HB; have HO1582 := n0_; have HO1585 := n1_; have HB := n2_; have BK1587 := n3_; have GW1587 := n4_; have GE1587 := n5_; clear n0_ n1_ n2_ n3_ n4_ n5_; clear hb hbox hg; obtain ⟨hcz9_0, hcz9_1, hcz9_2, hcz9_3, hcz9_4, hfz9_0, hfz9_1, hfz9_2, hfz9_3, hfz9_4⟩ := zc5 BK1587; obtain ⟨Ao10, co10, eo10⟩ := Kd.R_slice HO1582.out; subst eo10; obtain ⟨Ao11, co11, eo11⟩ := Kd.R_slice HO1585.out; subst eo11) | ((with_reducible refine gate_callee (f := 45) rfl ?_); refine goesL_ (some 22) rfl rfl Try.func45 (by kernel_rfl) rfl #[.agg #[.int .i64 t1577, .int .i64 t1578, .int .i64 t1579, .slice Ao10 t1580.length co10, .slice Ao11 t1583.length co11], .int .i64 t1586] rfl (by (try simp only [List.map_toArray, List.map_cons, List.map_nil]); first | done | rfl | (simp only [List.length_drop, List.length_take]; rfl)) ?_; (with_reducible refine (impl_TableLook.calls k t1577 t1578 t1579 _ _ t1580 _ _ t1583 t1586 t1588 t1589 _ ?side1 ?side2 ?side3 ?side4 A4.out).mono ?_); (case side1 => refine (Kd.R_reads' (e := 3) (base := w.heap.size) (ok := fun k_ => True) (n := t1580.length) (c := co10) ?_).2.2; exact (by (with_reducible repeat (first | apply Kd.R_alloc | apply Kd.R_drewN | apply Kd.R_drew)); exact (Kd.R_mono (Kd.R_far (p := ⟨gb1587, 4, none⟩) (Kd.R_far (p := ⟨gb1587, 3, none⟩) (Kd.R_far (p := ⟨gb1587, 2, none⟩) (Kd.R_far (p := ⟨gb1587, 1, none⟩) (Kd.R_far (p := ⟨gb1587, 0, none⟩) (Kd.R_types HO1582.out BK1587.out (by decide)) (fun _ hk => hk.2) (.int .i64 t1577)) (fun _ hk => hk.2) (.int .i64 t1578)) (fun _ hk => hk.2) (.int .i64 t1579)) (fun _ hk => hk.2) (.slice Ao10 t1580.length co10)) (fun _ hk => hk.2) (.slice Ao11 t1583.length co11)) (fun _ h_ => h_.1)))); (case side2 => exact (Kd.R_reads' HO1582.out).2.1); (case side3 => refine (Kd.R_reads' (e := 9) (base := w.heap.size) (ok := fun k_ => True) (n := t1583.length) (c := co11) ?_).2.2; exact (by (with_reducible repeat (first | apply Kd.R_alloc | apply Kd.R_drewN | apply Kd.R_drew)); exact (Kd.R_mono (Kd.R_far (p := ⟨gb1587, 4, none⟩) (Kd.R_far (p := ⟨gb1587, 3, none⟩) (Kd.R_far (p := ⟨gb1587, 2, none⟩) (Kd.R_far (p := ⟨gb1587, 1, none⟩) (Kd.R_far (p := ⟨gb1587, 0, none⟩) (Kd.R_types HO1585.out BK1587.out (by decide)) (fun _ hk => hk.2) (.int .i64 t1577)) (fun _ hk => hk.2) (.int .i64 t1578)) (fun _ hk => hk.2) (.int .i64 t1579)) (fun _ hk => hk.2) (.slice Ao10 t1580.length co10)) (fun _ hk => hk.2) (.slice Ao11 t1583.length co11)) (fun _ h_ => h_.1)))); (case side4 => exact (Kd.R_reads' HO1585.out).2.1); rintro e w12 ⟨rfl, hb⟩; refine ⟨_, rfl, ?_⟩; have n0_ := Aside0.mk (Kd.R_below (by (with_reducible repeat (first | apply Kd.R_alloc | apply Kd.R_drewN | apply Kd.R_drew)); exact (Kd.R_mono (Kd.R_far (p := ⟨gb1587, 4, none⟩) (Kd.R_far (p := ⟨gb1587, 3, none⟩) (Kd.R_far (p := ⟨gb1587, 2, none⟩) (Kd.R_far (p := ⟨gb1587, 1, none⟩) (Kd.R_far (p := ⟨gb1587, 0, none⟩) (Kd.R_types HO1582.out BK1587.out (by decide)) (fun _ hk => hk.2) (.int .i64 t1577)) (fun _ hk => hk.2) (.int .i64 t1578)) (fun _ hk => hk.2) (.int .i64 t1579)) (fun _ hk => hk.2) (.slice Ao10 t1580.length co10)) (fun _ hk => hk.2) (.slice Ao11 t1583.length co11)) (fun _ h_ => h_.1))) hb); have n1_ := Aside0.mk (Kd.R_below (by (with_reducible repeat (first | apply Kd.R_alloc | apply Kd.R_drewN | apply Kd.R_drew)); exact (Kd.R_mono (Kd.R_far (p := ⟨gb1587, 4, none⟩) (Kd.R_far (p := ⟨gb1587, 3, none⟩) (Kd.R_far (p := ⟨gb1587, 2, none⟩) (Kd.R_far (p := ⟨gb1587, 1, none⟩) (Kd.R_far (p := ⟨gb1587, 0, none⟩) (Kd.R_types HO1585.out BK1587.out (by decide)) (fun _ hk => hk.2) (.int .i64 t1577)) (fun _ hk => hk.2) (.int .i64 t1578)) (fun _ hk => hk.2) (.int .i64 t1579)) (fun _ hk => hk.2) (.slice Ao10 t1580.length co10)) (fun _ hk => hk.2) (.slice Ao11 t1583.length co11)) (fun _ h_ => h_.1))) hb); have n2_ := Aside0.mk (blk_below (g := gb1587) (o := .cells #[.int .i64 t1577, .int .i64 t1578, .int .i64 t1579, .slice Ao10 t1580.length co10, .slice Ao11 t1583.length co11] 60 (0, 0)) (by (with_reducible repeat first | apply bN | apply bD | apply bA); refine blk_put (cs := #[.int .i64 t1577, .int .i64 t1578, .int .i64 t1579, .slice Ao10 t1580.length co10, .slice none 0 0]) ?_ 4 _ rfl; (with_reducible repeat first | apply bN | apply bD | apply bA); refine blk_put (cs := #[.int .i64 t1577, .int .i64 t1578, .int .i64 t1579, .slice none 0 0, .slice none 0 0]) ?_ 3 _ rfl; (with_reducible repeat first | apply bN | apply bD | apply bA); refine blk_put (cs := #[.int .i64 t1577, .int .i64 t1578, .int .i64 0, .slice none 0 0, .slice none 0 0]) ?_ 2 _ rfl; (with_reducible repeat first | apply bN | apply bD | apply bA); refine blk_put (cs := #[.int .i64 t1577, .int .i64 0, .int .i64 0, .slice none 0 0, .slice none 0 0]) ?_ 1 _ rfl; (with_reducible repeat first | apply bN | apply bD | apply bA); refine blk_put (cs := #[.int .i64 0, .int .i64 0, .int .i64 0, .slice none 0 0, .slice none 0 0]) ?_ 0 _ rfl; (with_reducible repeat first | apply bN | apply bD | apply bA); exact BK1587.out) hb); have n3_ := Aside0.mk (below_step (by repeat first | (with_reducible first | exact HB.out | apply vA | apply vN | apply vD | refine vS ?_ GE1587.out) | exact HB.out) hb); clear HO1582; clear HO1585; clear BK1587; clear HB; have HO1582 := n0_; have HO1585 := n1_; have BK1587 := n2_; have HB := n3_; clear n0_ n1_ n2_ n3_; (try clear hb); (try clear hb2); (try clear hk); (try clear hi); obtain ⟨hcz13_0, hcz13_1, hcz13_2, hcz13_3, hcz13_4, hfz13_0, hfz13_1, hfz13_2, hfz13_3, hfz13_4⟩ := zc5 BK1587) | ((with_reducible refine gate_callee (f := 46) rfl ?_); refine goesL_ (some 28) rfl rfl Try.func46 (by kernel_rfl) rfl #[.agg #[.int .i64 t1577, .int .i64 t1578, .int .i64 t1579, .slice Ao10 t1580.length co10, .slice Ao11 t1583.length co11], .int .i64 t1586] rfl (by (try simp only [List.map_toArray, List.map_cons, List.map_nil]); first | done | rfl | (simp only [List.length_drop, List.length_take]; rfl)) ?_; (with_reducible refine (spec_TableLook.calls k t1577 t1578 t1579 _ _ t1580 _ _ t1583 t1586 t1590 t1591 _ ?side1 ?side2 ?side3 ?side4 A5.out).mono ?_); (case side1 => repeat (first | exact (Kd.R_reads' HO1582.out).2.2 | (with_reducible refine Kd.C_alloc ?_ _) | (with_reducible refine Kd.C_drewN ?_ _) | (with_reducible refine Kd.C_drew ?_))); (case side2 => exact (Kd.R_reads' HO1582.out).2.1); (case side3 => repeat (first | exact (Kd.R_reads' HO1585.out).2.2 | (with_reducible refine Kd.C_alloc ?_ _) | (with_reducible refine Kd.C_drewN ?_ _) | (with_reducible refine Kd.C_drew ?_))); (case side4 => exact (Kd.R_reads' HO1585.out).2.1); rintro e w14 ⟨rfl, hb⟩; refine ⟨_, rfl, ?_⟩; have n0_ := Aside0.mk (Kd.R_below (by (with_reducible repeat (first | apply Kd.R_alloc | apply Kd.R_drewN | apply Kd.R_drew)); exact HO1582.out) hb); have n1_ := Aside0.mk (Kd.R_below (by (with_reducible repeat (first | apply Kd.R_alloc | apply Kd.R_drewN | apply Kd.R_drew)); exact HO1585.out) hb); have n2_ := zb BK1587 hb rfl; have n3_ := Aside0.mk (below_step (by repeat first | (with_reducible first | exact HB.out | apply vA | apply vN | apply vD | refine vS ?_ GE1587.out) | exact HB.out) hb); clear HO1582; clear HO1585; clear BK1587; clear HB; have HO1582 := n0_; have HO1585 := n1_; have BK1587 := n2_; have HB := n3_; clear n0_ n1_ n2_ n3_; (try clear hb); (try clear hb2); (try clear hk); (try clear hi)))
  (try simp only [Act.put, List.setIfInBounds_toArray, List.set_cons_zero, List.set_cons_succ])
  go_cut [43] (fun v43 wc => ∃ (kq : Nat) (x43_5 : Bool), v43 = .bool x43_5 ∧ Aside0 (laws_FnTableLook.j0 kq t1586 t1588 t1589 t1590 t1591 x43_5 t1577 t1578 t1579 t1580 t1583 = some r) ∧ Aside0 (kq ≤ k) ∧ Aside0 (Kd.R (Kd.int .i64) 3 wc w.heap.size (fun _ => True) (.slice Ao10 t1580.length co10) t1580) ∧ Aside0 (Kd.R Kd.string 9 wc w.heap.size (fun _ => True) (.slice Ao11 t1583.length co11) t1583) ∧ Aside0 (wc.heap[gb1587]? = some (.cells #[.int .i64 t1577, .int .i64 t1578, .int .i64 t1579, (.slice Ao10 t1580.length co10), (.slice Ao11 t1583.length co11)] 60 (0, 0))) ∧ Aside0 (Below w.heap.size w wc))
  case first =>
   have H := HC6.out
   clear HC6
   by_cases c15 : t1588.toList = t1590.toList
   ·rw [if_pos c15] at H
    have c15b0 : (t1588.toList == t1590.toList) = true := beq_iff_eq.mpr c15
    have c15b1 : (t1588.toList != t1590.toList) = false := bne_eq_false_iff_eq.mpr c15
    clear c15
    (first | rw [c15b0] | (simp only [i64_w, i32_w]; rw [c15b0]) | skip)
    by_cases c16 : (t1589 != t1591) = true
    ·rw [if_pos c16] at H
     have c16b0 : (t1589 != t1591) = true := c16
     (try (have c16b1 : decide (t1589 = t1591) = false := by simpa using c16))
     (try (have c16b2 : (t1589 == t1591) = false := by simpa using c16))
     (try (have c16b3 : ¬ (t1589 = t1591) := by simpa using c16))
     clear c16
     have H' := Aside0.mk H
     clear H
     go_wp2
     go_meet
     case rel => exact ⟨_, (true), (by first | rfl | (simp; done) | (simp [*]; done)), H', ⟨by first | omega | exact Nat.le_refl _⟩, ⟨by (with_reducible repeat (first | apply Kd.R_alloc | apply Kd.R_drewN | apply Kd.R_drew)); exact HO1582.out⟩, ⟨by (with_reducible repeat (first | apply Kd.R_alloc | apply Kd.R_drewN | apply Kd.R_drew)); exact HO1585.out⟩, ⟨by (with_reducible repeat first | apply bN | apply bD | apply bA); exact BK1587.out⟩, ⟨by repeat first | (with_reducible first | exact HB.out | apply vA | apply vN | apply vD | refine vS ?_ GE1587.out) | exact HB.out⟩⟩
    ·rw [if_neg c16] at H
     have c16b0 : (t1589 != t1591) = false := by simpa using c16
     (try (have c16b1 : decide (t1589 = t1591) = true := by simpa using c16))
     (try (have c16b2 : (t1589 == t1591) = true := by simpa using c16))
     clear c16
     replace H := Option.bind_eq_some_iff.mp H
     obtain ⟨t1592, A170, H⟩ := H
     try dsimp only at H
     have A17 := Aside0.mk A170
     clear A170
     have H' := Aside0.mk H
     clear H
     obtain ⟨hcz18_0, hcz18_1, hcz18_2, hcz18_3, hcz18_4, hfz18_0, hfz18_1, hfz18_2, hfz18_3, hfz18_4⟩ := zc5 BK1587
     go_wp2_with (first | (go_at_call 47; (with_reducible refine (impl_TableOk.calls k t1577 t1578 t1579 _ _ t1580 _ _ t1583 t1592 _ ?side1 ?side2 ?side3 ?side4 A17.out).mono ?_); (case side1 => repeat (first | exact (Kd.R_reads' HO1582.out).2.2 | (with_reducible refine Kd.C_alloc ?_ _) | (with_reducible refine Kd.C_drewN ?_ _) | (with_reducible refine Kd.C_drew ?_))); (case side2 => exact (Kd.R_reads' HO1582.out).2.1); (case side3 => repeat (first | exact (Kd.R_reads' HO1585.out).2.2 | (with_reducible refine Kd.C_alloc ?_ _) | (with_reducible refine Kd.C_drewN ?_ _) | (with_reducible refine Kd.C_drew ?_))); (case side4 => exact (Kd.R_reads' HO1585.out).2.1); rintro e w19 ⟨rfl, hb⟩; have n0_ := Aside0.mk (Kd.R_below (by (with_reducible repeat (first | apply Kd.R_alloc | apply Kd.R_drewN | apply Kd.R_drew)); exact HO1582.out) hb); have n1_ := Aside0.mk (Kd.R_below (by (with_reducible repeat (first | apply Kd.R_alloc | apply Kd.R_drewN | apply Kd.R_drew)); exact HO1585.out) hb); have n2_ := zb BK1587 hb rfl; have n3_ := Aside0.mk (below_step (by repeat first | (with_reducible first | exact HB.out | apply vA | apply vN | apply vD | refine vS ?_ GE1587.out) | exact HB.out) hb); clear HO1582; clear HO1585; clear BK1587; clear HB; have HO1582 := n0_; have HO1585 := n1_; have BK1587 := n2_; have HB := n3_; clear n0_ n1_ n2_ n3_; (try clear hb); (try clear hb2); (try clear hk); (try clear hi)))
     go_meet
     case rel => exact ⟨_, (!t1592), (by first | rfl | (simp; done) | (simp [*]; done)), H', ⟨by first | omega | exact Nat.le_refl _⟩, ⟨by (with_reducible repeat (first | apply Kd.R_alloc | apply Kd.R_drewN | apply Kd.R_drew)); exact HO1582.out⟩, ⟨by (with_reducible repeat (first | apply Kd.R_alloc | apply Kd.R_drewN | apply Kd.R_drew)); exact HO1585.out⟩, ⟨by (with_reducible repeat first | apply bN | apply bD | apply bA); exact BK1587.out⟩, ⟨by repeat first | (with_reducible first | exact HB.out | apply vA | apply vN | apply vD | refine vS ?_ GE1587.out) | exact HB.out⟩⟩
   ·rw [if_neg c15] at H
    have c15b0 : (t1588.toList == t1590.toList) = false := beq_eq_false_iff_ne.mpr c15
    have c15b1 : (t1588.toList != t1590.toList) = true := bne_iff_ne.mpr c15
    (first | rw [c15b0] | (simp only [i64_w, i32_w]; rw [c15b0]) | skip)
    have H' := Aside0.mk H
    clear H
    go_wp2
    go_meet
    case rel => exact ⟨_, (true), (by first | rfl | (simp; done) | (simp [*]; done)), H', ⟨by first | omega | exact Nat.le_refl _⟩, ⟨by (with_reducible repeat (first | apply Kd.R_alloc | apply Kd.R_drewN | apply Kd.R_drew)); exact HO1582.out⟩, ⟨by (with_reducible repeat (first | apply Kd.R_alloc | apply Kd.R_drewN | apply Kd.R_drew)); exact HO1585.out⟩, ⟨by (with_reducible repeat first | apply bN | apply bD | apply bA); exact BK1587.out⟩, ⟨by repeat first | (with_reducible first | exact HB.out | apply vA | apply vN | apply vD | refine vS ?_ GE1587.out) | exact HB.out⟩⟩
  case rest =>
   clear HC6
   try clear c1
   try clear c2
   try clear c2b0
   try clear c2b1
   try clear p2
   try clear c4
   try clear c11
   try clear c15
   try clear c15b0
   try clear c15b1
   try clear c16
   try clear c16b0
   try clear c16b1
   try clear c16b2
   try clear hcz13_0
   try clear hcz13_1
   try clear hcz13_2
   try clear hcz13_3
   try clear hcz13_4
   try clear hcz18_0
   try clear hcz18_1
   try clear hcz18_2
   try clear hcz18_3
   try clear hcz18_4
   try clear hcz9_0
   try clear hcz9_1
   try clear hcz9_2
   try clear hcz9_3
   try clear hcz9_4
   try clear hfz13_0
   try clear hfz13_1
   try clear hfz13_2
   try clear hfz13_3
   try clear hfz13_4
   try clear hfz18_0
   try clear hfz18_1
   try clear hfz18_2
   try clear hfz18_3
   try clear hfz18_4
   try clear hfz9_0
   try clear hfz9_1
   try clear hfz9_2
   try clear hfz9_3
   try clear hfz9_4
   obtain ⟨kq, x43_5, rfl, HA, HJ5, HO_1588003, HO_1588004, BK1587, HB⟩ := hcut
   cases kq with
   | zero => exact absurd HA.out (by simp [laws_FnTableLook.j0])
   | succ kj5 =>
    have H := HA.out
    clear HA
    simp only [laws_FnTableLook.j0] at H
    by_cases c20 : x43_5 = true
    ·subst c20
     rw [if_pos rfl] at H
     by_cases c21 : t1588.toList = t1590.toList
     ·rw [if_pos c21] at H
      have c21b0 : (t1588.toList == t1590.toList) = true := beq_iff_eq.mpr c21
      have c21b1 : (t1588.toList != t1590.toList) = false := bne_eq_false_iff_eq.mpr c21
      clear c21
      obtain rfl := Option.some.inj H
      go_wp2
      go_ret
      exact ⟨by first | rfl | (simp [errW_none, errW_some] <;> rfl) | (simp [*, errW_none, errW_some] <;> rfl), by repeat first | (with_reducible first | exact HB.out | apply vA | apply vN | apply vD | refine vS ?_ GE1587.out) | exact HB.out⟩
     ·rw [if_neg c21] at H
      exact absurd H (by simp)
    ·replace c20 := Bool.eq_false_iff.mpr c20
     subst c20
     rw [if_neg (show ¬ (false = true) by decide)] at H
     have H' := Aside0.mk H
     clear H
     go_wp2
     go_loopg [9, 10] kj5 (fun kq v9 v10 w' => ∃ (x9_2 : Bool) (x10_2 : Int), v9 = .bool x9_2 ∧ v10 = .int .i64 x10_2 ∧ Aside0 (laws_FnTableLook.l0 kq t1586 t1588 t1589 x9_2 x10_2 t1577 t1578 t1579 t1580 t1583 = some r) ∧ Aside0 (kq ≤ kj5) ∧ Aside0 (Kd.R (Kd.int .i64) 3 w' w.heap.size (fun _ => True) (.slice Ao10 t1580.length co10) t1580) ∧ Aside0 (Kd.R Kd.string 9 w' w.heap.size (fun _ => True) (.slice Ao11 t1583.length co11) t1583) ∧ Aside0 (w'.heap[gb1587]? = some (.cells #[.int .i64 t1577, .int .i64 t1578, .int .i64 t1579, (.slice Ao10 t1580.length co10), (.slice Ao11 t1583.length co11)] 60 (0, 0))) ∧ Aside0 (Below w.heap.size w w'))
     case atStart => exact ⟨(false), (0), (by first | rfl | (simp; done) | (simp [*]; done)), (by first | rfl | (simp; done) | (simp [*]; done)), H', ⟨Nat.le_refl _⟩, ⟨by (with_reducible repeat (first | apply Kd.R_alloc | apply Kd.R_drewN | apply Kd.R_drew)); exact HO_1588003.out⟩, ⟨by (with_reducible repeat (first | apply Kd.R_alloc | apply Kd.R_drewN | apply Kd.R_drew)); exact HO_1588004.out⟩, ⟨by (with_reducible repeat first | apply bN | apply bD | apply bA); exact BK1587.out⟩, ⟨by repeat first | (with_reducible first | exact HB.out | apply vA | apply vN | apply vD | refine vS ?_ GE1587.out) | exact HB.out⟩⟩
     case round =>
      clear H'
      try clear c1
      try clear c2
      try clear c2b0
      try clear c2b1
      try clear p2
      try clear c4
      try clear c11
      try clear c15
      try clear c15b0
      try clear c15b1
      try clear c16
      try clear c16b0
      try clear c16b1
      try clear c16b2
      try clear c20
      try clear c21
      try clear c21b0
      try clear c21b1
      try clear hcz13_0
      try clear hcz13_1
      try clear hcz13_2
      try clear hcz13_3
      try clear hcz13_4
      try clear hcz18_0
      try clear hcz18_1
      try clear hcz18_2
      try clear hcz18_3
      try clear hcz18_4
      try clear hcz9_0
      try clear hcz9_1
      try clear hcz9_2
      try clear hcz9_3
      try clear hcz9_4
      try clear hfz13_0
      try clear hfz13_1
      try clear hfz13_2
      try clear hfz13_3
      try clear hfz13_4
      try clear hfz18_0
      try clear hfz18_1
      try clear hfz18_2
      try clear hfz18_3
      try clear hfz18_4
      try clear hfz9_0
      try clear hfz9_1
      try clear hfz9_2
      try clear hfz9_3
      try clear hfz9_4
      try clear p2
      obtain ⟨x9_2, x10_2, rfl, rfl, HA, HK2, HO_1588003, HO_1588004, BK1587, HB⟩ := hrel
      cases gk with
      | zero => exact absurd HA.out (by simp [laws_FnTableLook.l0])
      | succ k2 =>
       have H := HA.out
       clear HA
       simp only [laws_FnTableLook.l0] at H
       by_cases c22 : x10_2 < (t1580.length : Int)
       ·rw [if_pos c22] at H
        have c22b0 : decide (x10_2 < (t1580.length : Int)) = true := decide_eq_true c22
        clear c22
        by_cases c23 : x9_2 = true
        ·subst c23
         rw [if_pos rfl] at H
         have H' := Aside0.mk H
         clear H
         obtain ⟨hcz24_0, hcz24_1, hcz24_2, hcz24_3, hcz24_4, hfz24_0, hfz24_1, hfz24_2, hfz24_3, hfz24_4⟩ := zc5 BK1587
         go_wp2
         go_roundg k2
         case measure => have := HJ5.out; have := HK2.out; omega
         case rel => exact ⟨(true), (wrap64 (x10_2 + 1)), (by first | rfl | (simp; done) | (simp [*]; done)), (by first | rfl | (simp; done) | (simp [*]; done)), H', ⟨by have := HJ5.out; have := HK2.out; omega⟩, ⟨by (with_reducible repeat (first | apply Kd.R_alloc | apply Kd.R_drewN | apply Kd.R_drew)); exact HO_1588003.out⟩, ⟨by (with_reducible repeat (first | apply Kd.R_alloc | apply Kd.R_drewN | apply Kd.R_drew)); exact HO_1588004.out⟩, ⟨by (with_reducible repeat first | apply bN | apply bD | apply bA); exact BK1587.out⟩, ⟨by repeat first | (with_reducible first | exact HB.out | apply vA | apply vN | apply vD | refine vS ?_ GE1587.out) | exact HB.out⟩⟩
        ·replace c23 := Bool.eq_false_iff.mpr c23
         subst c23
         rw [if_neg (show ¬ (false = true) by decide)] at H
         by_cases c25 : 0 ≤ x10_2
         ·rw [if_pos c25] at H
          have c25b0 : decide (0 ≤ x10_2) = true := decide_eq_true c25
          clear c25
          by_cases c26 : (rd t1580 x10_2) = t1586
          ·rw [if_pos c26] at H
           have c26b0 : ((rd t1580 x10_2) == t1586) = true := beq_iff_eq.mpr c26
           have c26b1 : ((rd t1580 x10_2) != t1586) = false := bne_eq_false_iff_eq.mpr c26
           clear c26
           by_cases c27 : x10_2 < (t1583.length : Int)
           ·rw [if_pos c27] at H
            have c27b0 : decide (x10_2 < (t1583.length : Int)) = true := decide_eq_true c27
            clear c27
            have H' := Aside0.mk H
            clear H
            obtain ⟨hcz28_0, hcz28_1, hcz28_2, hcz28_3, hcz28_4, hfz28_0, hfz28_1, hfz28_2, hfz28_3, hfz28_4⟩ := zc5 BK1587
            have p1593 : 0 ≤ (x10_2 : Int) := of_decide_eq_true (by first | (with_reducible assumption) | assumption)
            have q1593 : x10_2 < (t1580.length : Int) := of_decide_eq_true (by first | (with_reducible assumption) | assumption)
            obtain ⟨ad1593, e1593, hx1593_0⟩ := Kd.at_int (Kd.R_reads' HO_1588003.out).2.2 x10_2 p1593 q1593
            cases e1593
            replace p1593 := eq_true p1593
            replace q1593 := eq_true q1593
            have p1594 : 0 ≤ (x10_2 : Int) := of_decide_eq_true (by first | (with_reducible assumption) | assumption)
            have q1594 : x10_2 < (t1583.length : Int) := of_decide_eq_true (by first | (with_reducible assumption) | assumption)
            obtain ⟨ad1594, e1594, hx1594_0⟩ := Kd.at_string (Kd.R_reads' HO_1588004.out).2.2 x10_2 p1594 q1594
            cases e1594
            replace p1594 := eq_true p1594
            replace q1594 := eq_true q1594
            go_wp2
            go_roundg k2
            case measure => have := HJ5.out; have := HK2.out; omega
            case rel => exact ⟨(((rdOf ByteArray.empty t1583 x10_2).toList == t1588.toList)), (wrap64 (x10_2 + 1)), (by first | rfl | (simp; done) | (simp [*]; done)), (by first | rfl | (simp; done) | (simp [*]; done)), H', ⟨by have := HJ5.out; have := HK2.out; omega⟩, ⟨by (with_reducible repeat (first | apply Kd.R_alloc | apply Kd.R_drewN | apply Kd.R_drew)); exact HO_1588003.out⟩, ⟨by (with_reducible repeat (first | apply Kd.R_alloc | apply Kd.R_drewN | apply Kd.R_drew)); exact HO_1588004.out⟩, ⟨by (with_reducible repeat first | apply bN | apply bD | apply bA); exact BK1587.out⟩, ⟨by repeat first | (with_reducible first | exact HB.out | apply vA | apply vN | apply vD | refine vS ?_ GE1587.out) | exact HB.out⟩⟩
           ·rw [if_neg c27] at H
            exact absurd H (by simp)
          ·rw [if_neg c26] at H
           have c26b0 : ((rd t1580 x10_2) == t1586) = false := beq_eq_false_iff_ne.mpr c26
           have c26b1 : ((rd t1580 x10_2) != t1586) = true := bne_iff_ne.mpr c26
           have H' := Aside0.mk H
           clear H
           obtain ⟨hcz29_0, hcz29_1, hcz29_2, hcz29_3, hcz29_4, hfz29_0, hfz29_1, hfz29_2, hfz29_3, hfz29_4⟩ := zc5 BK1587
           have p1593 : 0 ≤ (x10_2 : Int) := of_decide_eq_true (by first | (with_reducible assumption) | assumption)
           have q1593 : x10_2 < (t1580.length : Int) := of_decide_eq_true (by first | (with_reducible assumption) | assumption)
           obtain ⟨ad1593, e1593, hx1593_0⟩ := Kd.at_int (Kd.R_reads' HO_1588003.out).2.2 x10_2 p1593 q1593
           cases e1593
           replace p1593 := eq_true p1593
           replace q1593 := eq_true q1593
           go_wp2
           go_roundg k2
           case measure => have := HJ5.out; have := HK2.out; omega
           case rel => exact ⟨(false), (wrap64 (x10_2 + 1)), (by first | rfl | (simp; done) | (simp [*]; done)), (by first | rfl | (simp; done) | (simp [*]; done)), H', ⟨by have := HJ5.out; have := HK2.out; omega⟩, ⟨by (with_reducible repeat (first | apply Kd.R_alloc | apply Kd.R_drewN | apply Kd.R_drew)); exact HO_1588003.out⟩, ⟨by (with_reducible repeat (first | apply Kd.R_alloc | apply Kd.R_drewN | apply Kd.R_drew)); exact HO_1588004.out⟩, ⟨by (with_reducible repeat first | apply bN | apply bD | apply bA); exact BK1587.out⟩, ⟨by repeat first | (with_reducible first | exact HB.out | apply vA | apply vN | apply vD | refine vS ?_ GE1587.out) | exact HB.out⟩⟩
         ·rw [if_neg c25] at H
          exact absurd H (by simp)
       ·rw [if_neg c22] at H
        have c22b0 : decide (x10_2 < (t1580.length : Int)) = false := decide_eq_false c22
        clear c22
        obtain rfl := Option.some.inj H
        obtain ⟨hcz30_0, hcz30_1, hcz30_2, hcz30_3, hcz30_4, hfz30_0, hfz30_1, hfz30_2, hfz30_3, hfz30_4⟩ := zc5 BK1587
        go_wp2
        go_ret
        exact ⟨by first | rfl | (simp [errW_none, errW_some] <;> rfl) | (simp [*, errW_none, errW_some] <;> rfl), by repeat first | (with_reducible first | exact HB.out | apply vA | apply vN | apply vD | refine vS ?_ GE1587.out) | exact HB.out⟩

/-- THE ONE PURE STATEMENT of laws_FnTableLook: yours. -/
def laws_FnTableLook.Pure : Prop := ∀ (l0 : List Int), l0.length ≤ maxLen → l0.length * 1 ≤ 140737488351232 → (∀ x ∈ l0, (Lit.int .u8 x).wf = true) → ∃ k, laws_FnTableLook.f k l0 = some true
theorem laws_FnTableLook.walk (P : laws_FnTableLook.Pure) (a0 : Option Addr) (len0 cap0 : Nat) (z0 : List Int) (w : World) (w0 : (a0 = none ∧ len0 = 0 ∧ cap0 = 0 ∧ z0 = []) ∨ ∃ x, a0 = some x ∧ len0 ≤ cap0 ∧ cap0 ≤ maxLen ∧ z0.length = cap0 ∧ (∀ i, i < z0.length → w.cell? (x.add i) = some (.int .u8 (z0.getD i 0))) ∧ ∀ n ∈ z0, (Lit.int .u8 n).wf = true) (y0 : len0 * 1 ≤ 140737488351232) :
  Calls Try.prog 11 #[.slice a0 len0 cap0] w fun e w' => e = .returned (.bool true) ∧ Below w.heap.size w w' := by
 obtain ⟨l0, rfl, hr0, hm0, hw0, hc0⟩ := ReadsInt.ofRowC w0
 obtain ⟨k, h⟩ := P l0 hm0 y0 hw0
 refine (laws_FnTableLook.calls k _ _ l0 true w (Kd.C_of_reads (d := (0 : Int)) (h1 := fun _ => rfl) hr0) hc0 h).mono ?_
 rintro e w' ⟨rfl, hd⟩
 exact ⟨rfl, hd⟩

end Go.Proofs.Ytcobkligpdaanaa.Q
