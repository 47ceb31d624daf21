/- The machine's side of this seat's laws: Go functions as Lean functions, and their contracts. By a program of this work over the kit's print. -/
import Derived.Test.YtcobkligpdaanaaQ0
import Derived.Test.YtcobkligpdaanaaQ3
import Derived.Test.YtcobkligpdaanaaQ46
import Derived.Test.YtcobkligpdaanaaQ49
import Derived.Test.YtcobkligpdaanaaQ50
import Derived.Test.YtcobkligpdaanaaQ52
import Derived.Test.YtcobkligpdaanaaQ53
namespace Go.Proofs.Ytcobkligpdaanaa.Q
open Go.RowKit Go.Proofs.YtcobkligpdaanaaW.PrintWords Go.Proofs.YtcobkligpdaanaaW.PrintLast Go.Proofs.YtcobkligpdaanaaW.PrintMore
attribute [local go_sem] max2_int min2_int max_two min_two max_three min_three max_four min_four Go.Proofs.YtcobkligpdaanaaN.not_i64 Go.Proofs.YtcobkligpdaanaaN.isSome_setCell   -- for this text's walks alone
set_option linter.unusedVariables false
set_option linter.unusedSimpArgs false

/-! ### spec_DrawTableNext: function 48 -/
def spec_DrawTableNext.f (k : Nat) (l0 : List Int) : Option (Int × Int × Int × List Int × List ByteArray × Int) := (spec_l20Open.f l0).bind fun bt1596 => ((spec_l20AnyTable.f k bt1596.1 bt1596.2).bind fun bt1599 => ((spec_l20Key.f k bt1596.1 bt1599.2.2.2.2.2).bind fun bt1610 => (some (bt1599.1, bt1599.2.1, bt1599.2.2.1, bt1599.2.2.2.1, bt1599.2.2.2.2.1, bt1610.1))))

set_option maxHeartbeats 8000000 in
set_option maxRecDepth 100000 in
theorem spec_DrawTableNext.calls (k : Nat) (A0 : Option Addr) (c0 : Nat) (l0 : List Int) (r1 : Int) (r2 : Int) (r3 : Int) (r4 : List Int) (r5 : List ByteArray) (r6 : Int) (w : World) (hr0 : Kd.C (Kd.int .u8) w A0 l0.length l0) (hc0 : l0.length ≤ c0) (h : spec_DrawTableNext.f k l0 = some (r1, r2, r3, r4, r5, r6)) :
  Calls Try.prog 48 #[.slice A0 l0.length c0] w fun e w' => ∃ v3_ v4_ : Value, e = .returned (.tuple #[.agg #[.int .i64 r1, .int .i64 r2, .int .i64 r3, v3_, v4_], .int .i64 r6]) ∧ Kd.R (Kd.int .i64) 3 w' w.heap.size (fun _ => True) v3_ r4 ∧ Kd.R Kd.string 9 w' w.heap.size (fun _ => True) v4_ r5 ∧ Below w.heap.size w w' := by
 have hu60 := Try.underlying60
 have HR0 := Aside0.mk hr0
 have HC0 := Aside0.mk hc0
 clear hr0 hc0
 have HB := Aside0.mk (Below.refl w.heap.size w)
 have H : ((spec_l20Open.f l0).bind fun bt1596 => ((spec_l20AnyTable.f k bt1596.1 bt1596.2).bind fun bt1599 => ((spec_l20Key.f k bt1596.1 bt1599.2.2.2.2.2).bind fun bt1610 => (some (bt1599.1, bt1599.2.1, bt1599.2.2.1, bt1599.2.2.2.1, bt1599.2.2.2.2.1, bt1610.1))))) = some (r1, r2, r3, r4, r5, r6) := h
 clear h
 replace H := Option.bind_eq_some_iff.mp H
 obtain ⟨⟨t1596, t1597⟩, A20, H⟩ := H
 try dsimp only at H
 have A2 := Aside0.mk A20
 clear A20
 replace H := Option.bind_eq_some_iff.mp H
 obtain ⟨⟨t1599, t1600, t1601, t1602, t1605, t1608⟩, A30, H⟩ := H
 try dsimp only at H
 have A3 := Aside0.mk A30
 clear A30
 replace H := Option.bind_eq_some_iff.mp H
 obtain ⟨⟨t1610, t1611⟩, A40, H⟩ := H
 try dsimp only at H
 have A4 := Aside0.mk A40
 clear A40
 simp only [Option.some.injEq, Prod.mk.injEq] at H
 obtain ⟨rfl, rfl, rfl, rfl, rfl, rfl⟩ := H
 go_enter Try.func48, Try.ntmps48
 try go_wp2_with (first | ((with_reducible refine gate_dst (N := 2) rfl ?_); refine box_event ?hg (N := 2) ?hd (cs := #[.int .i64 0, .int .i64 0, .int .i64 0, .slice none 0 0, .slice none 0 0]) (t := 60) ?hr ?_; (case hd => rfl); (case hg => rfl); (case hr => first | (go_simp; done) | (go_simp; rfl)); intro gb1595 hg w5 hbox hb; have n0_ := Aside0.mk (below_step (by repeat first | (with_reducible first | exact HB.out | apply vA | apply vN | apply vD) | exact HB.out) hb); have n1_ := Aside0.mk (hbox); have n2_ := Aside0.mk ((by rw [hg]; exact (below_size (by repeat first | (with_reducible first | exact HB.out | apply vA | apply vN | apply vD) | exact HB.out)) : w.heap.size ≤ gb1595)); have n3_ := n2_; clear HB; have HB := n0_; have BK1595 := n1_; have GW1595 := n2_; have GE1595 := n3_; clear n0_ n1_ n2_ n3_; clear hb hbox hg) | ((with_reducible refine gate_callee (f := 52) rfl ?_); refine goesL_ (some 7) rfl rfl Try.func52 (by kernel_rfl) rfl #[.slice A0 l0.length c0] rfl (by (try simp only [List.map_toArray, List.map_cons, List.map_nil]); first | done | rfl | (simp only [List.length_drop, List.length_take]; rfl)) ?_; (with_reducible refine (spec_l20Open.calls _ _ l0 t1596 t1597 w _ ?side1 ?side2 ?side3 A2.out).mono ?_); (case side1 => repeat (first | (with_reducible first | exact HB.out | apply below_alloc | apply pw_below_drewN | apply below_drew1 | refine below_set ?_ GE1595.out) | exact HB.out)); (case side2 => exact HR0.out); (case side3 => exact HC0.out); rintro e w6 ⟨g1598, rfl, hi, hb, hb2⟩; refine ⟨_, rfl, ?_⟩; have n0_ := Aside0.mk (blk_below (g := gb1595) (o := .cells #[.int .i64 0, .int .i64 0, .int .i64 0, .slice none 0 0, .slice none 0 0] 60 (0, 0)) (by (with_reducible repeat first | apply bN | apply bD | apply bA); exact BK1595.out) hb2); have n1_ := Aside0.mk (hb); have n2_ := Aside0.mk (hi); have n3_ := Aside0.mk (IsS101.ne_blk hi (blk_below (g := gb1595) (o := .cells #[.int .i64 0, .int .i64 0, .int .i64 0, .slice none 0 0, .slice none 0 0] 60 (0, 0)) (by (with_reducible repeat first | apply bN | apply bD | apply bA); exact BK1595.out) hb2) (by decide)); have n4_ := Aside0.mk (Ne.symm (IsS101.ne_blk hi (blk_below (g := gb1595) (o := .cells #[.int .i64 0, .int .i64 0, .int .i64 0, .slice none 0 0, .slice none 0 0] 60 (0, 0)) (by (with_reducible repeat first | apply bN | apply bD | apply bA); exact BK1595.out) hb2) (by decide))); clear BK1595; clear HB; have BK1595 := n0_; have HB := n1_; have HI1598 := n2_; have NB1598_1595 := n3_; have NB1595_1598 := n4_; clear n0_ n1_ n2_ n3_ n4_; (try clear hb); (try clear hb2); (try clear hk); (try clear hi)) | ((with_reducible refine gate_callee (f := 89) rfl ?_); refine goesL_ (some 9) rfl rfl Try.func89 (by kernel_rfl) rfl #[.pointer (some ⟨g1598, 0, none⟩)] rfl (by (try simp only [List.map_toArray, List.map_cons, List.map_nil]); first | done | rfl | (simp only [List.length_drop, List.length_take]; rfl)) ?_; (with_reducible refine (spec_l20AnyTable.calls k g1598 t1596 t1597 t1599 t1600 t1601 t1602 t1605 t1608 w _ ?side1 ?side2 A3.out).mono ?_); (case side1 => repeat (first | (with_reducible first | exact HI1598.out | apply IsS101.alloc | apply IsS101.drewN | apply IsS101.drew | apply IsS101.set_1 | refine IsS101.far ?_ NB1598_1595.out _) | exact HI1598.out)); (case side2 => repeat (first | (with_reducible first | exact HB.out | apply below_alloc | apply pw_below_drewN | apply below_drew1 | refine below_set ?_ (IsS101.ge HI1598.out) | refine below_set ?_ GE1595.out) | exact HB.out)); rintro e w7 ⟨v1603, v1606, rfl, ho0, ho1, hi, hb, hk⟩; refine ⟨_, rfl, ?_⟩; have n0_ := Aside0.mk (KeepBut.blk hk (g' := gb1595) (o := .cells #[.int .i64 0, .int .i64 0, .int .i64 0, .slice none 0 0, .slice none 0 0] 60 (0, 0)) (by (with_reducible repeat first | apply bN | apply bD | apply bA); exact BK1595.out) NB1595_1598.out (by simp)); have n1_ := Aside0.mk (Kd.R_lower ho0 (below_size (by repeat (first | (with_reducible first | exact HB.out | apply below_alloc | apply pw_below_drewN | apply below_drew1 | refine below_set ?_ (IsS101.ge HI1598.out) | refine below_set ?_ GE1595.out) | exact HB.out)))); have n2_ := Aside0.mk (Kd.R_lower ho1 (below_size (by repeat (first | (with_reducible first | exact HB.out | apply below_alloc | apply pw_below_drewN | apply below_drew1 | refine below_set ?_ (IsS101.ge HI1598.out) | refine below_set ?_ GE1595.out) | exact HB.out)))); have n3_ := Aside0.mk (hb); have n4_ := Aside0.mk (hi); clear BK1595; clear HB; clear HI1598; have BK1595 := n0_; have HO1604 := n1_; have HO1607 := n2_; have HB := n3_; have HI1598 := n4_; clear n0_ n1_ n2_ n3_ n4_; (try clear hb); (try clear hb2); (try clear hk); (try clear hi); (try clear ho0); (try clear ho1)) | ((with_reducible refine gate_dst (N := 5) rfl ?_); refine box_event ?hg (N := 5) ?hd (cs := #[.int .i64 0, .int .i64 0, .int .i64 0, .slice none 0 0, .slice none 0 0]) (t := 60) ?hr ?_; (case hd => rfl); (case hg => rfl); (case hr => first | (go_simp; done) | (go_simp; rfl)); intro gb1609 hg w8 hbox hb; have n0_ := Aside0.mk (Kd.R_below (by (with_reducible repeat (first | apply Kd.R_alloc | apply Kd.R_drewN | apply Kd.R_drew)); exact HO1604.out) hb); have n1_ := Aside0.mk (Kd.R_below (by (with_reducible repeat (first | apply Kd.R_alloc | apply Kd.R_drewN | apply Kd.R_drew)); exact HO1607.out) hb); have n2_ := zb BK1595 hb rfl; have n3_ := Aside0.mk (IsS101.below (by repeat (first | (with_reducible first | exact HI1598.out | apply IsS101.alloc | apply IsS101.drewN | apply IsS101.drew | apply IsS101.set_1 | refine IsS101.far ?_ NB1598_1595.out _) | exact HI1598.out)) hb); have n4_ := Aside0.mk (below_step (by repeat (first | (with_reducible first | exact HB.out | apply below_alloc | apply pw_below_drewN | apply below_drew1 | refine below_set ?_ (IsS101.ge HI1598.out) | refine below_set ?_ GE1595.out) | exact HB.out)) hb); have n5_ := Aside0.mk (hbox); have n6_ := Aside0.mk ((by rw [hg]; exact (below_size (by repeat (first | (with_reducible first | exact HB.out | apply below_alloc | apply pw_below_drewN | apply below_drew1 | refine below_set ?_ (IsS101.ge HI1598.out) | refine below_set ?_ GE1595.out) | exact HB.out))) : w.heap.size ≤ gb1609)); have n7_ := n6_; have n8_ := zl BK1595 hg rfl; have n9_ := zg BK1595 hg rfl; have n10_ := Aside0.mk ((by rw [hg]; exact Nat.ne_of_lt (IsS101.lt (show IsS101 w _ g1598 t1596 t1608 from by repeat (first | (with_reducible first | exact HI1598.out | apply IsS101.alloc | apply IsS101.drewN | apply IsS101.drew | apply IsS101.set_1 | refine IsS101.far ?_ NB1598_1595.out _) | exact HI1598.out))) : g1598 ≠ gb1609)); have n11_ := Aside0.mk ((by rw [hg]; exact Nat.ne_of_gt (IsS101.lt (show IsS101 w _ g1598 t1596 t1608 from by repeat (first | (with_reducible first | exact HI1598.out | apply IsS101.alloc | apply IsS101.drewN | apply IsS101.drew | apply IsS101.set_1 | refine IsS101.far ?_ NB1598_1595.out _) | exact HI1598.out))) : gb1609 ≠ g1598)); clear HO1604; clear HO1607; clear BK1595; clear HI1598; clear HB; have HO1604 := n0_; have HO1607 := n1_; have BK1595 := n2_; have HI1598 := n3_; have HB := n4_; have BK1609 := n5_; have GW1609 := n6_; have GE1609 := n7_; have NB1595_1609 := n8_; have NB1609_1595 := n9_; have NB1598_1609 := n10_; have NB1609_1598 := n11_; clear n0_ n1_ n2_ n3_ n4_ n5_ n6_ n7_ n8_ n9_ n10_ n11_; clear hb hbox hg; have hnb9 := NB1609_1595.out; have hnc9 := NB1595_1609.out; have hnb10 := NB1609_1598.out; have hnc10 := NB1598_1609.out; obtain ⟨hcz11_0, hcz11_1, hcz11_2, hcz11_3, hcz11_4, hfz11_0, hfz11_1, hfz11_2, hfz11_3, hfz11_4⟩ := zc5 BK1609; obtain ⟨Ao12, co12, eo12⟩ := Kd.R_slice HO1604.out; subst eo12; obtain ⟨Ao13, co13, eo13⟩ := Kd.R_slice HO1607.out; subst eo13))
 have n0_ : Aside0 (Kd.R (Kd.int .i64) 3 (((((w8.setCell ⟨gb1609, 0, none⟩ (.int .i64 t1599)).setCell ⟨gb1609, 1, none⟩ (.int .i64 t1600)).setCell ⟨gb1609, 2, none⟩ (.int .i64 t1601)).setCell ⟨gb1609, 3, none⟩ (.slice Ao12 t1602.length co12)).setCell ⟨gb1609, 4, none⟩ (.slice Ao13 t1605.length co13)) w.heap.size (fun _ => True) (.slice Ao12 t1602.length co12) t1602) := ⟨by (with_reducible repeat (first | apply Kd.R_alloc | apply Kd.R_drewN | apply Kd.R_drew)); exact Kd.R_mono (Kd.R_far (p := ⟨gb1609, 4, none⟩) (Kd.R_far (p := ⟨gb1609, 3, none⟩) (Kd.R_far (p := ⟨gb1609, 2, none⟩) (Kd.R_far (p := ⟨gb1609, 1, none⟩) (Kd.R_far (p := ⟨gb1609, 0, none⟩) (Kd.R_types HO1604.out BK1609.out (by decide)) (fun _ hk => hk.2) (.int .i64 t1599)) (fun _ hk => hk.2) (.int .i64 t1600)) (fun _ hk => hk.2) (.int .i64 t1601)) (fun _ hk => hk.2) (.slice Ao12 t1602.length co12)) (fun _ hk => hk.2) (.slice Ao13 t1605.length co13)) (fun _ hk => trivial)⟩
 have n1_ : Aside0 (Kd.R Kd.string 9 (((((w8.setCell ⟨gb1609, 0, none⟩ (.int .i64 t1599)).setCell ⟨gb1609, 1, none⟩ (.int .i64 t1600)).setCell ⟨gb1609, 2, none⟩ (.int .i64 t1601)).setCell ⟨gb1609, 3, none⟩ (.slice Ao12 t1602.length co12)).setCell ⟨gb1609, 4, none⟩ (.slice Ao13 t1605.length co13)) w.heap.size (fun _ => True) (.slice Ao13 t1605.length co13) t1605) := ⟨by (with_reducible repeat (first | apply Kd.R_alloc | apply Kd.R_drewN | apply Kd.R_drew)); exact Kd.R_mono (Kd.R_far (p := ⟨gb1609, 4, none⟩) (Kd.R_far (p := ⟨gb1609, 3, none⟩) (Kd.R_far (p := ⟨gb1609, 2, none⟩) (Kd.R_far (p := ⟨gb1609, 1, none⟩) (Kd.R_far (p := ⟨gb1609, 0, none⟩) (Kd.R_types HO1607.out BK1609.out (by decide)) (fun _ hk => hk.2) (.int .i64 t1599)) (fun _ hk => hk.2) (.int .i64 t1600)) (fun _ hk => hk.2) (.int .i64 t1601)) (fun _ hk => hk.2) (.slice Ao12 t1602.length co12)) (fun _ hk => hk.2) (.slice Ao13 t1605.length co13)) (fun _ hk => trivial)⟩
 have n2_ : Aside0 ((((((w8.setCell ⟨gb1609, 0, none⟩ (.int .i64 t1599)).setCell ⟨gb1609, 1, none⟩ (.int .i64 t1600)).setCell ⟨gb1609, 2, none⟩ (.int .i64 t1601)).setCell ⟨gb1609, 3, none⟩ (.slice Ao12 t1602.length co12)).setCell ⟨gb1609, 4, none⟩ (.slice Ao13 t1605.length co13)).heap[gb1595]? = some (.cells #[.int .i64 0, .int .i64 0, .int .i64 0, .slice none 0 0, .slice none 0 0] 60 (0, 0))) := ⟨by (with_reducible repeat first | apply bN | apply bD | apply bA); refine blk_far ?_ NB1595_1609.out _; (with_reducible repeat first | apply bN | apply bD | apply bA); refine blk_far ?_ NB1595_1609.out _; (with_reducible repeat first | apply bN | apply bD | apply bA); refine blk_far ?_ NB1595_1609.out _; (with_reducible repeat first | apply bN | apply bD | apply bA); refine blk_far ?_ NB1595_1609.out _; (with_reducible repeat first | apply bN | apply bD | apply bA); refine blk_far ?_ NB1595_1609.out _; (with_reducible repeat first | apply bN | apply bD | apply bA); exact BK1595.out⟩
 have n3_ : Aside0 ((((((w8.setCell ⟨gb1609, 0, none⟩ (.int .i64 t1599)).setCell ⟨gb1609, 1, none⟩ (.int .i64 t1600)).setCell ⟨gb1609, 2, none⟩ (.int .i64 t1601)).setCell ⟨gb1609, 3, none⟩ (.slice Ao12 t1602.length co12)).setCell ⟨gb1609, 4, none⟩ (.slice Ao13 t1605.length co13)).heap[gb1609]? = some (.cells #[.int .i64 t1599, .int .i64 t1600, .int .i64 t1601, .slice Ao12 t1602.length co12, .slice Ao13 t1605.length co13] 60 (0, 0))) := ⟨by (with_reducible repeat first | apply bN | apply bD | apply bA); refine blk_put (cs := #[.int .i64 t1599, .int .i64 t1600, .int .i64 t1601, .slice Ao12 t1602.length co12, .slice none 0 0]) ?_ 4 _ rfl; (with_reducible repeat first | apply bN | apply bD | apply bA); refine blk_put (cs := #[.int .i64 t1599, .int .i64 t1600, .int .i64 t1601, .slice none 0 0, .slice none 0 0]) ?_ 3 _ rfl; (with_reducible repeat first | apply bN | apply bD | apply bA); refine blk_put (cs := #[.int .i64 t1599, .int .i64 t1600, .int .i64 0, .slice none 0 0, .slice none 0 0]) ?_ 2 _ rfl; (with_reducible repeat first | apply bN | apply bD | apply bA); refine blk_put (cs := #[.int .i64 t1599, .int .i64 0, .int .i64 0, .slice none 0 0, .slice none 0 0]) ?_ 1 _ rfl; (with_reducible repeat first | apply bN | apply bD | apply bA); refine blk_put (cs := #[.int .i64 0, .int .i64 0, .int .i64 0, .slice none 0 0, .slice none 0 0]) ?_ 0 _ rfl; (with_reducible repeat first | apply bN | apply bD | apply bA); exact BK1609.out⟩
 have n4_ : Aside0 (IsS101 w (((((w8.setCell ⟨gb1609, 0, none⟩ (.int .i64 t1599)).setCell ⟨gb1609, 1, none⟩ (.int .i64 t1600)).setCell ⟨gb1609, 2, none⟩ (.int .i64 t1601)).setCell ⟨gb1609, 3, none⟩ (.slice Ao12 t1602.length co12)).setCell ⟨gb1609, 4, none⟩ (.slice Ao13 t1605.length co13)) g1598 t1596 t1608) := ⟨by repeat (first | (with_reducible first | exact HI1598.out | apply IsS101.alloc | apply IsS101.drewN | apply IsS101.drew | apply IsS101.set_1 | refine IsS101.far ?_ NB1598_1595.out _ | refine IsS101.far ?_ NB1598_1609.out _) | exact HI1598.out)⟩
 have n5_ : Aside0 (Below w.heap.size w (((((w8.setCell ⟨gb1609, 0, none⟩ (.int .i64 t1599)).setCell ⟨gb1609, 1, none⟩ (.int .i64 t1600)).setCell ⟨gb1609, 2, none⟩ (.int .i64 t1601)).setCell ⟨gb1609, 3, none⟩ (.slice Ao12 t1602.length co12)).setCell ⟨gb1609, 4, none⟩ (.slice Ao13 t1605.length co13))) := ⟨by repeat (first | (with_reducible first | exact HB.out | apply below_alloc | apply pw_below_drewN | apply below_drew1 | refine below_set ?_ (IsS101.ge HI1598.out) | refine below_set ?_ GE1595.out | refine below_set ?_ GE1609.out) | exact HB.out)⟩
 (try clear HO1604)
 (try clear HO1607)
 (try clear BK1595)
 (try clear BK1609)
 (try clear HI1598)
 (try clear HB)
 generalize (((((w8.setCell ⟨gb1609, 0, none⟩ (.int .i64 t1599)).setCell ⟨gb1609, 1, none⟩ (.int .i64 t1600)).setCell ⟨gb1609, 2, none⟩ (.int .i64 t1601)).setCell ⟨gb1609, 3, none⟩ (.slice Ao12 t1602.length co12)).setCell ⟨gb1609, 4, none⟩ (.slice Ao13 t1605.length co13)) = w14 at n0_ n1_ n2_ n3_ n4_ n5_ ⊢
 have HO1604 := n0_
 have HO1607 := n1_
 have BK1595 := n2_
 have BK1609 := n3_
 have HI1598 := n4_
 have HB := n5_
 clear n0_ n1_ n2_ n3_ n4_ n5_
 have n0_ := Aside0.mk (Kd.R_drew HO1604.out)
 have n1_ := Aside0.mk (Kd.R_drew HO1607.out)
 have n2_ := Aside0.mk (blk_drew BK1595.out)
 have n3_ := Aside0.mk (blk_drew BK1609.out)
 have n4_ := Aside0.mk (IsS101.drew HI1598.out)
 have n5_ := Aside0.mk (below_drew1 HB.out)
 clear HO1604
 clear HO1607
 clear BK1595
 clear BK1609
 clear HI1598
 clear HB
 have HO1604 := n0_
 have HO1607 := n1_
 have BK1595 := n2_
 have BK1609 := n3_
 have HI1598 := n4_
 have HB := n5_
 clear n0_ n1_ n2_ n3_ n4_ n5_
 refine start_ (n := 5) (S := fun w' => w'.cell? ⟨gb1609, 0, none⟩ = some (.int .i64 t1599) ∧ w'.cell? ⟨gb1609, 1, none⟩ = some (.int .i64 t1600) ∧ w'.cell? ⟨gb1609, 2, none⟩ = some (.int .i64 t1601) ∧ w'.cell? ⟨gb1609, 3, none⟩ = some (.slice Ao12 t1602.length co12) ∧ w'.cell? ⟨gb1609, 4, none⟩ = some (.slice Ao13 t1605.length co13)) (ds := []) #[false, false, false, false, false] (by kernel_rfl) rfl rfl ⟨(blk_cell BK1609.out 0).trans rfl, (blk_cell BK1609.out 1).trans rfl, (blk_cell BK1609.out 2).trans rfl, (blk_cell BK1609.out 3).trans rfl, (blk_cell BK1609.out 4).trans rfl⟩ (fun hHeld => ?_)
 generalize w14.drew = w15 at HO1604 HO1607 BK1595 BK1609 HI1598 HB hHeld ⊢
 refine pure_ (i := 1) (N := some 11) (v := ?_) (a' := ?_) #[false, true, false, false, false] rfl rfl (by kernel_rfl) (fun _ _ _ h => h) (Or.inl ⟨by rfl, ?_⟩) ?_ ?_
 rotate_left
 ·intro w'
  go_simp
  with_reducible rfl
 rotate_left
 ·simp only [Act.put, List.setIfInBounds_toArray, List.set_cons_zero, List.set_cons_succ, i64_w, i32_w]
  rfl
 refine take_ (i := 0) (N := some 10) (v := ?_) (a' := ?_) #[true, true, false, false, false] rfl rfl (by kernel_rfl) (fun _ _ _ h => h) (Or.inl ⟨by rfl, ?_⟩) hHeld ?_ ?_
 rotate_left
 ·rintro w' ⟨s0, s1, s2, s3, s4⟩
  go_simp
  with_reducible rfl
 rotate_left
 ·simp only [Act.put, List.setIfInBounds_toArray, List.set_cons_zero, List.set_cons_succ, i64_w, i32_w]
  rfl
 refine one_ (i := 2) (N := some 12) #[true, true, true, false, false] rfl rfl (by kernel_rfl) (by decide) (fun K hK => ?_)
 refine goes_ Try.func90 (by kernel_rfl) rfl #[.pointer (some ⟨g1598, 0, none⟩)] (by rfl) rfl rfl (by (try simp only [List.map_toArray, List.map_cons, List.map_nil]); first | done | rfl | (simp only [List.length_drop, List.length_take]; rfl)) ?_
 with_reducible refine (spec_l20Key.calls k g1598 t1596 t1608 t1610 t1611 w _ ?side1 ?side2 A4.out).mono ?_
 (case side1 => repeat (first | (with_reducible first | exact HI1598.out | apply IsS101.alloc | apply IsS101.drewN | apply IsS101.drew | apply IsS101.set_1 | refine IsS101.far ?_ NB1598_1595.out _ | refine IsS101.far ?_ NB1598_1609.out _) | exact HI1598.out))
 (case side2 => repeat (first | (with_reducible first | exact HB.out | apply below_alloc | apply pw_below_drewN | apply below_drew1 | refine below_set ?_ (IsS101.ge HI1598.out) | refine below_set ?_ GE1595.out | refine below_set ?_ GE1609.out) | exact HB.out))
 rintro e w16 ⟨rfl, hi, hb, hk⟩
 refine ⟨_, rfl, ?_⟩
 have n0_ := Aside0.mk (KeepBut.blk hk (g' := gb1595) (o := .cells #[.int .i64 0, .int .i64 0, .int .i64 0, .slice none 0 0, .slice none 0 0] 60 (0, 0)) (by (with_reducible repeat first | apply bN | apply bD | apply bA); exact BK1595.out) NB1595_1598.out (by simp))
 have n1_ := Aside0.mk (Kd.R_mono (Kd.R_keep (IsS101.apart (show IsS101 w _ g1598 t1596 t1608 from by repeat (first | (with_reducible first | exact HI1598.out | apply IsS101.alloc | apply IsS101.drewN | apply IsS101.drew | apply IsS101.set_1 | refine IsS101.far ?_ NB1598_1595.out _ | refine IsS101.far ?_ NB1598_1609.out _) | exact HI1598.out)) (by (with_reducible repeat (first | apply Kd.R_alloc | apply Kd.R_drewN | apply Kd.R_drew)); exact HO1604.out) (by decide)) hk (fun _ h => h.2)) (fun _ h => h.1))
 have n2_ := Aside0.mk (Kd.R_mono (Kd.R_keep (IsS101.apart (show IsS101 w _ g1598 t1596 t1608 from by repeat (first | (with_reducible first | exact HI1598.out | apply IsS101.alloc | apply IsS101.drewN | apply IsS101.drew | apply IsS101.set_1 | refine IsS101.far ?_ NB1598_1595.out _ | refine IsS101.far ?_ NB1598_1609.out _) | exact HI1598.out)) (by (with_reducible repeat (first | apply Kd.R_alloc | apply Kd.R_drewN | apply Kd.R_drew)); exact HO1607.out) (by decide)) hk (fun _ h => h.2)) (fun _ h => h.1))
 have n3_ := Aside0.mk (KeepBut.blk hk (g' := gb1609) (o := .cells #[.int .i64 t1599, .int .i64 t1600, .int .i64 t1601, .slice Ao12 t1602.length co12, .slice Ao13 t1605.length co13] 60 (0, 0)) (by (with_reducible repeat first | apply bN | apply bD | apply bA); exact BK1609.out) NB1609_1598.out (by simp))
 have n4_ := Aside0.mk (hb)
 have n5_ := Aside0.mk (hi)
 clear BK1595
 clear HO1604
 clear HO1607
 clear BK1609
 clear HB
 clear HI1598
 have BK1595 := n0_
 have HO1604 := n1_
 have HO1607 := n2_
 have BK1609 := n3_
 have HB := n4_
 have HI1598 := n5_
 clear n0_ n1_ n2_ n3_ n4_ n5_
 (try clear hb)
 (try clear hb2)
 (try clear hk)
 (try clear hi)
 refine hK.out _ _ ⟨(blk_cell BK1609.out 0).trans rfl, (blk_cell BK1609.out 1).trans rfl, (blk_cell BK1609.out 2).trans rfl, (blk_cell BK1609.out 3).trans rfl, (blk_cell BK1609.out 4).trans rfl⟩ (fun hHeld => ?_)
 clear hK K
 refine norm_ (a' := ?_) ?_ ?_
 rotate_left
 ·show Act.put _ (some 12) _ = _
  simp only [Act.put, List.setIfInBounds_toArray, List.set_cons_zero, List.set_cons_succ, i64_w, i32_w]
  rfl
 refine one_ (i := 3) (N := none) #[true, true, true, true, false] rfl rfl (by kernel_rfl) (by decide) (fun K hK => ?_)
 have hs17 : w16.cell? ⟨gb1595, 0, none⟩ = some (.int .i64 0) := (blk_cell BK1595.out 0).trans rfl
 have hfs17 := blk_frozen BK1595.out 0
 have hns17_1 := NB1609_1595.out
 have hms17_1 := NB1595_1609.out
 have hs18 : w16.cell? ⟨gb1595, 1, none⟩ = some (.int .i64 0) := (blk_cell BK1595.out 1).trans rfl
 have hfs18 := blk_frozen BK1595.out 1
 have hns18_1 := NB1609_1595.out
 have hms18_1 := NB1595_1609.out
 have hs19 : w16.cell? ⟨gb1595, 2, none⟩ = some (.int .i64 0) := (blk_cell BK1595.out 2).trans rfl
 have hfs19 := blk_frozen BK1595.out 2
 have hns19_1 := NB1609_1595.out
 have hms19_1 := NB1595_1609.out
 have hs20 : w16.cell? ⟨gb1595, 3, none⟩ = some (.slice none 0 0) := (blk_cell BK1595.out 3).trans rfl
 have hfs20 := blk_frozen BK1595.out 3
 have hns20_1 := NB1609_1595.out
 have hms20_1 := NB1595_1609.out
 have hs21 : w16.cell? ⟨gb1595, 4, none⟩ = some (.slice none 0 0) := (blk_cell BK1595.out 4).trans rfl
 have hfs21 := blk_frozen BK1595.out 4
 have hns21_1 := NB1609_1595.out
 have hms21_1 := NB1595_1609.out
 refine skip_ (w1 := ?_) (by rfl) rfl ?_ ?_
 rotate_left
 ·go_simp
  rfl
 refine hK.out _ _ ⟨((cell_far (p := ⟨gb1595, _, none⟩) NB1609_1595.out _).trans (((cell_far (p := ⟨gb1595, _, none⟩) NB1609_1595.out _).trans (((cell_far (p := ⟨gb1595, _, none⟩) NB1609_1595.out _).trans (((cell_far (p := ⟨gb1595, _, none⟩) NB1609_1595.out _).trans (((cell_far (p := ⟨gb1595, _, none⟩) NB1609_1595.out _).trans (hHeld.1)))))))))), ((cell_far (p := ⟨gb1595, _, none⟩) NB1609_1595.out _).trans (((cell_far (p := ⟨gb1595, _, none⟩) NB1609_1595.out _).trans (((cell_far (p := ⟨gb1595, _, none⟩) NB1609_1595.out _).trans (((cell_far (p := ⟨gb1595, _, none⟩) NB1609_1595.out _).trans (((cell_far (p := ⟨gb1595, _, none⟩) NB1609_1595.out _).trans (hHeld.2.1)))))))))), ((cell_far (p := ⟨gb1595, _, none⟩) NB1609_1595.out _).trans (((cell_far (p := ⟨gb1595, _, none⟩) NB1609_1595.out _).trans (((cell_far (p := ⟨gb1595, _, none⟩) NB1609_1595.out _).trans (((cell_far (p := ⟨gb1595, _, none⟩) NB1609_1595.out _).trans (((cell_far (p := ⟨gb1595, _, none⟩) NB1609_1595.out _).trans (hHeld.2.2.1)))))))))), ((cell_far (p := ⟨gb1595, _, none⟩) NB1609_1595.out _).trans (((cell_far (p := ⟨gb1595, _, none⟩) NB1609_1595.out _).trans (((cell_far (p := ⟨gb1595, _, none⟩) NB1609_1595.out _).trans (((cell_far (p := ⟨gb1595, _, none⟩) NB1609_1595.out _).trans (((cell_far (p := ⟨gb1595, _, none⟩) NB1609_1595.out _).trans (hHeld.2.2.2.1)))))))))), ((cell_far (p := ⟨gb1595, _, none⟩) NB1609_1595.out _).trans (((cell_far (p := ⟨gb1595, _, none⟩) NB1609_1595.out _).trans (((cell_far (p := ⟨gb1595, _, none⟩) NB1609_1595.out _).trans (((cell_far (p := ⟨gb1595, _, none⟩) NB1609_1595.out _).trans (((cell_far (p := ⟨gb1595, _, none⟩) NB1609_1595.out _).trans (hHeld.2.2.2.2))))))))))⟩ (fun hHeld => ?_)
 clear hK K
 refine pure_ (i := 4) (N := some 3) (v := ?_) (a' := ?_) #[true, true, true, true, true] rfl rfl (by kernel_rfl) (fun _ _ _ h => h) (Or.inl ⟨by rfl, ?_⟩) ?_ ?_
 rotate_left
 ·intro w'
  go_simp
  with_reducible rfl
 rotate_left
 ·simp only [Act.put, List.setIfInBounds_toArray, List.set_cons_zero, List.set_cons_succ, i64_w, i32_w]
  rfl
 refine done_ (by kernel_rfl) ?_
 try go_wp2
 refine bodyPost_ret (results_ct rfl _ _ gb1595 60 #[.int .i64 t1599, .int .i64 t1600, .int .i64 t1601, .slice Ao12 t1602.length co12, .slice Ao13 t1605.length co13] (0, 0) _ rfl (by (with_reducible repeat first | apply bN | apply bD | apply bA); refine blk_put (cs := #[.int .i64 t1599, .int .i64 t1600, .int .i64 t1601, .slice Ao12 t1602.length co12, .slice none 0 0]) ?_ 4 _ rfl; (with_reducible repeat first | apply bN | apply bD | apply bA); refine blk_put (cs := #[.int .i64 t1599, .int .i64 t1600, .int .i64 t1601, .slice none 0 0, .slice none 0 0]) ?_ 3 _ rfl; (with_reducible repeat first | apply bN | apply bD | apply bA); refine blk_put (cs := #[.int .i64 t1599, .int .i64 t1600, .int .i64 0, .slice none 0 0, .slice none 0 0]) ?_ 2 _ rfl; (with_reducible repeat first | apply bN | apply bD | apply bA); refine blk_put (cs := #[.int .i64 t1599, .int .i64 0, .int .i64 0, .slice none 0 0, .slice none 0 0]) ?_ 1 _ rfl; (with_reducible repeat first | apply bN | apply bD | apply bA); refine blk_put (cs := #[.int .i64 0, .int .i64 0, .int .i64 0, .slice none 0 0, .slice none 0 0]) ?_ 0 _ rfl; (with_reducible repeat first | apply bN | apply bD | apply bA); exact BK1595.out) Try.underlying60 rfl (by kernel_rfl)) rfl ?_
 exact ⟨_, _, by first | rfl | (simp [errW_none, errW_some] <;> rfl) | (simp [*, errW_none, errW_some] <;> rfl), by (with_reducible repeat (first | apply Kd.R_alloc | apply Kd.R_drewN | apply Kd.R_drew)); exact Kd.R_mono (Kd.R_far (p := ⟨gb1595, 4, none⟩) (Kd.R_far (p := ⟨gb1595, 3, none⟩) (Kd.R_far (p := ⟨gb1595, 2, none⟩) (Kd.R_far (p := ⟨gb1595, 1, none⟩) (Kd.R_far (p := ⟨gb1595, 0, none⟩) (Kd.R_types HO1604.out BK1595.out (by decide)) (fun _ hk => hk.2) (.int .i64 t1599)) (fun _ hk => hk.2) (.int .i64 t1600)) (fun _ hk => hk.2) (.int .i64 t1601)) (fun _ hk => hk.2) (.slice Ao12 t1602.length co12)) (fun _ hk => hk.2) (.slice Ao13 t1605.length co13)) (fun _ hk => trivial), by (with_reducible repeat (first | apply Kd.R_alloc | apply Kd.R_drewN | apply Kd.R_drew)); exact Kd.R_mono (Kd.R_far (p := ⟨gb1595, 4, none⟩) (Kd.R_far (p := ⟨gb1595, 3, none⟩) (Kd.R_far (p := ⟨gb1595, 2, none⟩) (Kd.R_far (p := ⟨gb1595, 1, none⟩) (Kd.R_far (p := ⟨gb1595, 0, none⟩) (Kd.R_types HO1607.out BK1595.out (by decide)) (fun _ hk => hk.2) (.int .i64 t1599)) (fun _ hk => hk.2) (.int .i64 t1600)) (fun _ hk => hk.2) (.int .i64 t1601)) (fun _ hk => hk.2) (.slice Ao12 t1602.length co12)) (fun _ hk => hk.2) (.slice Ao13 t1605.length co13)) (fun _ hk => trivial), by repeat (first | (with_reducible first | exact HB.out | apply below_alloc | apply pw_below_drewN | apply below_drew1 | refine below_set ?_ (IsS101.ge HI1598.out) | refine below_set ?_ GE1595.out | refine below_set ?_ GE1609.out) | exact HB.out)⟩

/-! ### impl_TableNext: function 49 -/
mutual
def impl_TableNext.l0 : Nat → Int → Int → List Int → Int → Int → Int → Int → Int → List Int → List ByteArray → Option (Int × Bool)
 | 0, _, _, _, _, _, _, _, _, _, _ => none
 | k + 1, x1, x6, x10, x11, x12, x1613000, x1613001, x1613002, x1613003, x1613004 => if x12 < x11 then (if 0 ≤ x12 then (if x12 < (x10.length : Int) then (if (rd x10 x12) > x1 then (if x6 < 0 then (impl_TableNext.j1 k x1 x6 (rd x10 x12) x10 x11 x12 true x1613000 x1613001 x1613002 x1613003 x1613004) else (impl_TableNext.j1 k x1 x6 (rd x10 x12) x10 x11 x12 (decide ((rd x10 x12) < x6)) x1613000 x1613001 x1613002 x1613003 x1613004)) else (impl_TableNext.j1 k x1 x6 (rd x10 x12) x10 x11 x12 false x1613000 x1613001 x1613002 x1613003 x1613004)) else (none)) else (none)) else ((impl_TableOk.f k x1613000 x1613001 x1613002 x1613003 x1613004).bind fun t1614 => (if t1614 = true then (if x6 < 0 then (some ((-1), false)) else (some (x6, true))) else (some ((-1), false))))
def impl_TableNext.j1 : Nat → Int → Int → Int → List Int → Int → Int → Bool → Int → Int → Int → List Int → List ByteArray → Option (Int × Bool)
 | 0, _, _, _, _, _, _, _, _, _, _, _, _ => none
 | k + 1, x1, x6, x8, x10, x11, x12, x27, x1613000, x1613001, x1613002, x1613003, x1613004 => if x27 = true then (impl_TableNext.l0 k x1 x8 x10 x11 (wrap64 (x12 + 1)) x1613000 x1613001 x1613002 x1613003 x1613004) else (impl_TableNext.l0 k x1 x6 x10 x11 (wrap64 (x12 + 1)) x1613000 x1613001 x1613002 x1613003 x1613004)
end
def impl_TableNext.f (k : Nat) (a0_0 : Int) (a0_1 : Int) (a0_2 : Int) (l0_3 : List Int) (l0_4 : List ByteArray) (a1 : Int) : Option (Int × Bool) := impl_TableNext.l0 k a1 (-1) l0_3 (l0_3.length : Int) 0 a0_0 a0_1 a0_2 l0_3 l0_4


set_option maxHeartbeats 8000000 in
set_option maxRecDepth 100000 in
theorem impl_TableNext.calls (k : Nat) (a0_0 : Int) (a0_1 : Int) (a0_2 : Int) (A0_3 : Option Addr) (c0_3 : Nat) (l0_3 : List Int) (A0_4 : Option Addr) (c0_4 : Nat) (l0_4 : List ByteArray) (a1 : Int) (r1 : Int) (r2 : Bool) (w : World) (hr0_3 : Kd.C (Kd.int .i64) w A0_3 l0_3.length l0_3) (hc0_3 : l0_3.length ≤ c0_3) (hr0_4 : Kd.C Kd.string w A0_4 l0_4.length l0_4) (hc0_4 : l0_4.length ≤ c0_4) (h : impl_TableNext.f k a0_0 a0_1 a0_2 l0_3 l0_4 a1 = some (r1, r2)) :
  Calls Try.prog 49 #[.agg #[.int .i64 a0_0, .int .i64 a0_1, .int .i64 a0_2, .slice A0_3 l0_3.length c0_3, .slice A0_4 l0_4.length c0_4], .int .i64 a1] w fun e w' => e = .returned (.tuple #[.int .i64 r1, .bool r2]) ∧ Below w.heap.size w w' := by
 have hu60 := Try.underlying60
 have HR0_3 := Aside0.mk hr0_3
 have HC0_3 := Aside0.mk hc0_3
 clear hr0_3 hc0_3
 have HR0_4 := Aside0.mk hr0_4
 have HC0_4 := Aside0.mk hc0_4
 clear hr0_4 hc0_4
 have HB := Aside0.mk (Below.refl w.heap.size w)
 have H : (impl_TableNext.l0 k a1 (-1) l0_3 (l0_3.length : Int) 0 a0_0 a0_1 a0_2 l0_3 l0_4) = some (r1, r2) := h
 clear h
 have H' := Aside0.mk H
 clear H
 go_enter Try.func49, Try.ntmps49
 go_wp2_with (first | ((with_reducible refine gate_dst (N := 2) rfl ?_); refine box_event ?hg (N := 2) ?hd (cs := #[.int .i64 a0_0, .int .i64 a0_1, .int .i64 a0_2, .slice A0_3 l0_3.length c0_3, .slice A0_4 l0_4.length c0_4]) (t := 60) ?hr ?_; (case hd => rfl); (case hg => rfl); (case hr => first | (go_simp; done) | (go_simp; rfl)); intro gb1612 hg w3 hbox hb; have n0_ := Aside0.mk (below_step (by repeat first | (with_reducible first | exact HB.out | apply vA | apply vN | apply vD) | exact HB.out) hb); have n1_ := Aside0.mk (hbox); have n2_ := Aside0.mk ((by rw [hg]; exact (below_size (by repeat first | (with_reducible first | exact HB.out | apply vA | apply vN | apply vD) | exact HB.out)) : w.heap.size ≤ gb1612)); have n3_ := n2_; clear HB; have HB := n0_; have BK1612 := n1_; have GW1612 := n2_; have GE1612 := n3_; clear n0_ n1_ n2_ n3_; clear hb hbox hg; obtain ⟨hcz4_0, hcz4_1, hcz4_2, hcz4_3, hcz4_4, hfz4_0, hfz4_1, hfz4_2, hfz4_3, hfz4_4⟩ := zc5 BK1612))
 go_loopg [6, 12] k (fun kq v6 v12 w' => ∃ (x6_1 : Int) (x12_1 : Int), v6 = .int .i64 x6_1 ∧ v12 = .int .i64 x12_1 ∧ Aside0 (impl_TableNext.l0 kq a1 x6_1 l0_3 (l0_3.length : Int) x12_1 a0_0 a0_1 a0_2 l0_3 l0_4 = some (r1, r2)) ∧ Aside0 (kq ≤ k) ∧ Aside0 (w'.heap[gb1612]? = some (.cells #[.int .i64 a0_0, .int .i64 a0_1, .int .i64 a0_2, (.slice A0_3 l0_3.length c0_3), (.slice A0_4 l0_4.length c0_4)] 60 (0, 0))) ∧ Aside0 (Below w.heap.size w w'))
 case atStart => exact ⟨((-1)), (0), (by first | rfl | (simp; done) | (simp [*]; done)), (by first | rfl | (simp; done) | (simp [*]; done)), H', ⟨Nat.le_refl _⟩, ⟨by (with_reducible repeat first | apply bN | apply bD | apply bA); exact BK1612.out⟩, ⟨by repeat first | (with_reducible first | exact HB.out | apply vA | apply vN | apply vD | refine vS ?_ GE1612.out) | exact HB.out⟩⟩
 case round =>
  clear H'
  try clear p2
  try clear c4
  try clear hcz4_0
  try clear hcz4_1
  try clear hcz4_2
  try clear hcz4_3
  try clear hcz4_4
  try clear hfz4_0
  try clear hfz4_1
  try clear hfz4_2
  try clear hfz4_3
  try clear hfz4_4
  obtain ⟨x6_1, x12_1, rfl, rfl, HA, HK1, BK1612, HB⟩ := hrel
  cases gk with
  | zero => exact absurd HA.out (by simp [impl_TableNext.l0])
  | succ k1 =>
   have H := HA.out
   clear HA
   simp only [impl_TableNext.l0] at H
   by_cases c5 : x12_1 < (l0_3.length : Int)
   ·rw [if_pos c5] at H
    have c5b0 : decide (x12_1 < (l0_3.length : Int)) = true := decide_eq_true c5
    clear c5
    by_cases c6 : 0 ≤ x12_1
    ·rw [if_pos c6] at H
     have c6b0 : decide (0 ≤ x12_1) = true := decide_eq_true c6
     clear c6
     by_cases c7 : x12_1 < (l0_3.length : Int)
     ·rw [if_pos c7] at H
      have c7b0 : decide (x12_1 < (l0_3.length : Int)) = true := decide_eq_true c7
      clear c7
      have HC8 := Aside0.mk H
      clear H
      have p1613 : 0 ≤ (x12_1 : Int) := of_decide_eq_true (by first | (with_reducible assumption) | assumption)
      have q1613 : x12_1 < (l0_3.length : Int) := of_decide_eq_true (by first | (with_reducible assumption) | assumption)
      obtain ⟨ad1613, e1613, hx1613_0⟩ := Kd.at_int HR0_3.out x12_1 p1613 q1613
      cases e1613
      replace hx1613_0 := (HB.out.cell (World.block_lt_of_cell? w _ hx1613_0)).trans hx1613_0
      replace p1613 := eq_true p1613
      replace q1613 := eq_true q1613
      go_upto_region 5 with (fail)
      go_cut [27] (fun v27 wc => ∃ (kq : Nat) (x27_7 : Bool), v27 = .bool x27_7 ∧ Aside0 (impl_TableNext.j1 kq a1 x6_1 (rd l0_3 x12_1) l0_3 (l0_3.length : Int) x12_1 x27_7 a0_0 a0_1 a0_2 l0_3 l0_4 = some (r1, r2)) ∧ Aside0 (kq ≤ k1) ∧ Aside0 (wc.heap[gb1612]? = some (.cells #[.int .i64 a0_0, .int .i64 a0_1, .int .i64 a0_2, (.slice (some ad1613) l0_3.length c0_3), (.slice A0_4 l0_4.length c0_4)] 60 (0, 0))) ∧ Aside0 (Below w.heap.size w wc))
      case first =>
       have H := HC8.out
       clear HC8
       by_cases c9 : (rd l0_3 x12_1) > a1
       ·rw [if_pos c9] at H
        have c9b0 : decide (a1 < (rd l0_3 x12_1)) = true := decide_eq_true c9
        clear c9
        (first | rw [c9b0] | (simp only [i64_w, i32_w]; rw [c9b0]) | skip)
        by_cases c10 : x6_1 < 0
        ·rw [if_pos c10] at H
         have c10b0 : decide (x6_1 < 0) = true := decide_eq_true c10
         clear c10
         have H' := Aside0.mk H
         clear H
         go_wp2
         go_meet
         case rel => exact ⟨_, (true), (by first | rfl | (simp; done) | (simp [*]; done)), H', ⟨by have := HK1.out; first | omega | exact Nat.le_refl _⟩, ⟨by (with_reducible repeat first | apply bN | apply bD | apply bA); exact BK1612.out⟩, ⟨by repeat first | (with_reducible first | exact HB.out | apply vA | apply vN | apply vD | refine vS ?_ GE1612.out) | exact HB.out⟩⟩
        ·rw [if_neg c10] at H
         have c10b0 : decide (x6_1 < 0) = false := decide_eq_false c10
         clear c10
         have H' := Aside0.mk H
         clear H
         go_wp2
         go_meet
         case rel => exact ⟨_, (decide ((rd l0_3 x12_1) < x6_1)), (by first | rfl | (simp; done) | (simp [*]; done)), H', ⟨by have := HK1.out; first | omega | exact Nat.le_refl _⟩, ⟨by (with_reducible repeat first | apply bN | apply bD | apply bA); exact BK1612.out⟩, ⟨by repeat first | (with_reducible first | exact HB.out | apply vA | apply vN | apply vD | refine vS ?_ GE1612.out) | exact HB.out⟩⟩
       ·rw [if_neg c9] at H
        have c9b0 : decide (a1 < (rd l0_3 x12_1)) = false := decide_eq_false c9
        clear c9
        (first | rw [c9b0] | (simp only [i64_w, i32_w]; rw [c9b0]) | skip)
        have H' := Aside0.mk H
        clear H
        go_wp2
        go_meet
        case rel => exact ⟨_, (false), (by first | rfl | (simp; done) | (simp [*]; done)), H', ⟨by have := HK1.out; first | omega | exact Nat.le_refl _⟩, ⟨by (with_reducible repeat first | apply bN | apply bD | apply bA); exact BK1612.out⟩, ⟨by repeat first | (with_reducible first | exact HB.out | apply vA | apply vN | apply vD | refine vS ?_ GE1612.out) | exact HB.out⟩⟩
      case rest =>
       clear HC8
       try clear c1
       try clear p1
       try clear q1
       try clear hx1
       try clear p2
       try clear c4
       try clear c5
       try clear c5b0
       try clear c6
       try clear c6b0
       try clear c7
       try clear c7b0
       try clear c9
       try clear c9b0
       try clear c10
       try clear c10b0
       try clear hcz4_0
       try clear hcz4_1
       try clear hcz4_2
       try clear hcz4_3
       try clear hcz4_4
       try clear hfz4_0
       try clear hfz4_1
       try clear hfz4_2
       try clear hfz4_3
       try clear hfz4_4
       try clear hx1613_0
       try clear p1613
       try clear p2
       try clear q1613
       obtain ⟨kq, x27_7, rfl, HA, HJ7, BK1612, HB⟩ := hcut
       cases kq with
       | zero => exact absurd HA.out (by simp [impl_TableNext.j1])
       | succ kj7 =>
        have H := HA.out
        clear HA
        simp only [impl_TableNext.j1] at H
        by_cases c11 : x27_7 = true
        ·subst c11
         rw [if_pos rfl] at H
         have H' := Aside0.mk H
         clear H
         go_wp2
         go_roundg kj7
         case measure => have := HK1.out; have := HJ7.out; omega
         case rel => exact ⟨((rd l0_3 x12_1)), (wrap64 (x12_1 + 1)), (by first | rfl | (simp; done) | (simp [*]; done)), (by first | rfl | (simp; done) | (simp [*]; done)), H', ⟨by have := HK1.out; have := HJ7.out; omega⟩, ⟨by (with_reducible repeat first | apply bN | apply bD | apply bA); exact BK1612.out⟩, ⟨by repeat first | (with_reducible first | exact HB.out | apply vA | apply vN | apply vD | refine vS ?_ GE1612.out) | exact HB.out⟩⟩
        ·replace c11 := Bool.eq_false_iff.mpr c11
         subst c11
         rw [if_neg (show ¬ (false = true) by decide)] at H
         have H' := Aside0.mk H
         clear H
         go_wp2
         go_roundg kj7
         case measure => have := HK1.out; have := HJ7.out; omega
         case rel => exact ⟨(x6_1), (wrap64 (x12_1 + 1)), (by first | rfl | (simp; done) | (simp [*]; done)), (by first | rfl | (simp; done) | (simp [*]; done)), H', ⟨by have := HK1.out; have := HJ7.out; omega⟩, ⟨by (with_reducible repeat first | apply bN | apply bD | apply bA); exact BK1612.out⟩, ⟨by repeat first | (with_reducible first | exact HB.out | apply vA | apply vN | apply vD | refine vS ?_ GE1612.out) | exact HB.out⟩⟩
     ·rw [if_neg c7] at H
      exact absurd H (by simp)
    ·rw [if_neg c6] at H
     exact absurd H (by simp)
   ·rw [if_neg c5] at H
    have c5b0 : decide (x12_1 < (l0_3.length : Int)) = false := decide_eq_false c5
    clear c5
    replace H := Option.bind_eq_some_iff.mp H
    obtain ⟨t1614, A120, H⟩ := H
    try dsimp only at H
    have A12 := Aside0.mk A120
    clear A120
    by_cases c13 : t1614 = true
    ·subst c13
     rw [if_pos rfl] at H
     by_cases c14 : x6_1 < 0
     ·rw [if_pos c14] at H
      have c14b0 : decide (x6_1 < 0) = true := decide_eq_true c14
      clear c14
      simp only [Option.some.injEq, Prod.mk.injEq] at H
      obtain ⟨rfl, rfl⟩ := H
      obtain ⟨hcz15_0, hcz15_1, hcz15_2, hcz15_3, hcz15_4, hfz15_0, hfz15_1, hfz15_2, hfz15_3, hfz15_4⟩ := zc5 BK1612
      go_wp2_with (first | ((with_reducible refine gate_callee (f := 47) rfl ?_); refine goesL_ (some 31) rfl rfl Try.func47 (by kernel_rfl) rfl #[.agg #[.int .i64 a0_0, .int .i64 a0_1, .int .i64 a0_2, .slice A0_3 l0_3.length c0_3, .slice A0_4 l0_4.length c0_4]] rfl (by (try simp only [List.map_toArray, List.map_cons, List.map_nil]); first | done | rfl | (simp only [List.length_drop, List.length_take]; rfl)) ?_; (with_reducible refine (impl_TableOk.calls k1 a0_0 a0_1 a0_2 _ _ l0_3 _ _ l0_4 true _ ?side1 ?side2 ?side3 ?side4 A12.out).mono ?_); (case side1 => repeat (first | exact (Kd.C_below HR0_3.out HB.out) | (with_reducible refine Kd.C_alloc ?_ _) | (with_reducible refine Kd.C_drewN ?_ _) | (with_reducible refine Kd.C_drew ?_))); (case side2 => exact HC0_3.out); (case side3 => repeat (first | exact (Kd.C_below HR0_4.out HB.out) | (with_reducible refine Kd.C_alloc ?_ _) | (with_reducible refine Kd.C_drewN ?_ _) | (with_reducible refine Kd.C_drew ?_))); (case side4 => exact HC0_4.out); rintro e w16 ⟨rfl, hb⟩; refine ⟨_, rfl, ?_⟩; have n0_ := zb BK1612 hb rfl; have n1_ := Aside0.mk (below_step (by repeat first | (with_reducible first | exact HB.out | apply vA | apply vN | apply vD | refine vS ?_ GE1612.out) | exact HB.out) hb); clear BK1612; clear HB; have BK1612 := n0_; have HB := n1_; clear n0_ n1_; (try clear hb); (try clear hb2); (try clear hk); (try clear hi)))
      go_ret2
      exact ⟨by first | rfl | (simp [errW_none, errW_some] <;> rfl) | (simp [*, errW_none, errW_some] <;> rfl), by repeat first | (with_reducible first | exact HB.out | apply vA | apply vN | apply vD | refine vS ?_ GE1612.out) | exact HB.out⟩
     ·rw [if_neg c14] at H
      have c14b0 : decide (x6_1 < 0) = false := decide_eq_false c14
      clear c14
      simp only [Option.some.injEq, Prod.mk.injEq] at H
      obtain ⟨rfl, rfl⟩ := H
      obtain ⟨hcz17_0, hcz17_1, hcz17_2, hcz17_3, hcz17_4, hfz17_0, hfz17_1, hfz17_2, hfz17_3, hfz17_4⟩ := zc5 BK1612
      go_wp2_with (first | ((with_reducible refine gate_callee (f := 47) rfl ?_); refine goesL_ (some 31) rfl rfl Try.func47 (by kernel_rfl) rfl #[.agg #[.int .i64 a0_0, .int .i64 a0_1, .int .i64 a0_2, .slice A0_3 l0_3.length c0_3, .slice A0_4 l0_4.length c0_4]] rfl (by (try simp only [List.map_toArray, List.map_cons, List.map_nil]); first | done | rfl | (simp only [List.length_drop, List.length_take]; rfl)) ?_; (with_reducible refine (impl_TableOk.calls k1 a0_0 a0_1 a0_2 _ _ l0_3 _ _ l0_4 true _ ?side1 ?side2 ?side3 ?side4 A12.out).mono ?_); (case side1 => repeat (first | exact (Kd.C_below HR0_3.out HB.out) | (with_reducible refine Kd.C_alloc ?_ _) | (with_reducible refine Kd.C_drewN ?_ _) | (with_reducible refine Kd.C_drew ?_))); (case side2 => exact HC0_3.out); (case side3 => repeat (first | exact (Kd.C_below HR0_4.out HB.out) | (with_reducible refine Kd.C_alloc ?_ _) | (with_reducible refine Kd.C_drewN ?_ _) | (with_reducible refine Kd.C_drew ?_))); (case side4 => exact HC0_4.out); rintro e w18 ⟨rfl, hb⟩; refine ⟨_, rfl, ?_⟩; have n0_ := zb BK1612 hb rfl; have n1_ := Aside0.mk (below_step (by repeat first | (with_reducible first | exact HB.out | apply vA | apply vN | apply vD | refine vS ?_ GE1612.out) | exact HB.out) hb); clear BK1612; clear HB; have BK1612 := n0_; have HB := n1_; clear n0_ n1_; (try clear hb); (try clear hb2); (try clear hk); (try clear hi)))
      go_ret2
      exact ⟨by first | rfl | (simp [errW_none, errW_some] <;> rfl) | (simp [*, errW_none, errW_some] <;> rfl), by repeat first | (with_reducible first | exact HB.out | apply vA | apply vN | apply vD | refine vS ?_ GE1612.out) | exact HB.out⟩
    ·replace c13 := Bool.eq_false_iff.mpr c13
     subst c13
     rw [if_neg (show ¬ (false = true) by decide)] at H
     simp only [Option.some.injEq, Prod.mk.injEq] at H
     obtain ⟨rfl, rfl⟩ := H
     obtain ⟨hcz19_0, hcz19_1, hcz19_2, hcz19_3, hcz19_4, hfz19_0, hfz19_1, hfz19_2, hfz19_3, hfz19_4⟩ := zc5 BK1612
     go_wp2_with (first | ((with_reducible refine gate_callee (f := 47) rfl ?_); refine goesL_ (some 31) rfl rfl Try.func47 (by kernel_rfl) rfl #[.agg #[.int .i64 a0_0, .int .i64 a0_1, .int .i64 a0_2, .slice A0_3 l0_3.length c0_3, .slice A0_4 l0_4.length c0_4]] rfl (by (try simp only [List.map_toArray, List.map_cons, List.map_nil]); first | done | rfl | (simp only [List.length_drop, List.length_take]; rfl)) ?_; (with_reducible refine (impl_TableOk.calls k1 a0_0 a0_1 a0_2 _ _ l0_3 _ _ l0_4 false _ ?side1 ?side2 ?side3 ?side4 A12.out).mono ?_); (case side1 => repeat (first | exact (Kd.C_below HR0_3.out HB.out) | (with_reducible refine Kd.C_alloc ?_ _) | (with_reducible refine Kd.C_drewN ?_ _) | (with_reducible refine Kd.C_drew ?_))); (case side2 => exact HC0_3.out); (case side3 => repeat (first | exact (Kd.C_below HR0_4.out HB.out) | (with_reducible refine Kd.C_alloc ?_ _) | (with_reducible refine Kd.C_drewN ?_ _) | (with_reducible refine Kd.C_drew ?_))); (case side4 => exact HC0_4.out); rintro e w20 ⟨rfl, hb⟩; refine ⟨_, rfl, ?_⟩; have n0_ := zb BK1612 hb rfl; have n1_ := Aside0.mk (below_step (by repeat first | (with_reducible first | exact HB.out | apply vA | apply vN | apply vD | refine vS ?_ GE1612.out) | exact HB.out) hb); clear BK1612; clear HB; have BK1612 := n0_; have HB := n1_; clear n0_ n1_; (try clear hb); (try clear hb2); (try clear hk); (try clear hi)))
     go_ret2
     exact ⟨by first | rfl | (simp [errW_none, errW_some] <;> rfl) | (simp [*, errW_none, errW_some] <;> rfl), by repeat first | (with_reducible first | exact HB.out | apply vA | apply vN | apply vD | refine vS ?_ GE1612.out) | exact HB.out⟩

/-! ### spec_TableNext: function 50 -/
mutual
def spec_TableNext.l0 : Nat → Int → Int → Int → Int → Int → Int → List Int → List ByteArray → Option (Int × Bool)
 | 0, _, _, _, _, _, _, _, _ => none
 | k + 1, x1, x6, x7, x1616000, x1616001, x1616002, x1616003, x1616004 => if x7 < (x1616003.length : Int) then (if 0 ≤ x7 then (if (rd x1616003 x7) > x1 then (if x6 < 0 then (spec_TableNext.j1 k x1 x6 x7 true x1616000 x1616001 x1616002 x1616003 x1616004) else (spec_TableNext.j1 k x1 x6 x7 (decide ((rd x1616003 x7) < x6)) x1616000 x1616001 x1616002 x1616003 x1616004)) else (spec_TableNext.j1 k x1 x6 x7 false x1616000 x1616001 x1616002 x1616003 x1616004)) else (none)) else (some (x6, decide (x6 ≥ 0)))
def spec_TableNext.j1 : Nat → Int → Int → Int → Bool → Int → Int → Int → List Int → List ByteArray → Option (Int × Bool)
 | 0, _, _, _, _, _, _, _, _, _ => none
 | k + 1, x1, x6, x7, x37, x1616000, x1616001, x1616002, x1616003, x1616004 => if x37 = true then (if 0 ≤ x7 then (if x7 < (x1616003.length : Int) then (spec_TableNext.l0 k x1 (rd x1616003 x7) (wrap64 (x7 + 1)) x1616000 x1616001 x1616002 x1616003 x1616004) else (none)) else (none)) else (spec_TableNext.l0 k x1 x6 (wrap64 (x7 + 1)) x1616000 x1616001 x1616002 x1616003 x1616004)
end
def spec_TableNext.f (k : Nat) (a0_0 : Int) (a0_1 : Int) (a0_2 : Int) (l0_3 : List Int) (l0_4 : List ByteArray) (a1 : Int) : Option (Int × Bool) := (spec_l3Ok.f k a0_0 a0_1 a0_2 l0_3 l0_4).bind fun t1616 => (if t1616 = true then (spec_TableNext.l0 k a1 (-1) 0 a0_0 a0_1 a0_2 l0_3 l0_4) else (some ((-1), false)))


set_option maxHeartbeats 8000000 in
set_option maxRecDepth 100000 in
theorem spec_TableNext.calls (k : Nat) (a0_0 : Int) (a0_1 : Int) (a0_2 : Int) (A0_3 : Option Addr) (c0_3 : Nat) (l0_3 : List Int) (A0_4 : Option Addr) (c0_4 : Nat) (l0_4 : List ByteArray) (a1 : Int) (r1 : Int) (r2 : Bool) (w : World) (hr0_3 : Kd.C (Kd.int .i64) w A0_3 l0_3.length l0_3) (hc0_3 : l0_3.length ≤ c0_3) (hr0_4 : Kd.C Kd.string w A0_4 l0_4.length l0_4) (hc0_4 : l0_4.length ≤ c0_4) (h : spec_TableNext.f k a0_0 a0_1 a0_2 l0_3 l0_4 a1 = some (r1, r2)) :
  Calls Try.prog 50 #[.agg #[.int .i64 a0_0, .int .i64 a0_1, .int .i64 a0_2, .slice A0_3 l0_3.length c0_3, .slice A0_4 l0_4.length c0_4], .int .i64 a1] w fun e w' => e = .returned (.tuple #[.int .i64 r1, .bool r2]) ∧ Below w.heap.size w w' := by
 have hu60 := Try.underlying60
 have HR0_3 := Aside0.mk hr0_3
 have HC0_3 := Aside0.mk hc0_3
 clear hr0_3 hc0_3
 have HR0_4 := Aside0.mk hr0_4
 have HC0_4 := Aside0.mk hc0_4
 clear hr0_4 hc0_4
 have HB := Aside0.mk (Below.refl w.heap.size w)
 have H : ((spec_l3Ok.f k a0_0 a0_1 a0_2 l0_3 l0_4).bind fun t1616 => (if t1616 = true then (spec_TableNext.l0 k a1 (-1) 0 a0_0 a0_1 a0_2 l0_3 l0_4) else (some ((-1), false)))) = some (r1, r2) := h
 clear h
 replace H := Option.bind_eq_some_iff.mp H
 obtain ⟨t1616, A30, H⟩ := H
 try dsimp only at H
 have A3 := Aside0.mk A30
 clear A30
 by_cases c4 : t1616 = true
 ·subst c4
  rw [if_pos rfl] at H
  have H' := Aside0.mk H
  clear H
  go_enter Try.func50, Try.ntmps50
  go_wp2_with (first | ((with_reducible refine gate_dst (N := 2) rfl ?_); refine box_event ?hg (N := 2) ?hd (cs := #[.int .i64 a0_0, .int .i64 a0_1, .int .i64 a0_2, .slice A0_3 l0_3.length c0_3, .slice A0_4 l0_4.length c0_4]) (t := 60) ?hr ?_; (case hd => rfl); (case hg => rfl); (case hr => first | (go_simp; done) | (go_simp; rfl)); intro gb1615 hg w5 hbox hb; have n0_ := Aside0.mk (below_step (by repeat first | (with_reducible first | exact HB.out | apply vA | apply vN | apply vD) | exact HB.out) hb); have n1_ := Aside0.mk (hbox); have n2_ := Aside0.mk ((by rw [hg]; exact (below_size (by repeat first | (with_reducible first | exact HB.out | apply vA | apply vN | apply vD) | exact HB.out)) : w.heap.size ≤ gb1615)); have n3_ := n2_; clear HB; have HB := n0_; have BK1615 := n1_; have GW1615 := n2_; have GE1615 := n3_; clear n0_ n1_ n2_ n3_; clear hb hbox hg; obtain ⟨hcz6_0, hcz6_1, hcz6_2, hcz6_3, hcz6_4, hfz6_0, hfz6_1, hfz6_2, hfz6_3, hfz6_4⟩ := zc5 BK1615) | ((with_reducible refine gate_callee (f := 92) rfl ?_); refine goesL_ (some 9) rfl rfl Try.func92 (by kernel_rfl) rfl #[.agg #[.int .i64 a0_0, .int .i64 a0_1, .int .i64 a0_2, .slice A0_3 l0_3.length c0_3, .slice A0_4 l0_4.length c0_4]] rfl (by (try simp only [List.map_toArray, List.map_cons, List.map_nil]); first | done | rfl | (simp only [List.length_drop, List.length_take]; rfl)) ?_; (with_reducible refine (spec_l3Ok.calls k a0_0 a0_1 a0_2 _ _ l0_3 _ _ l0_4 true _ ?side1 ?side2 ?side3 ?side4 A3.out).mono ?_); (case side1 => repeat (first | exact (Kd.C_below HR0_3.out HB.out) | (with_reducible refine Kd.C_alloc ?_ _) | (with_reducible refine Kd.C_drewN ?_ _) | (with_reducible refine Kd.C_drew ?_))); (case side2 => exact HC0_3.out); (case side3 => repeat (first | exact (Kd.C_below HR0_4.out HB.out) | (with_reducible refine Kd.C_alloc ?_ _) | (with_reducible refine Kd.C_drewN ?_ _) | (with_reducible refine Kd.C_drew ?_))); (case side4 => exact HC0_4.out); rintro e w7 ⟨rfl, hb⟩; refine ⟨_, rfl, ?_⟩; have n0_ := zb BK1615 hb rfl; have n1_ := Aside0.mk (below_step (by repeat first | (with_reducible first | exact HB.out | apply vA | apply vN | apply vD | refine vS ?_ GE1615.out) | exact HB.out) hb); clear BK1615; clear HB; have BK1615 := n0_; have HB := n1_; clear n0_ n1_; (try clear hb); (try clear hb2); (try clear hk); (try clear hi)))
  go_loopg [6, 7] k (fun kq v6 v7 w' => ∃ (x6_1 : Int) (x7_1 : Int), v6 = .int .i64 x6_1 ∧ v7 = .int .i64 x7_1 ∧ Aside0 (spec_TableNext.l0 kq a1 x6_1 x7_1 a0_0 a0_1 a0_2 l0_3 l0_4 = some (r1, r2)) ∧ Aside0 (kq ≤ k) ∧ Aside0 (w'.heap[gb1615]? = some (.cells #[.int .i64 a0_0, .int .i64 a0_1, .int .i64 a0_2, (.slice A0_3 l0_3.length c0_3), (.slice A0_4 l0_4.length c0_4)] 60 (0, 0))) ∧ Aside0 (Below w.heap.size w w'))
  case atStart => exact ⟨((-1)), (0), (by first | rfl | (simp; done) | (simp [*]; done)), (by first | rfl | (simp; done) | (simp [*]; done)), H', ⟨Nat.le_refl _⟩, ⟨by (with_reducible repeat first | apply bN | apply bD | apply bA); exact BK1615.out⟩, ⟨by repeat first | (with_reducible first | exact HB.out | apply vA | apply vN | apply vD | refine vS ?_ GE1615.out) | exact HB.out⟩⟩
  case round =>
   clear H'
   try clear p2
   try clear c4
   try clear c5
   try clear hcz6_0
   try clear hcz6_1
   try clear hcz6_2
   try clear hcz6_3
   try clear hcz6_4
   try clear hfz6_0
   try clear hfz6_1
   try clear hfz6_2
   try clear hfz6_3
   try clear hfz6_4
   obtain ⟨x6_1, x7_1, rfl, rfl, HA, HK1, BK1615, HB⟩ := hrel
   cases gk with
   | zero => exact absurd HA.out (by simp [spec_TableNext.l0])
   | succ k1 =>
    have H := HA.out
    clear HA
    simp only [spec_TableNext.l0] at H
    by_cases c8 : x7_1 < (l0_3.length : Int)
    ·rw [if_pos c8] at H
     have c8b0 : decide (x7_1 < (l0_3.length : Int)) = true := decide_eq_true c8
     clear c8
     have HC9 := Aside0.mk H
     clear H
     obtain ⟨hcz10_0, hcz10_1, hcz10_2, hcz10_3, hcz10_4, hfz10_0, hfz10_1, hfz10_2, hfz10_3, hfz10_4⟩ := zc5 BK1615
     go_upto_region 7 with (fail)
     go_cut [37] (fun v37 wc => ∃ (kq : Nat) (x37_8 : Bool), v37 = .bool x37_8 ∧ Aside0 (spec_TableNext.j1 kq a1 x6_1 x7_1 x37_8 a0_0 a0_1 a0_2 l0_3 l0_4 = some (r1, r2)) ∧ Aside0 (kq ≤ k1) ∧ Aside0 (wc.heap[gb1615]? = some (.cells #[.int .i64 a0_0, .int .i64 a0_1, .int .i64 a0_2, (.slice A0_3 l0_3.length c0_3), (.slice A0_4 l0_4.length c0_4)] 60 (0, 0))) ∧ Aside0 (Below w.heap.size w wc))
     case first =>
      have H := HC9.out
      clear HC9
      by_cases c11 : 0 ≤ x7_1
      ·rw [if_pos c11] at H
       have c11b0 : decide (0 ≤ x7_1) = true := decide_eq_true c11
       clear c11
       (first | rw [c11b0] | (simp only [i64_w, i32_w]; rw [c11b0]) | skip)
       by_cases c12 : (rd l0_3 x7_1) > a1
       ·rw [if_pos c12] at H
        have c12b0 : decide (a1 < (rd l0_3 x7_1)) = true := decide_eq_true c12
        clear c12
        by_cases c13 : x6_1 < 0
        ·rw [if_pos c13] at H
         have c13b0 : decide (x6_1 < 0) = true := decide_eq_true c13
         clear c13
         have H' := Aside0.mk H
         clear H
         obtain ⟨hcz14_0, hcz14_1, hcz14_2, hcz14_3, hcz14_4, hfz14_0, hfz14_1, hfz14_2, hfz14_3, hfz14_4⟩ := zc5 BK1615
         have p1617 : 0 ≤ (x7_1 : Int) := of_decide_eq_true (by first | (with_reducible assumption) | assumption)
         have q1617 : x7_1 < (l0_3.length : Int) := of_decide_eq_true (by first | (with_reducible assumption) | assumption)
         obtain ⟨ad1617, e1617, hx1617_0⟩ := Kd.at_int HR0_3.out x7_1 p1617 q1617
         cases e1617
         replace hx1617_0 := (HB.out.cell (World.block_lt_of_cell? w _ hx1617_0)).trans hx1617_0
         replace p1617 := eq_true p1617
         replace q1617 := eq_true q1617
         go_wp2
         go_meet
         case rel => exact ⟨_, (true), (by first | rfl | (simp; done) | (simp [*]; done)), H', ⟨by have := HK1.out; first | omega | exact Nat.le_refl _⟩, ⟨by (with_reducible repeat first | apply bN | apply bD | apply bA); exact BK1615.out⟩, ⟨by repeat first | (with_reducible first | exact HB.out | apply vA | apply vN | apply vD | refine vS ?_ GE1615.out) | exact HB.out⟩⟩
        ·rw [if_neg c13] at H
         have c13b0 : decide (x6_1 < 0) = false := decide_eq_false c13
         clear c13
         have H' := Aside0.mk H
         clear H
         obtain ⟨hcz15_0, hcz15_1, hcz15_2, hcz15_3, hcz15_4, hfz15_0, hfz15_1, hfz15_2, hfz15_3, hfz15_4⟩ := zc5 BK1615
         have p1617 : 0 ≤ (x7_1 : Int) := of_decide_eq_true (by first | (with_reducible assumption) | assumption)
         have q1617 : x7_1 < (l0_3.length : Int) := of_decide_eq_true (by first | (with_reducible assumption) | assumption)
         obtain ⟨ad1617, e1617, hx1617_0⟩ := Kd.at_int HR0_3.out x7_1 p1617 q1617
         cases e1617
         replace hx1617_0 := (HB.out.cell (World.block_lt_of_cell? w _ hx1617_0)).trans hx1617_0
         replace p1617 := eq_true p1617
         replace q1617 := eq_true q1617
         have p1618 : 0 ≤ (x7_1 : Int) := of_decide_eq_true (by first | (with_reducible assumption) | assumption)
         have q1618 : x7_1 < (l0_3.length : Int) := of_decide_eq_true (by first | (with_reducible assumption) | assumption)
         obtain ⟨ad1618, e1618, hx1618_0⟩ := Kd.at_int HR0_3.out x7_1 p1618 q1618
         obtain rfl : ad1617 = ad1618 := (by injection e1618)
         replace hx1618_0 := (HB.out.cell (World.block_lt_of_cell? w _ hx1618_0)).trans hx1618_0
         replace p1618 := eq_true p1618
         replace q1618 := eq_true q1618
         go_wp2
         go_meet
         case rel => exact ⟨_, (decide ((rd l0_3 x7_1) < x6_1)), (by first | rfl | (simp; done) | (simp [*]; done)), H', ⟨by have := HK1.out; first | omega | exact Nat.le_refl _⟩, ⟨by (with_reducible repeat first | apply bN | apply bD | apply bA); exact BK1615.out⟩, ⟨by repeat first | (with_reducible first | exact HB.out | apply vA | apply vN | apply vD | refine vS ?_ GE1615.out) | exact HB.out⟩⟩
       ·rw [if_neg c12] at H
        have c12b0 : decide (a1 < (rd l0_3 x7_1)) = false := decide_eq_false c12
        clear c12
        have H' := Aside0.mk H
        clear H
        obtain ⟨hcz16_0, hcz16_1, hcz16_2, hcz16_3, hcz16_4, hfz16_0, hfz16_1, hfz16_2, hfz16_3, hfz16_4⟩ := zc5 BK1615
        have p1617 : 0 ≤ (x7_1 : Int) := of_decide_eq_true (by first | (with_reducible assumption) | assumption)
        have q1617 : x7_1 < (l0_3.length : Int) := of_decide_eq_true (by first | (with_reducible assumption) | assumption)
        obtain ⟨ad1617, e1617, hx1617_0⟩ := Kd.at_int HR0_3.out x7_1 p1617 q1617
        cases e1617
        replace hx1617_0 := (HB.out.cell (World.block_lt_of_cell? w _ hx1617_0)).trans hx1617_0
        replace p1617 := eq_true p1617
        replace q1617 := eq_true q1617
        go_wp2
        go_meet
        case rel => exact ⟨_, (false), (by first | rfl | (simp; done) | (simp [*]; done)), H', ⟨by have := HK1.out; first | omega | exact Nat.le_refl _⟩, ⟨by (with_reducible repeat first | apply bN | apply bD | apply bA); exact BK1615.out⟩, ⟨by repeat first | (with_reducible first | exact HB.out | apply vA | apply vN | apply vD | refine vS ?_ GE1615.out) | exact HB.out⟩⟩
      ·rw [if_neg c11] at H
       exact absurd H (by simp)
     case rest =>
      clear HC9
      try clear c1
      try clear p1
      try clear q1
      try clear hx1
      try clear p2
      try clear c4
      try clear c5
      try clear c8
      try clear c8b0
      try clear c9
      try clear c11
      try clear c11b0
      try clear c12
      try clear c12b0
      try clear c13
      try clear c13b0
      try clear p16
      try clear q16
      try clear hx16
      try clear hcz10_0
      try clear hcz10_1
      try clear hcz10_2
      try clear hcz10_3
      try clear hcz10_4
      try clear hcz14_0
      try clear hcz14_1
      try clear hcz14_2
      try clear hcz14_3
      try clear hcz14_4
      try clear hcz15_0
      try clear hcz15_1
      try clear hcz15_2
      try clear hcz15_3
      try clear hcz15_4
      try clear hcz16_0
      try clear hcz16_1
      try clear hcz16_2
      try clear hcz16_3
      try clear hcz16_4
      try clear hcz6_0
      try clear hcz6_1
      try clear hcz6_2
      try clear hcz6_3
      try clear hcz6_4
      try clear hfz10_0
      try clear hfz10_1
      try clear hfz10_2
      try clear hfz10_3
      try clear hfz10_4
      try clear hfz14_0
      try clear hfz14_1
      try clear hfz14_2
      try clear hfz14_3
      try clear hfz14_4
      try clear hfz15_0
      try clear hfz15_1
      try clear hfz15_2
      try clear hfz15_3
      try clear hfz15_4
      try clear hfz16_0
      try clear hfz16_1
      try clear hfz16_2
      try clear hfz16_3
      try clear hfz16_4
      try clear hfz6_0
      try clear hfz6_1
      try clear hfz6_2
      try clear hfz6_3
      try clear hfz6_4
      try clear hx1617_0
      try clear hx1618_0
      try clear p1617
      try clear p1618
      try clear p2
      try clear q1617
      try clear q1618
      obtain ⟨kq, x37_8, rfl, HA, HJ8, BK1615, HB⟩ := hcut
      cases kq with
      | zero => exact absurd HA.out (by simp [spec_TableNext.j1])
      | succ kj8 =>
       have H := HA.out
       clear HA
       simp only [spec_TableNext.j1] at H
       by_cases c17 : x37_8 = true
       ·subst c17
        rw [if_pos rfl] at H
        by_cases c18 : 0 ≤ x7_1
        ·rw [if_pos c18] at H
         have c18b0 : decide (0 ≤ x7_1) = true := decide_eq_true c18
         clear c18
         by_cases c19 : x7_1 < (l0_3.length : Int)
         ·rw [if_pos c19] at H
          have c19b0 : decide (x7_1 < (l0_3.length : Int)) = true := decide_eq_true c19
          clear c19
          have H' := Aside0.mk H
          clear H
          obtain ⟨hcz20_0, hcz20_1, hcz20_2, hcz20_3, hcz20_4, hfz20_0, hfz20_1, hfz20_2, hfz20_3, hfz20_4⟩ := zc5 BK1615
          have p1619 : 0 ≤ (x7_1 : Int) := of_decide_eq_true (by first | (with_reducible assumption) | assumption)
          have q1619 : x7_1 < (l0_3.length : Int) := of_decide_eq_true (by first | (with_reducible assumption) | assumption)
          obtain ⟨ad1619, e1619, hx1619_0⟩ := Kd.at_int HR0_3.out x7_1 p1619 q1619
          cases e1619
          replace hx1619_0 := (HB.out.cell (World.block_lt_of_cell? w _ hx1619_0)).trans hx1619_0
          replace p1619 := eq_true p1619
          replace q1619 := eq_true q1619
          go_wp2
          go_roundg kj8
          case measure => have := HK1.out; have := HJ8.out; omega
          case rel => exact ⟨(rd l0_3 x7_1), (wrap64 (x7_1 + 1)), (by first | rfl | (simp; done) | (simp [*]; done)), (by first | rfl | (simp; done) | (simp [*]; done)), H', ⟨by have := HK1.out; have := HJ8.out; omega⟩, ⟨by (with_reducible repeat first | apply bN | apply bD | apply bA); exact BK1615.out⟩, ⟨by repeat first | (with_reducible first | exact HB.out | apply vA | apply vN | apply vD | refine vS ?_ GE1615.out) | exact HB.out⟩⟩
         ·rw [if_neg c19] at H
          exact absurd H (by simp)
        ·rw [if_neg c18] at H
         exact absurd H (by simp)
       ·replace c17 := Bool.eq_false_iff.mpr c17
        subst c17
        rw [if_neg (show ¬ (false = true) by decide)] at H
        have H' := Aside0.mk H
        clear H
        go_wp2
        go_roundg kj8
        case measure => have := HK1.out; have := HJ8.out; omega
        case rel => exact ⟨(x6_1), (wrap64 (x7_1 + 1)), (by first | rfl | (simp; done) | (simp [*]; done)), (by first | rfl | (simp; done) | (simp [*]; done)), H', ⟨by have := HK1.out; have := HJ8.out; omega⟩, ⟨by (with_reducible repeat first | apply bN | apply bD | apply bA); exact BK1615.out⟩, ⟨by repeat first | (with_reducible first | exact HB.out | apply vA | apply vN | apply vD | refine vS ?_ GE1615.out) | exact HB.out⟩⟩
    ·rw [if_neg c8] at H
     have c8b0 : decide (x7_1 < (l0_3.length : Int)) = false := decide_eq_false c8
     clear c8
     simp only [Option.some.injEq, Prod.mk.injEq] at H
     obtain ⟨rfl, rfl⟩ := H
     obtain ⟨hcz21_0, hcz21_1, hcz21_2, hcz21_3, hcz21_4, hfz21_0, hfz21_1, hfz21_2, hfz21_3, hfz21_4⟩ := zc5 BK1615
     go_wp2
     go_ret2
     exact ⟨by first | rfl | (simp [errW_none, errW_some] <;> rfl) | (simp [*, errW_none, errW_some] <;> rfl), by repeat first | (with_reducible first | exact HB.out | apply vA | apply vN | apply vD | refine vS ?_ GE1615.out) | exact HB.out⟩
 ·replace c4 := Bool.eq_false_iff.mpr c4
  subst c4
  rw [if_neg (show ¬ (false = true) by decide)] at H
  simp only [Option.some.injEq, Prod.mk.injEq] at H
  obtain ⟨rfl, rfl⟩ := H
  go_enter Try.func50, Try.ntmps50
  go_wp2_with (first | ((with_reducible refine gate_dst (N := 2) rfl ?_); refine box_event ?hg (N := 2) ?hd (cs := #[.int .i64 a0_0, .int .i64 a0_1, .int .i64 a0_2, .slice A0_3 l0_3.length c0_3, .slice A0_4 l0_4.length c0_4]) (t := 60) ?hr ?_; (case hd => rfl); (case hg => rfl); (case hr => first | (go_simp; done) | (go_simp; rfl)); intro gb1615 hg w22 hbox hb; have n0_ := Aside0.mk (below_step (by repeat first | (with_reducible first | exact HB.out | apply vA | apply vN | apply vD) | exact HB.out) hb); have n1_ := Aside0.mk (hbox); have n2_ := Aside0.mk ((by rw [hg]; exact (below_size (by repeat first | (with_reducible first | exact HB.out | apply vA | apply vN | apply vD) | exact HB.out)) : w.heap.size ≤ gb1615)); have n3_ := n2_; clear HB; have HB := n0_; have BK1615 := n1_; have GW1615 := n2_; have GE1615 := n3_; clear n0_ n1_ n2_ n3_; clear hb hbox hg; obtain ⟨hcz23_0, hcz23_1, hcz23_2, hcz23_3, hcz23_4, hfz23_0, hfz23_1, hfz23_2, hfz23_3, hfz23_4⟩ := zc5 BK1615) | ((with_reducible refine gate_callee (f := 92) rfl ?_); refine goesL_ (some 9) rfl rfl Try.func92 (by kernel_rfl) rfl #[.agg #[.int .i64 a0_0, .int .i64 a0_1, .int .i64 a0_2, .slice A0_3 l0_3.length c0_3, .slice A0_4 l0_4.length c0_4]] rfl (by (try simp only [List.map_toArray, List.map_cons, List.map_nil]); first | done | rfl | (simp only [List.length_drop, List.length_take]; rfl)) ?_; (with_reducible refine (spec_l3Ok.calls k a0_0 a0_1 a0_2 _ _ l0_3 _ _ l0_4 false _ ?side1 ?side2 ?side3 ?side4 A3.out).mono ?_); (case side1 => repeat (first | exact (Kd.C_below HR0_3.out HB.out) | (with_reducible refine Kd.C_alloc ?_ _) | (with_reducible refine Kd.C_drewN ?_ _) | (with_reducible refine Kd.C_drew ?_))); (case side2 => exact HC0_3.out); (case side3 => repeat (first | exact (Kd.C_below HR0_4.out HB.out) | (with_reducible refine Kd.C_alloc ?_ _) | (with_reducible refine Kd.C_drewN ?_ _) | (with_reducible refine Kd.C_drew ?_))); (case side4 => exact HC0_4.out); rintro e w24 ⟨rfl, hb⟩; refine ⟨_, rfl, ?_⟩; have n0_ := zb BK1615 hb rfl; have n1_ := Aside0.mk (below_step (by repeat first | (with_reducible first | exact HB.out | apply vA | apply vN | apply vD | refine vS ?_ GE1615.out) | exact HB.out) hb); clear BK1615; clear HB; have BK1615 := n0_; have HB := n1_; clear n0_ n1_; (try clear hb); (try clear hb2); (try clear hk); (try clear hi)))
  go_ret2
  exact ⟨by first | rfl | (simp [errW_none, errW_some] <;> rfl) | (simp [*, errW_none, errW_some] <;> rfl), by repeat first | (with_reducible first | exact HB.out | apply vA | apply vN | apply vD | refine vS ?_ GE1615.out) | exact HB.out⟩

/-! ### laws_FnTableNext: function 12 -/
mutual
def laws_FnTableNext.j0 : Nat → Int → Int → Bool → Int → Bool → Bool → Int → Int → Int → List Int → List ByteArray → Option (Bool)
 | 0, _, _, _, _, _, _, _, _, _, _, _ => none
 | k + 1, x4, x5, x6, x7, x8, x47, x1631000, x1631001, x1631002, x1631003, x1631004 => if x47 = true then (if x5 = x7 then (some (x6 == x8)) else (none)) else (laws_FnTableNext.l0 k x4 x5 x6 0 (-1) x1631000 x1631001 x1631002 x1631003 x1631004)
def laws_FnTableNext.l0 : Nat → Int → Int → Bool → Int → Int → Int → Int → Int → List Int → List ByteArray → Option (Bool)
 | 0, _, _, _, _, _, _, _, _, _, _ => none
 | k + 1, x4, x5, x6, x9, x10, x1631000, x1631001, x1631002, x1631003, x1631004 => (impl_TableNext.f k x1631000 x1631001 x1631002 x1631003 x1631004 x10).bind fun bt1636 => (if bt1636.2 = true then ((impl_TableLook.f k x1631000 x1631001 x1631002 x1631003 x1631004 bt1636.1).bind fun bt1638 => (if bt1636.1 ≤ x10 then (none) else (if bt1638.2 = true then (laws_FnTableNext.l0 k x4 x5 x6 (wrap64 (x9 + 1)) bt1636.1 x1631000 x1631001 x1631002 x1631003 x1631004) else (none)))) else (if x9 = (x1631003.length : Int) then (if x6 = true then (some (decide (x5 > x4))) else (some true)) else (none)))
end
def laws_FnTableNext.f (k : Nat) (l0 : List Int) : Option (Bool) := if (l0.length : Int) > 1048576 then (some true) else ((spec_DrawTableNext.f k l0).bind fun bt1620 => ((impl_TableNext.f k bt1620.1 bt1620.2.1 bt1620.2.2.1 bt1620.2.2.2.1 bt1620.2.2.2.2.1 bt1620.2.2.2.2.2).bind fun bt1631 => ((spec_TableNext.f k bt1620.1 bt1620.2.1 bt1620.2.2.1 bt1620.2.2.2.1 bt1620.2.2.2.2.1 bt1620.2.2.2.2.2).bind fun bt1633 => (if bt1631.1 = bt1633.1 then (if (bt1631.2 != bt1633.2) = true then (laws_FnTableNext.j0 k bt1620.2.2.2.2.2 bt1631.1 bt1631.2 bt1633.1 bt1633.2 true bt1620.1 bt1620.2.1 bt1620.2.2.1 bt1620.2.2.2.1 bt1620.2.2.2.2.1) else ((impl_TableOk.f k bt1620.1 bt1620.2.1 bt1620.2.2.1 bt1620.2.2.2.1 bt1620.2.2.2.2.1).bind fun t1635 => (laws_FnTableNext.j0 k bt1620.2.2.2.2.2 bt1631.1 bt1631.2 bt1633.1 bt1633.2 (!t1635) bt1620.1 bt1620.2.1 bt1620.2.2.1 bt1620.2.2.2.1 bt1620.2.2.2.2.1))) else (laws_FnTableNext.j0 k bt1620.2.2.2.2.2 bt1631.1 bt1631.2 bt1633.1 bt1633.2 true bt1620.1 bt1620.2.1 bt1620.2.2.1 bt1620.2.2.2.1 bt1620.2.2.2.2.1)))))


set_option maxHeartbeats 8000000 in
set_option maxRecDepth 100000 in
theorem laws_FnTableNext.calls (k : Nat) (A0 : Option Addr) (c0 : Nat) (l0 : List Int) (r : Bool) (w : World) (hr0 : Kd.C (Kd.int .u8) w A0 l0.length l0) (hc0 : l0.length ≤ c0) (h : laws_FnTableNext.f k l0 = some r) :
  Calls Try.prog 12 #[.slice A0 l0.length c0] w fun e w' => e = .returned (.bool r) ∧ Below w.heap.size w w' := by
 have hu60 := Try.underlying60
 have HR0 := Aside0.mk hr0
 have HC0 := Aside0.mk hc0
 clear hr0 hc0
 have HB := Aside0.mk (Below.refl w.heap.size w)
 have H : (if (l0.length : Int) > 1048576 then (some true) else ((spec_DrawTableNext.f k l0).bind fun bt1620 => ((impl_TableNext.f k bt1620.1 bt1620.2.1 bt1620.2.2.1 bt1620.2.2.2.1 bt1620.2.2.2.2.1 bt1620.2.2.2.2.2).bind fun bt1631 => ((spec_TableNext.f k bt1620.1 bt1620.2.1 bt1620.2.2.1 bt1620.2.2.2.1 bt1620.2.2.2.2.1 bt1620.2.2.2.2.2).bind fun bt1633 => (if bt1631.1 = bt1633.1 then (if (bt1631.2 != bt1633.2) = true then (laws_FnTableNext.j0 k bt1620.2.2.2.2.2 bt1631.1 bt1631.2 bt1633.1 bt1633.2 true bt1620.1 bt1620.2.1 bt1620.2.2.1 bt1620.2.2.2.1 bt1620.2.2.2.2.1) else ((impl_TableOk.f k bt1620.1 bt1620.2.1 bt1620.2.2.1 bt1620.2.2.2.1 bt1620.2.2.2.2.1).bind fun t1635 => (laws_FnTableNext.j0 k bt1620.2.2.2.2.2 bt1631.1 bt1631.2 bt1633.1 bt1633.2 (!t1635) bt1620.1 bt1620.2.1 bt1620.2.2.1 bt1620.2.2.2.1 bt1620.2.2.2.2.1))) else (laws_FnTableNext.j0 k bt1620.2.2.2.2.2 bt1631.1 bt1631.2 bt1633.1 bt1633.2 true bt1620.1 bt1620.2.1 bt1620.2.2.1 bt1620.2.2.2.1 bt1620.2.2.2.2.1)))))) = some r := h
 clear h
 by_cases c2 : (l0.length : Int) > 1048576
 ·rw [if_pos c2] at H
  have c2b0 : decide (1048576 < (l0.length : Int)) = true := decide_eq_true c2
  have c2b1 : decide (1048576 < l0.length) = true := decide_eq_true (by omega)
  clear c2
  obtain rfl := Option.some.inj H
  go_enter Try.func12, Try.ntmps12
  go_wp2
  go_ret
  exact ⟨by first | rfl | (simp [errW_none, errW_some] <;> rfl) | (simp [*, errW_none, errW_some] <;> rfl), by repeat first | (with_reducible first | exact HB.out | apply vA | apply vN | apply vD) | exact HB.out⟩
 ·rw [if_neg c2] at H
  have c2b0 : decide (1048576 < (l0.length : Int)) = false := decide_eq_false c2
  have c2b1 : decide (1048576 < l0.length) = false := decide_eq_false (by omega)
  clear c2
  replace H := Option.bind_eq_some_iff.mp H
  obtain ⟨⟨t1620, t1621, t1622, t1623, t1626, t1629⟩, A30, H⟩ := H
  try dsimp only at H
  have A3 := Aside0.mk A30
  clear A30
  replace H := Option.bind_eq_some_iff.mp H
  obtain ⟨⟨t1631, t1632⟩, A40, H⟩ := H
  try dsimp only at H
  have A4 := Aside0.mk A40
  clear A40
  replace H := Option.bind_eq_some_iff.mp H
  obtain ⟨⟨t1633, t1634⟩, A50, H⟩ := H
  try dsimp only at H
  have A5 := Aside0.mk A50
  clear A50
  have HC6 := Aside0.mk H
  clear H
  go_enter Try.func12, Try.ntmps12
  go_upto_region 6 with (first | ((with_reducible refine gate_callee (f := 48) rfl ?_); refine goesL_ (some 20) rfl rfl Try.func48 (by kernel_rfl) rfl #[.slice A0 l0.length c0] rfl (by (try simp only [List.map_toArray, List.map_cons, List.map_nil]); first | done | rfl | (simp only [List.length_drop, List.length_take]; rfl)) ?_; (with_reducible refine (spec_DrawTableNext.calls k _ _ l0 t1620 t1621 t1622 t1623 t1626 t1629 _ ?side1 ?side2 A3.out).mono ?_); (case side1 => repeat (first | exact HR0.out | (with_reducible refine Kd.C_alloc ?_ _) | (with_reducible refine Kd.C_drewN ?_ _) | (with_reducible refine Kd.C_drew ?_))); (case side2 => exact HC0.out); rintro e w7 ⟨v1624, v1627, rfl, ho0, ho1, hb⟩; refine ⟨_, rfl, ?_⟩; have n0_ := Aside0.mk (Kd.R_lower ho0 (below_size (by repeat first | (with_reducible first | exact HB.out | apply vA | apply vN | apply vD) | exact HB.out))); have n1_ := Aside0.mk (Kd.R_lower ho1 (below_size (by repeat first | (with_reducible first | exact HB.out | apply vA | apply vN | apply vD) | exact HB.out))); have n2_ := Aside0.mk (below_step (by repeat first | (with_reducible first | exact HB.out | apply vA | apply vN | apply vD) | exact HB.out) hb); clear HB; have HO1625 := n0_; have HO1628 := n1_; have HB := n2_; clear n0_ n1_ n2_; (try clear hb); (try clear hb2); (try clear hk); (try clear hi); (try clear ho0); (try clear ho1)) | ((with_reducible refine gate_dst (N := 3) rfl ?_); refine box_event ?hg (N := 3) ?hd (cs := #[.int .i64 0, .int .i64 0, .int .i64 0, .slice none 0 0, .slice none 0 0]) (t := 60) ?hr ?_; (case hd => rfl); (case hg => rfl); (case hr => first | (go_simp; done) | (go_simp; rfl)); intro gb1630 hg w8 hbox hb; have n0_ := Aside0.mk (Kd.R_below (by (with_reducible repeat (first | apply Kd.R_alloc | apply Kd.R_drewN | apply Kd.R_drew)); exact HO1625.out) hb); have n1_ := Aside0.mk (Kd.R_below (by (with_reducible repeat (first | apply Kd.R_alloc | apply Kd.R_drewN | apply Kd.R_drew)); exact HO1628.out) hb); have n2_ := Aside0.mk (below_step (by repeat first | (with_reducible first | exact HB.out | apply vA | apply vN | apply vD) | exact HB.out) hb); have n3_ := Aside0.mk (hbox); have n4_ := Aside0.mk ((by rw [hg]; exact (below_size (by repeat first | (with_reducible first | exact HB.out | apply vA | apply vN | apply vD) | exact HB.out)) : w.heap.size ≤ gb1630)); have n5_ := n4_; clear HO1625; clear HO1628; clear HB; have HO1625 := n0_; have HO1628 := n1_; have HB := n2_; have BK1630 := n3_; have GW1630 := n4_; have GE1630 := n5_; clear n0_ n1_ n2_ n3_ n4_ n5_; clear hb hbox hg; obtain ⟨hcz9_0, hcz9_1, hcz9_2, hcz9_3, hcz9_4, hfz9_0, hfz9_1, hfz9_2, hfz9_3, hfz9_4⟩ := zc5 BK1630; obtain ⟨Ao10, co10, eo10⟩ := Kd.R_slice HO1625.out; subst eo10; obtain ⟨Ao11, co11, eo11⟩ := Kd.R_slice HO1628.out; subst eo11) | ((with_reducible refine gate_callee (f := 49) rfl ?_); refine goesL_ (some 26) rfl rfl Try.func49 (by kernel_rfl) rfl #[.agg #[.int .i64 t1620, .int .i64 t1621, .int .i64 t1622, .slice Ao10 t1623.length co10, .slice Ao11 t1626.length co11], .int .i64 t1629] rfl (by (try simp only [List.map_toArray, List.map_cons, List.map_nil]); first | done | rfl | (simp only [List.length_drop, List.length_take]; rfl)) ?_; (with_reducible refine (impl_TableNext.calls k t1620 t1621 t1622 _ _ t1623 _ _ t1626 t1629 t1631 t1632 _ ?side1 ?side2 ?side3 ?side4 A4.out).mono ?_); (case side1 => refine (Kd.R_reads' (e := 3) (base := w.heap.size) (ok := fun k_ => True) (n := t1623.length) (c := co10) ?_).2.2; exact (by (with_reducible repeat (first | apply Kd.R_alloc | apply Kd.R_drewN | apply Kd.R_drew)); exact (Kd.R_mono (Kd.R_far (p := ⟨gb1630, 4, none⟩) (Kd.R_far (p := ⟨gb1630, 3, none⟩) (Kd.R_far (p := ⟨gb1630, 2, none⟩) (Kd.R_far (p := ⟨gb1630, 1, none⟩) (Kd.R_far (p := ⟨gb1630, 0, none⟩) (Kd.R_types HO1625.out BK1630.out (by decide)) (fun _ hk => hk.2) (.int .i64 t1620)) (fun _ hk => hk.2) (.int .i64 t1621)) (fun _ hk => hk.2) (.int .i64 t1622)) (fun _ hk => hk.2) (.slice Ao10 t1623.length co10)) (fun _ hk => hk.2) (.slice Ao11 t1626.length co11)) (fun _ h_ => h_.1)))); (case side2 => exact (Kd.R_reads' HO1625.out).2.1); (case side3 => refine (Kd.R_reads' (e := 9) (base := w.heap.size) (ok := fun k_ => True) (n := t1626.length) (c := co11) ?_).2.2; exact (by (with_reducible repeat (first | apply Kd.R_alloc | apply Kd.R_drewN | apply Kd.R_drew)); exact (Kd.R_mono (Kd.R_far (p := ⟨gb1630, 4, none⟩) (Kd.R_far (p := ⟨gb1630, 3, none⟩) (Kd.R_far (p := ⟨gb1630, 2, none⟩) (Kd.R_far (p := ⟨gb1630, 1, none⟩) (Kd.R_far (p := ⟨gb1630, 0, none⟩) (Kd.R_types HO1628.out BK1630.out (by decide)) (fun _ hk => hk.2) (.int .i64 t1620)) (fun _ hk => hk.2) (.int .i64 t1621)) (fun _ hk => hk.2) (.int .i64 t1622)) (fun _ hk => hk.2) (.slice Ao10 t1623.length co10)) (fun _ hk => hk.2) (.slice Ao11 t1626.length co11)) (fun _ h_ => h_.1)))); (case side4 => exact (Kd.R_reads' HO1628.out).2.1); rintro e w12 ⟨rfl, hb⟩; refine ⟨_, rfl, ?_⟩; have n0_ := Aside0.mk (Kd.R_below (by (with_reducible repeat (first | apply Kd.R_alloc | apply Kd.R_drewN | apply Kd.R_drew)); exact (Kd.R_mono (Kd.R_far (p := ⟨gb1630, 4, none⟩) (Kd.R_far (p := ⟨gb1630, 3, none⟩) (Kd.R_far (p := ⟨gb1630, 2, none⟩) (Kd.R_far (p := ⟨gb1630, 1, none⟩) (Kd.R_far (p := ⟨gb1630, 0, none⟩) (Kd.R_types HO1625.out BK1630.out (by decide)) (fun _ hk => hk.2) (.int .i64 t1620)) (fun _ hk => hk.2) (.int .i64 t1621)) (fun _ hk => hk.2) (.int .i64 t1622)) (fun _ hk => hk.2) (.slice Ao10 t1623.length co10)) (fun _ hk => hk.2) (.slice Ao11 t1626.length co11)) (fun _ h_ => h_.1))) hb); have n1_ := Aside0.mk (Kd.R_below (by (with_reducible repeat (first | apply Kd.R_alloc | apply Kd.R_drewN | apply Kd.R_drew)); exact (Kd.R_mono (Kd.R_far (p := ⟨gb1630, 4, none⟩) (Kd.R_far (p := ⟨gb1630, 3, none⟩) (Kd.R_far (p := ⟨gb1630, 2, none⟩) (Kd.R_far (p := ⟨gb1630, 1, none⟩) (Kd.R_far (p := ⟨gb1630, 0, none⟩) (Kd.R_types HO1628.out BK1630.out (by decide)) (fun _ hk => hk.2) (.int .i64 t1620)) (fun _ hk => hk.2) (.int .i64 t1621)) (fun _ hk => hk.2) (.int .i64 t1622)) (fun _ hk => hk.2) (.slice Ao10 t1623.length co10)) (fun _ hk => hk.2) (.slice Ao11 t1626.length co11)) (fun _ h_ => h_.1))) hb); have n2_ := Aside0.mk (blk_below (g := gb1630) (o := .cells #[.int .i64 t1620, .int .i64 t1621, .int .i64 t1622, .slice Ao10 t1623.length co10, .slice Ao11 t1626.length co11] 60 (0, 0)) (by (with_reducible repeat first | apply bN | apply bD | apply bA); refine blk_put (cs := #[.int .i64 t1620, .int .i64 t1621, .int .i64 t1622, .slice Ao10 t1623.length co10, .slice none 0 0]) ?_ 4 _ rfl; (with_reducible repeat first | apply bN | apply bD | apply bA); refine blk_put (cs := #[.int .i64 t1620, .int .i64 t1621, .int .i64 t1622, .slice none 0 0, .slice none 0 0]) ?_ 3 _ rfl; (with_reducible repeat first | apply bN | apply bD | apply bA); refine blk_put (cs := #[.int .i64 t1620, .int .i64 t1621, .int .i64 0, .slice none 0 0, .slice none 0 0]) ?_ 2 _ rfl; (with_reducible repeat first | apply bN | apply bD | apply bA); refine blk_put (cs := #[.int .i64 t1620, .int .i64 0, .int .i64 0, .slice none 0 0, .slice none 0 0]) ?_ 1 _ rfl; (with_reducible repeat first | apply bN | apply bD | apply bA); refine blk_put (cs := #[.int .i64 0, .int .i64 0, .int .i64 0, .slice none 0 0, .slice none 0 0]) ?_ 0 _ rfl; (with_reducible repeat first | apply bN | apply bD | apply bA); exact BK1630.out) hb); have n3_ := Aside0.mk (below_step (by repeat first | (with_reducible first | exact HB.out | apply vA | apply vN | apply vD | refine vS ?_ GE1630.out) | exact HB.out) hb); clear HO1625; clear HO1628; clear BK1630; clear HB; have HO1625 := n0_; have HO1628 := n1_; have BK1630 := n2_; have HB := n3_; clear n0_ n1_ n2_ n3_; (try clear hb); (try clear hb2); (try clear hk); (try clear hi); obtain ⟨hcz13_0, hcz13_1, hcz13_2, hcz13_3, hcz13_4, hfz13_0, hfz13_1, hfz13_2, hfz13_3, hfz13_4⟩ := zc5 BK1630) | ((with_reducible refine gate_callee (f := 50) rfl ?_); refine goesL_ (some 32) rfl rfl Try.func50 (by kernel_rfl) rfl #[.agg #[.int .i64 t1620, .int .i64 t1621, .int .i64 t1622, .slice Ao10 t1623.length co10, .slice Ao11 t1626.length co11], .int .i64 t1629] rfl (by (try simp only [List.map_toArray, List.map_cons, List.map_nil]); first | done | rfl | (simp only [List.length_drop, List.length_take]; rfl)) ?_; (with_reducible refine (spec_TableNext.calls k t1620 t1621 t1622 _ _ t1623 _ _ t1626 t1629 t1633 t1634 _ ?side1 ?side2 ?side3 ?side4 A5.out).mono ?_); (case side1 => repeat (first | exact (Kd.R_reads' HO1625.out).2.2 | (with_reducible refine Kd.C_alloc ?_ _) | (with_reducible refine Kd.C_drewN ?_ _) | (with_reducible refine Kd.C_drew ?_))); (case side2 => exact (Kd.R_reads' HO1625.out).2.1); (case side3 => repeat (first | exact (Kd.R_reads' HO1628.out).2.2 | (with_reducible refine Kd.C_alloc ?_ _) | (with_reducible refine Kd.C_drewN ?_ _) | (with_reducible refine Kd.C_drew ?_))); (case side4 => exact (Kd.R_reads' HO1628.out).2.1); rintro e w14 ⟨rfl, hb⟩; refine ⟨_, rfl, ?_⟩; have n0_ := Aside0.mk (Kd.R_below (by (with_reducible repeat (first | apply Kd.R_alloc | apply Kd.R_drewN | apply Kd.R_drew)); exact HO1625.out) hb); have n1_ := Aside0.mk (Kd.R_below (by (with_reducible repeat (first | apply Kd.R_alloc | apply Kd.R_drewN | apply Kd.R_drew)); exact HO1628.out) hb); have n2_ := zb BK1630 hb rfl; have n3_ := Aside0.mk (below_step (by repeat first | (with_reducible first | exact HB.out | apply vA | apply vN | apply vD | refine vS ?_ GE1630.out) | exact HB.out) hb); clear HO1625; clear HO1628; clear BK1630; clear HB; have HO1625 := n0_; have HO1628 := n1_; have BK1630 := n2_; have HB := n3_; clear n0_ n1_ n2_ n3_; (try clear hb); (try clear hb2); (try clear hk); (try clear hi)))
  (try simp only [Act.put, List.setIfInBounds_toArray, List.set_cons_zero, List.set_cons_succ])
  go_cut [47] (fun v47 wc => ∃ (kq : Nat) (x47_5 : Bool), v47 = .bool x47_5 ∧ Aside0 (laws_FnTableNext.j0 kq t1629 t1631 t1632 t1633 t1634 x47_5 t1620 t1621 t1622 t1623 t1626 = some r) ∧ Aside0 (kq ≤ k) ∧ Aside0 (Kd.R (Kd.int .i64) 3 wc w.heap.size (fun _ => True) (.slice Ao10 t1623.length co10) t1623) ∧ Aside0 (Kd.R Kd.string 9 wc w.heap.size (fun _ => True) (.slice Ao11 t1626.length co11) t1626) ∧ Aside0 (wc.heap[gb1630]? = some (.cells #[.int .i64 t1620, .int .i64 t1621, .int .i64 t1622, (.slice Ao10 t1623.length co10), (.slice Ao11 t1626.length co11)] 60 (0, 0))) ∧ Aside0 (Below w.heap.size w wc))
  case first =>
   have H := HC6.out
   clear HC6
   by_cases c15 : t1631 = t1633
   ·rw [if_pos c15] at H
    have c15b0 : (t1631 == t1633) = true := beq_iff_eq.mpr c15
    have c15b1 : (t1631 != t1633) = false := bne_eq_false_iff_eq.mpr c15
    clear c15
    (first | rw [c15b0] | (simp only [i64_w, i32_w]; rw [c15b0]) | skip)
    by_cases c16 : (t1632 != t1634) = true
    ·rw [if_pos c16] at H
     have c16b0 : (t1632 != t1634) = true := c16
     (try (have c16b1 : decide (t1632 = t1634) = false := by simpa using c16))
     (try (have c16b2 : (t1632 == t1634) = false := by simpa using c16))
     (try (have c16b3 : ¬ (t1632 = t1634) := by simpa using c16))
     clear c16
     have H' := Aside0.mk H
     clear H
     go_wp2
     go_meet
     case rel => exact ⟨_, (true), (by first | rfl | (simp; done) | (simp [*]; done)), H', ⟨by first | omega | exact Nat.le_refl _⟩, ⟨by (with_reducible repeat (first | apply Kd.R_alloc | apply Kd.R_drewN | apply Kd.R_drew)); exact HO1625.out⟩, ⟨by (with_reducible repeat (first | apply Kd.R_alloc | apply Kd.R_drewN | apply Kd.R_drew)); exact HO1628.out⟩, ⟨by (with_reducible repeat first | apply bN | apply bD | apply bA); exact BK1630.out⟩, ⟨by repeat first | (with_reducible first | exact HB.out | apply vA | apply vN | apply vD | refine vS ?_ GE1630.out) | exact HB.out⟩⟩
    ·rw [if_neg c16] at H
     have c16b0 : (t1632 != t1634) = false := by simpa using c16
     (try (have c16b1 : decide (t1632 = t1634) = true := by simpa using c16))
     (try (have c16b2 : (t1632 == t1634) = true := by simpa using c16))
     clear c16
     replace H := Option.bind_eq_some_iff.mp H
     obtain ⟨t1635, A170, H⟩ := H
     try dsimp only at H
     have A17 := Aside0.mk A170
     clear A170
     have H' := Aside0.mk H
     clear H
     obtain ⟨hcz18_0, hcz18_1, hcz18_2, hcz18_3, hcz18_4, hfz18_0, hfz18_1, hfz18_2, hfz18_3, hfz18_4⟩ := zc5 BK1630
     go_wp2_with (first | (go_at_call 47; (with_reducible refine (impl_TableOk.calls k t1620 t1621 t1622 _ _ t1623 _ _ t1626 t1635 _ ?side1 ?side2 ?side3 ?side4 A17.out).mono ?_); (case side1 => repeat (first | exact (Kd.R_reads' HO1625.out).2.2 | (with_reducible refine Kd.C_alloc ?_ _) | (with_reducible refine Kd.C_drewN ?_ _) | (with_reducible refine Kd.C_drew ?_))); (case side2 => exact (Kd.R_reads' HO1625.out).2.1); (case side3 => repeat (first | exact (Kd.R_reads' HO1628.out).2.2 | (with_reducible refine Kd.C_alloc ?_ _) | (with_reducible refine Kd.C_drewN ?_ _) | (with_reducible refine Kd.C_drew ?_))); (case side4 => exact (Kd.R_reads' HO1628.out).2.1); rintro e w19 ⟨rfl, hb⟩; have n0_ := Aside0.mk (Kd.R_below (by (with_reducible repeat (first | apply Kd.R_alloc | apply Kd.R_drewN | apply Kd.R_drew)); exact HO1625.out) hb); have n1_ := Aside0.mk (Kd.R_below (by (with_reducible repeat (first | apply Kd.R_alloc | apply Kd.R_drewN | apply Kd.R_drew)); exact HO1628.out) hb); have n2_ := zb BK1630 hb rfl; have n3_ := Aside0.mk (below_step (by repeat first | (with_reducible first | exact HB.out | apply vA | apply vN | apply vD | refine vS ?_ GE1630.out) | exact HB.out) hb); clear HO1625; clear HO1628; clear BK1630; clear HB; have HO1625 := n0_; have HO1628 := n1_; have BK1630 := n2_; have HB := n3_; clear n0_ n1_ n2_ n3_; (try clear hb); (try clear hb2); (try clear hk); (try clear hi)))
     go_meet
     case rel => exact ⟨_, (!t1635), (by first | rfl | (simp; done) | (simp [*]; done)), H', ⟨by first | omega | exact Nat.le_refl _⟩, ⟨by (with_reducible repeat (first | apply Kd.R_alloc | apply Kd.R_drewN | apply Kd.R_drew)); exact HO1625.out⟩, ⟨by (with_reducible repeat (first | apply Kd.R_alloc | apply Kd.R_drewN | apply Kd.R_drew)); exact HO1628.out⟩, ⟨by (with_reducible repeat first | apply bN | apply bD | apply bA); exact BK1630.out⟩, ⟨by repeat first | (with_reducible first | exact HB.out | apply vA | apply vN | apply vD | refine vS ?_ GE1630.out) | exact HB.out⟩⟩
   ·rw [if_neg c15] at H
    have c15b0 : (t1631 == t1633) = false := beq_eq_false_iff_ne.mpr c15
    have c15b1 : (t1631 != t1633) = true := bne_iff_ne.mpr c15
    (first | rw [c15b0] | (simp only [i64_w, i32_w]; rw [c15b0]) | skip)
    have H' := Aside0.mk H
    clear H
    go_wp2
    go_meet
    case rel => exact ⟨_, (true), (by first | rfl | (simp; done) | (simp [*]; done)), H', ⟨by first | omega | exact Nat.le_refl _⟩, ⟨by (with_reducible repeat (first | apply Kd.R_alloc | apply Kd.R_drewN | apply Kd.R_drew)); exact HO1625.out⟩, ⟨by (with_reducible repeat (first | apply Kd.R_alloc | apply Kd.R_drewN | apply Kd.R_drew)); exact HO1628.out⟩, ⟨by (with_reducible repeat first | apply bN | apply bD | apply bA); exact BK1630.out⟩, ⟨by repeat first | (with_reducible first | exact HB.out | apply vA | apply vN | apply vD | refine vS ?_ GE1630.out) | exact HB.out⟩⟩
  case rest =>
   clear HC6
   try clear c1
   try clear c2
   try clear c2b0
   try clear c2b1
   try clear p2
   try clear c4
   try clear c5
   try clear c12
   try clear c15
   try clear c15b0
   try clear c15b1
   try clear c16
   try clear c16b0
   try clear c16b1
   try clear c16b2
   try clear hcz13_0
   try clear hcz13_1
   try clear hcz13_2
   try clear hcz13_3
   try clear hcz13_4
   try clear hcz18_0
   try clear hcz18_1
   try clear hcz18_2
   try clear hcz18_3
   try clear hcz18_4
   try clear hcz9_0
   try clear hcz9_1
   try clear hcz9_2
   try clear hcz9_3
   try clear hcz9_4
   try clear hfz13_0
   try clear hfz13_1
   try clear hfz13_2
   try clear hfz13_3
   try clear hfz13_4
   try clear hfz18_0
   try clear hfz18_1
   try clear hfz18_2
   try clear hfz18_3
   try clear hfz18_4
   try clear hfz9_0
   try clear hfz9_1
   try clear hfz9_2
   try clear hfz9_3
   try clear hfz9_4
   obtain ⟨kq, x47_5, rfl, HA, HJ5, HO_1631003, HO_1631004, BK1630, HB⟩ := hcut
   cases kq with
   | zero => exact absurd HA.out (by simp [laws_FnTableNext.j0])
   | succ kj5 =>
    have H := HA.out
    clear HA
    simp only [laws_FnTableNext.j0] at H
    by_cases c20 : x47_5 = true
    ·subst c20
     rw [if_pos rfl] at H
     by_cases c21 : t1631 = t1633
     ·rw [if_pos c21] at H
      have c21b0 : (t1631 == t1633) = true := beq_iff_eq.mpr c21
      have c21b1 : (t1631 != t1633) = false := bne_eq_false_iff_eq.mpr c21
      clear c21
      obtain rfl := Option.some.inj H
      go_wp2
      go_ret
      exact ⟨by first | rfl | (simp [errW_none, errW_some] <;> rfl) | (simp [*, errW_none, errW_some] <;> rfl), by repeat first | (with_reducible first | exact HB.out | apply vA | apply vN | apply vD | refine vS ?_ GE1630.out) | exact HB.out⟩
     ·rw [if_neg c21] at H
      exact absurd H (by simp)
    ·replace c20 := Bool.eq_false_iff.mpr c20
     subst c20
     rw [if_neg (show ¬ (false = true) by decide)] at H
     have H' := Aside0.mk H
     clear H
     go_wp2
     go_loopg [9, 10] kj5 (fun kq v9 v10 w' => ∃ (x9_2 : Int) (x10_2 : Int), v9 = .int .i64 x9_2 ∧ v10 = .int .i64 x10_2 ∧ Aside0 (laws_FnTableNext.l0 kq t1629 t1631 t1632 x9_2 x10_2 t1620 t1621 t1622 t1623 t1626 = some r) ∧ Aside0 (kq ≤ kj5) ∧ Aside0 (Kd.R (Kd.int .i64) 3 w' w.heap.size (fun _ => True) (.slice Ao10 t1623.length co10) t1623) ∧ Aside0 (Kd.R Kd.string 9 w' w.heap.size (fun _ => True) (.slice Ao11 t1626.length co11) t1626) ∧ Aside0 (w'.heap[gb1630]? = some (.cells #[.int .i64 t1620, .int .i64 t1621, .int .i64 t1622, (.slice Ao10 t1623.length co10), (.slice Ao11 t1626.length co11)] 60 (0, 0))) ∧ Aside0 (Below w.heap.size w w'))
     case atStart => exact ⟨(0), ((-1)), (by first | rfl | (simp; done) | (simp [*]; done)), (by first | rfl | (simp; done) | (simp [*]; done)), H', ⟨Nat.le_refl _⟩, ⟨by (with_reducible repeat (first | apply Kd.R_alloc | apply Kd.R_drewN | apply Kd.R_drew)); exact HO_1631003.out⟩, ⟨by (with_reducible repeat (first | apply Kd.R_alloc | apply Kd.R_drewN | apply Kd.R_drew)); exact HO_1631004.out⟩, ⟨by (with_reducible repeat first | apply bN | apply bD | apply bA); exact BK1630.out⟩, ⟨by repeat first | (with_reducible first | exact HB.out | apply vA | apply vN | apply vD | refine vS ?_ GE1630.out) | exact HB.out⟩⟩
     case round =>
      clear H'
      try clear c1
      try clear c2
      try clear c2b0
      try clear c2b1
      try clear p2
      try clear c4
      try clear c5
      try clear c12
      try clear c15
      try clear c15b0
      try clear c15b1
      try clear c16
      try clear c16b0
      try clear c16b1
      try clear c16b2
      try clear c20
      try clear c21
      try clear c21b0
      try clear c21b1
      try clear hcz13_0
      try clear hcz13_1
      try clear hcz13_2
      try clear hcz13_3
      try clear hcz13_4
      try clear hcz18_0
      try clear hcz18_1
      try clear hcz18_2
      try clear hcz18_3
      try clear hcz18_4
      try clear hcz9_0
      try clear hcz9_1
      try clear hcz9_2
      try clear hcz9_3
      try clear hcz9_4
      try clear hfz13_0
      try clear hfz13_1
      try clear hfz13_2
      try clear hfz13_3
      try clear hfz13_4
      try clear hfz18_0
      try clear hfz18_1
      try clear hfz18_2
      try clear hfz18_3
      try clear hfz18_4
      try clear hfz9_0
      try clear hfz9_1
      try clear hfz9_2
      try clear hfz9_3
      try clear hfz9_4
      try clear p2
      obtain ⟨x9_2, x10_2, rfl, rfl, HA, HK2, HO_1631003, HO_1631004, BK1630, HB⟩ := hrel
      cases gk with
      | zero => exact absurd HA.out (by simp [laws_FnTableNext.l0])
      | succ k2 =>
       have H := HA.out
       clear HA
       simp only [laws_FnTableNext.l0] at H
       replace H := Option.bind_eq_some_iff.mp H
       obtain ⟨⟨t1636, t1637⟩, A220, H⟩ := H
       try dsimp only at H
       have A22 := Aside0.mk A220
       clear A220
       by_cases c23 : t1637 = true
       ·subst c23
        rw [if_pos rfl] at H
        replace H := Option.bind_eq_some_iff.mp H
        obtain ⟨⟨t1638, t1639⟩, A240, H⟩ := H
        try dsimp only at H
        have A24 := Aside0.mk A240
        clear A240
        by_cases c25 : t1636 ≤ x10_2
        ·rw [if_pos c25] at H
         exact absurd H (by simp)
        ·rw [if_neg c25] at H
         have c25b0 : decide (t1636 ≤ x10_2) = false := decide_eq_false c25
         clear c25
         by_cases c26 : t1639 = true
         ·subst c26
          rw [if_pos rfl] at H
          have H' := Aside0.mk H
          clear H
          obtain ⟨hcz27_0, hcz27_1, hcz27_2, hcz27_3, hcz27_4, hfz27_0, hfz27_1, hfz27_2, hfz27_3, hfz27_4⟩ := zc5 BK1630
          go_wp2_with (first | ((with_reducible refine gate_callee (f := 49) rfl ?_); refine goesL_ (some 59) rfl rfl Try.func49 (by kernel_rfl) rfl #[.agg #[.int .i64 t1620, .int .i64 t1621, .int .i64 t1622, .slice Ao10 t1623.length co10, .slice Ao11 t1626.length co11], .int .i64 x10_2] rfl (by (try simp only [List.map_toArray, List.map_cons, List.map_nil]); first | done | rfl | (simp only [List.length_drop, List.length_take]; rfl)) ?_; (with_reducible refine (impl_TableNext.calls k2 t1620 t1621 t1622 _ _ t1623 _ _ t1626 x10_2 t1636 true _ ?side1 ?side2 ?side3 ?side4 A22.out).mono ?_); (case side1 => repeat (first | exact (Kd.R_reads' HO_1631003.out).2.2 | (with_reducible refine Kd.C_alloc ?_ _) | (with_reducible refine Kd.C_drewN ?_ _) | (with_reducible refine Kd.C_drew ?_))); (case side2 => exact (Kd.R_reads' HO_1631003.out).2.1); (case side3 => repeat (first | exact (Kd.R_reads' HO_1631004.out).2.2 | (with_reducible refine Kd.C_alloc ?_ _) | (with_reducible refine Kd.C_drewN ?_ _) | (with_reducible refine Kd.C_drew ?_))); (case side4 => exact (Kd.R_reads' HO_1631004.out).2.1); rintro e w28 ⟨rfl, hb⟩; refine ⟨_, rfl, ?_⟩; have n0_ := Aside0.mk (Kd.R_below (by (with_reducible repeat (first | apply Kd.R_alloc | apply Kd.R_drewN | apply Kd.R_drew)); exact HO_1631003.out) hb); have n1_ := Aside0.mk (Kd.R_below (by (with_reducible repeat (first | apply Kd.R_alloc | apply Kd.R_drewN | apply Kd.R_drew)); exact HO_1631004.out) hb); have n2_ := zb BK1630 hb rfl; have n3_ := Aside0.mk (below_step (by repeat first | (with_reducible first | exact HB.out | apply vA | apply vN | apply vD | refine vS ?_ GE1630.out) | exact HB.out) hb); clear HO_1631003; clear HO_1631004; clear BK1630; clear HB; have HO_1631003 := n0_; have HO_1631004 := n1_; have BK1630 := n2_; have HB := n3_; clear n0_ n1_ n2_ n3_; (try clear hb); (try clear hb2); (try clear hk); (try clear hi); obtain ⟨hcz29_0, hcz29_1, hcz29_2, hcz29_3, hcz29_4, hfz29_0, hfz29_1, hfz29_2, hfz29_3, hfz29_4⟩ := zc5 BK1630) | ((with_reducible refine gate_callee (f := 45) rfl ?_); refine goesL_ (some 67) rfl rfl Try.func45 (by kernel_rfl) rfl #[.agg #[.int .i64 t1620, .int .i64 t1621, .int .i64 t1622, .slice Ao10 t1623.length co10, .slice Ao11 t1626.length co11], .int .i64 t1636] rfl (by (try simp only [List.map_toArray, List.map_cons, List.map_nil]); first | done | rfl | (simp only [List.length_drop, List.length_take]; rfl)) ?_; (with_reducible refine (impl_TableLook.calls k2 t1620 t1621 t1622 _ _ t1623 _ _ t1626 t1636 t1638 true _ ?side1 ?side2 ?side3 ?side4 A24.out).mono ?_); (case side1 => repeat (first | exact (Kd.R_reads' HO_1631003.out).2.2 | (with_reducible refine Kd.C_alloc ?_ _) | (with_reducible refine Kd.C_drewN ?_ _) | (with_reducible refine Kd.C_drew ?_))); (case side2 => exact (Kd.R_reads' HO_1631003.out).2.1); (case side3 => repeat (first | exact (Kd.R_reads' HO_1631004.out).2.2 | (with_reducible refine Kd.C_alloc ?_ _) | (with_reducible refine Kd.C_drewN ?_ _) | (with_reducible refine Kd.C_drew ?_))); (case side4 => exact (Kd.R_reads' HO_1631004.out).2.1); rintro e w30 ⟨rfl, hb⟩; refine ⟨_, rfl, ?_⟩; have n0_ := Aside0.mk (Kd.R_below (by (with_reducible repeat (first | apply Kd.R_alloc | apply Kd.R_drewN | apply Kd.R_drew)); exact HO_1631003.out) hb); have n1_ := Aside0.mk (Kd.R_below (by (with_reducible repeat (first | apply Kd.R_alloc | apply Kd.R_drewN | apply Kd.R_drew)); exact HO_1631004.out) hb); have n2_ := zb BK1630 hb rfl; have n3_ := Aside0.mk (below_step (by repeat first | (with_reducible first | exact HB.out | apply vA | apply vN | apply vD | refine vS ?_ GE1630.out) | exact HB.out) hb); clear HO_1631003; clear HO_1631004; clear BK1630; clear HB; have HO_1631003 := n0_; have HO_1631004 := n1_; have BK1630 := n2_; have HB := n3_; clear n0_ n1_ n2_ n3_; (try clear hb); (try clear hb2); (try clear hk); (try clear hi)))
          go_roundg k2
          case measure => have := HJ5.out; have := HK2.out; omega
          case rel => exact ⟨(wrap64 (x9_2 + 1)), (t1636), (by first | rfl | (simp; done) | (simp [*]; done)), (by first | rfl | (simp; done) | (simp [*]; done)), H', ⟨by have := HJ5.out; have := HK2.out; omega⟩, ⟨by (with_reducible repeat (first | apply Kd.R_alloc | apply Kd.R_drewN | apply Kd.R_drew)); exact HO_1631003.out⟩, ⟨by (with_reducible repeat (first | apply Kd.R_alloc | apply Kd.R_drewN | apply Kd.R_drew)); exact HO_1631004.out⟩, ⟨by (with_reducible repeat first | apply bN | apply bD | apply bA); exact BK1630.out⟩, ⟨by repeat first | (with_reducible first | exact HB.out | apply vA | apply vN | apply vD | refine vS ?_ GE1630.out) | exact HB.out⟩⟩
         ·replace c26 := Bool.eq_false_iff.mpr c26
          subst c26
          rw [if_neg (show ¬ (false = true) by decide)] at H
          exact absurd H (by simp)
       ·replace c23 := Bool.eq_false_iff.mpr c23
        subst c23
        rw [if_neg (show ¬ (false = true) by decide)] at H
        by_cases c31 : x9_2 = (t1623.length : Int)
        ·rw [if_pos c31] at H
         have c31b0 : (x9_2 == (t1623.length : Int)) = true := beq_iff_eq.mpr c31
         have c31b1 : (x9_2 != (t1623.length : Int)) = false := bne_eq_false_iff_eq.mpr c31
         clear c31
         by_cases c32 : t1632 = true
         ·subst c32
          rw [if_pos rfl] at H
          obtain rfl := Option.some.inj H
          obtain ⟨hcz33_0, hcz33_1, hcz33_2, hcz33_3, hcz33_4, hfz33_0, hfz33_1, hfz33_2, hfz33_3, hfz33_4⟩ := zc5 BK1630
          go_wp2_with (first | ((with_reducible refine gate_callee (f := 49) rfl ?_); refine goesL_ (some 59) rfl rfl Try.func49 (by kernel_rfl) rfl #[.agg #[.int .i64 t1620, .int .i64 t1621, .int .i64 t1622, .slice Ao10 t1623.length co10, .slice Ao11 t1626.length co11], .int .i64 x10_2] rfl (by (try simp only [List.map_toArray, List.map_cons, List.map_nil]); first | done | rfl | (simp only [List.length_drop, List.length_take]; rfl)) ?_; (with_reducible refine (impl_TableNext.calls k2 t1620 t1621 t1622 _ _ t1623 _ _ t1626 x10_2 t1636 false _ ?side1 ?side2 ?side3 ?side4 A22.out).mono ?_); (case side1 => repeat (first | exact (Kd.R_reads' HO_1631003.out).2.2 | (with_reducible refine Kd.C_alloc ?_ _) | (with_reducible refine Kd.C_drewN ?_ _) | (with_reducible refine Kd.C_drew ?_))); (case side2 => exact (Kd.R_reads' HO_1631003.out).2.1); (case side3 => repeat (first | exact (Kd.R_reads' HO_1631004.out).2.2 | (with_reducible refine Kd.C_alloc ?_ _) | (with_reducible refine Kd.C_drewN ?_ _) | (with_reducible refine Kd.C_drew ?_))); (case side4 => exact (Kd.R_reads' HO_1631004.out).2.1); rintro e w34 ⟨rfl, hb⟩; refine ⟨_, rfl, ?_⟩; have n0_ := Aside0.mk (Kd.R_below (by (with_reducible repeat (first | apply Kd.R_alloc | apply Kd.R_drewN | apply Kd.R_drew)); exact HO_1631003.out) hb); have n1_ := Aside0.mk (Kd.R_below (by (with_reducible repeat (first | apply Kd.R_alloc | apply Kd.R_drewN | apply Kd.R_drew)); exact HO_1631004.out) hb); have n2_ := zb BK1630 hb rfl; have n3_ := Aside0.mk (below_step (by repeat first | (with_reducible first | exact HB.out | apply vA | apply vN | apply vD | refine vS ?_ GE1630.out) | exact HB.out) hb); clear HO_1631003; clear HO_1631004; clear BK1630; clear HB; have HO_1631003 := n0_; have HO_1631004 := n1_; have BK1630 := n2_; have HB := n3_; clear n0_ n1_ n2_ n3_; (try clear hb); (try clear hb2); (try clear hk); (try clear hi); obtain ⟨hcz35_0, hcz35_1, hcz35_2, hcz35_3, hcz35_4, hfz35_0, hfz35_1, hfz35_2, hfz35_3, hfz35_4⟩ := zc5 BK1630))
          go_ret
          exact ⟨by first | rfl | (simp [errW_none, errW_some] <;> rfl) | (simp [*, errW_none, errW_some] <;> rfl), by repeat first | (with_reducible first | exact HB.out | apply vA | apply vN | apply vD | refine vS ?_ GE1630.out) | exact HB.out⟩
         ·replace c32 := Bool.eq_false_iff.mpr c32
          subst c32
          rw [if_neg (show ¬ (false = true) by decide)] at H
          obtain rfl := Option.some.inj H
          obtain ⟨hcz36_0, hcz36_1, hcz36_2, hcz36_3, hcz36_4, hfz36_0, hfz36_1, hfz36_2, hfz36_3, hfz36_4⟩ := zc5 BK1630
          go_wp2_with (first | ((with_reducible refine gate_callee (f := 49) rfl ?_); refine goesL_ (some 59) rfl rfl Try.func49 (by kernel_rfl) rfl #[.agg #[.int .i64 t1620, .int .i64 t1621, .int .i64 t1622, .slice Ao10 t1623.length co10, .slice Ao11 t1626.length co11], .int .i64 x10_2] rfl (by (try simp only [List.map_toArray, List.map_cons, List.map_nil]); first | done | rfl | (simp only [List.length_drop, List.length_take]; rfl)) ?_; (with_reducible refine (impl_TableNext.calls k2 t1620 t1621 t1622 _ _ t1623 _ _ t1626 x10_2 t1636 false _ ?side1 ?side2 ?side3 ?side4 A22.out).mono ?_); (case side1 => repeat (first | exact (Kd.R_reads' HO_1631003.out).2.2 | (with_reducible refine Kd.C_alloc ?_ _) | (with_reducible refine Kd.C_drewN ?_ _) | (with_reducible refine Kd.C_drew ?_))); (case side2 => exact (Kd.R_reads' HO_1631003.out).2.1); (case side3 => repeat (first | exact (Kd.R_reads' HO_1631004.out).2.2 | (with_reducible refine Kd.C_alloc ?_ _) | (with_reducible refine Kd.C_drewN ?_ _) | (with_reducible refine Kd.C_drew ?_))); (case side4 => exact (Kd.R_reads' HO_1631004.out).2.1); rintro e w37 ⟨rfl, hb⟩; refine ⟨_, rfl, ?_⟩; have n0_ := Aside0.mk (Kd.R_below (by (with_reducible repeat (first | apply Kd.R_alloc | apply Kd.R_drewN | apply Kd.R_drew)); exact HO_1631003.out) hb); have n1_ := Aside0.mk (Kd.R_below (by (with_reducible repeat (first | apply Kd.R_alloc | apply Kd.R_drewN | apply Kd.R_drew)); exact HO_1631004.out) hb); have n2_ := zb BK1630 hb rfl; have n3_ := Aside0.mk (below_step (by repeat first | (with_reducible first | exact HB.out | apply vA | apply vN | apply vD | refine vS ?_ GE1630.out) | exact HB.out) hb); clear HO_1631003; clear HO_1631004; clear BK1630; clear HB; have HO_1631003 := n0_; have HO_1631004 := n1_; have BK1630 := n2_; have HB := n3_; clear n0_ n1_ n2_ n3_; (try clear hb); (try clear hb2); (try clear hk); (try clear hi); obtain ⟨hcz38_0, hcz38_1, hcz38_2, hcz38_3, hcz38_4, hfz38_0, hfz38_1, hfz38_2, hfz38_3, hfz38_4⟩ := zc5 BK1630))
          go_ret
          exact ⟨by first | rfl | (simp [errW_none, errW_some] <;> rfl) | (simp [*, errW_none, errW_some] <;> rfl), by repeat first | (with_reducible first | exact HB.out | apply vA | apply vN | apply vD | refine vS ?_ GE1630.out) | exact HB.out⟩
        ·rw [if_neg c31] at H
         exact absurd H (by simp)

/-- THE ONE PURE STATEMENT of laws_FnTableNext: yours. -/
def laws_FnTableNext.Pure : Prop := ∀ (l0 : List Int), l0.length ≤ maxLen → l0.length * 1 ≤ 140737488351232 → (∀ x ∈ l0, (Lit.int .u8 x).wf = true) → ∃ k, laws_FnTableNext.f k l0 = some true
theorem laws_FnTableNext.walk (P : laws_FnTableNext.Pure) (a0 : Option Addr) (len0 cap0 : Nat) (z0 : List Int) (w : World) (w0 : (a0 = none ∧ len0 = 0 ∧ cap0 = 0 ∧ z0 = []) ∨ ∃ x, a0 = some x ∧ len0 ≤ cap0 ∧ cap0 ≤ maxLen ∧ z0.length = cap0 ∧ (∀ i, i < z0.length → w.cell? (x.add i) = some (.int .u8 (z0.getD i 0))) ∧ ∀ n ∈ z0, (Lit.int .u8 n).wf = true) (y0 : len0 * 1 ≤ 140737488351232) :
  Calls Try.prog 12 #[.slice a0 len0 cap0] w fun e w' => e = .returned (.bool true) ∧ Below w.heap.size w w' := by
 obtain ⟨l0, rfl, hr0, hm0, hw0, hc0⟩ := ReadsInt.ofRowC w0
 obtain ⟨k, h⟩ := P l0 hm0 y0 hw0
 refine (laws_FnTableNext.calls k _ _ l0 true w (Kd.C_of_reads (d := (0 : Int)) (h1 := fun _ => rfl) hr0) hc0 h).mono ?_
 rintro e w' ⟨rfl, hd⟩
 exact ⟨rfl, hd⟩

end Go.Proofs.Ytcobkligpdaanaa.Q
