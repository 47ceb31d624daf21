/- The machine's side of this seat's laws: Go functions as Lean functions, and their contracts. By a program of this work over the kit's print. -/
import Derived.Test.YtdhijcfohbkpoaaQ0
import Derived.Test.YtdhijcfohbkpoaaQ1
import Derived.Test.YtdhijcfohbkpoaaQ6
import Derived.Test.YtdhijcfohbkpoaaQ7
import Derived.Test.YtdhijcfohbkpoaaQ12
import Derived.Test.YtdhijcfohbkpoaaQ20
namespace Go.Proofs.Ytdhijcfohbkpoaa.Q
open Go.RowKit Go.Proofs.YtdhijcfohbkpoaaW.PrintWords Go.Proofs.YtdhijcfohbkpoaaW.PrintLast Go.Proofs.YtdhijcfohbkpoaaW.PrintMore
attribute [local go_sem] max2_int min2_int max_two min_two max_three min_three max_four min_four Go.Proofs.YtdhijcfohbkpoaaN.not_i64 Go.Proofs.YtdhijcfohbkpoaaN.isSome_setCell   -- for this text's walks alone
set_option linter.unusedVariables false
set_option linter.unusedSimpArgs false

attribute [local go_sem high] eqA24
/-! ### laws_FnOfOne: function 4 -/
def laws_FnOfOne.j0 : Nat → Int → Bool → Int → Int → Int → Int → Int → Int → Int → Int → Int → Int → Int → Int → Option (Bool)
 | 0, _, _, _, _, _, _, _, _, _, _, _, _, _, _ => none
 | k + 1, x3, x32, x600000, x600001, x600002, x600003, x601000, x601001, x601002, x601003, x606000, x606001, x606002, x606003 => if x32 = true then ((spec_RangeOf.f k x3 x600000 x600001 x600002 x600003 x601000 x601001 x601002 x601003).bind fun bt611 => (some (x606000 == bt611.1 && (x606001 == bt611.2.1 && (x606002 == bt611.2.2.1 && (x606003 == bt611.2.2.2)))))) else ((impl_RangeLeast.f k x600000 x600001 x600002 x600003).bind fun t615 => ((impl_RangeLeast.f k x601000 x601001 x601002 x601003).bind fun t616 => ((impl_RangeOne.f t615).bind fun bt617 => ((impl_RangeOne.f t616).bind fun bt621 => ((impl_RangeOf.f k x3 bt617.1 bt617.2.1 bt617.2.2.1 bt617.2.2.2 bt621.1 bt621.2.1 bt621.2.2.1 bt621.2.2.2).bind fun bt625 => ((impl_RangeDo.f k x3 t615 t616).bind fun t629 => ((impl_RangeOne.f t629).bind fun bt630 => (some (bt625.1 == bt630.1 && (bt625.2.1 == bt630.2.1 && (bt625.2.2.1 == bt630.2.2.1 && (bt625.2.2.2 == bt630.2.2.2))))))))))))
def laws_FnOfOne.f (k : Nat) (l0 : List Int) : Option (Bool) := if (l0.length : Int) > 1048576 then (some true) else ((spec_DrawRangeOf.f k l0).bind fun bt590 => ((impl_RangeOf.f k bt590.1 bt590.2.1 bt590.2.2.1 bt590.2.2.2.1 bt590.2.2.2.2.1 bt590.2.2.2.2.2.1 bt590.2.2.2.2.2.2.1 bt590.2.2.2.2.2.2.2.1 bt590.2.2.2.2.2.2.2.2).bind fun bt601 => ((spec_RangeOf.f k bt590.1 bt590.2.1 bt590.2.2.1 bt590.2.2.2.1 bt590.2.2.2.2.1 bt590.2.2.2.2.2.1 bt590.2.2.2.2.2.2.1 bt590.2.2.2.2.2.2.2.1 bt590.2.2.2.2.2.2.2.2).bind fun bt606 => (if (!(bt601.1 == bt606.1) || (!(bt601.2.1 == bt606.2.1) || (!(bt601.2.2.1 == bt606.2.2.1) || (!(bt601.2.2.2 == bt606.2.2.2))))) = true then (laws_FnOfOne.j0 k bt590.1 true bt590.2.1 bt590.2.2.1 bt590.2.2.2.1 bt590.2.2.2.2.1 bt590.2.2.2.2.2.1 bt590.2.2.2.2.2.2.1 bt590.2.2.2.2.2.2.2.1 bt590.2.2.2.2.2.2.2.2 bt601.1 bt601.2.1 bt601.2.2.1 bt601.2.2.2) else ((impl_RangeOk.f bt601.1 bt601.2.1 bt601.2.2.1 bt601.2.2.2).bind fun t610 => (laws_FnOfOne.j0 k bt590.1 (!t610) bt590.2.1 bt590.2.2.1 bt590.2.2.2.1 bt590.2.2.2.2.1 bt590.2.2.2.2.2.1 bt590.2.2.2.2.2.2.1 bt590.2.2.2.2.2.2.2.1 bt590.2.2.2.2.2.2.2.2 bt601.1 bt601.2.1 bt601.2.2.1 bt601.2.2.2))))))


def laws_FnOfOne.T5 : Bool × List (List Nat × List Nat) := (true, [([], []), ([], []), ([], []), ([], []), ([1, 2, 3], [1, 2, 3]), ([0, 4], [0, 4]), ([5, 4], [5]), ([6], [6]), ([7, 6, 6], [6, 7]), ([8, 6], [6, 8]), ([6, 9], [6, 9])])
def laws_FnOfOne.B5 : List Nat := [0, 0, 0, 0, 14, 31, 63, 127, 255, 511, 1023]
theorem laws_FnOfOne.tab5 : rtab .any (opsOf Try.f4 5) = laws_FnOfOne.T5 := by kernel_rfl
theorem laws_FnOfOne.bits5 : waitsOk laws_FnOfOne.T5.2 laws_FnOfOne.B5 = true := by kernel_rfl
set_option maxHeartbeats 8000000 in
set_option maxRecDepth 100000 in
theorem laws_FnOfOne.calls (k : Nat) (A0 : Option Addr) (c0 : Nat) (l0 : List Int) (r : Bool) (w : World) (hr0 : Kd.C (Kd.int .u8) w A0 l0.length l0) (hc0 : l0.length ≤ c0) (h : laws_FnOfOne.f k l0 = some r) :
  Calls Try.prog 4 #[.slice A0 l0.length c0] w fun e w' => e = .returned (.bool r) ∧ Below w.heap.size w w' := by
 have hu24 := Try.underlying24
 have HR0 := Aside0.mk hr0
 have HC0 := Aside0.mk hc0
 clear hr0 hc0
 have HB := Aside0.mk (Below.refl w.heap.size w)
 have H : (if (l0.length : Int) > 1048576 then (some true) else ((spec_DrawRangeOf.f k l0).bind fun bt590 => ((impl_RangeOf.f k bt590.1 bt590.2.1 bt590.2.2.1 bt590.2.2.2.1 bt590.2.2.2.2.1 bt590.2.2.2.2.2.1 bt590.2.2.2.2.2.2.1 bt590.2.2.2.2.2.2.2.1 bt590.2.2.2.2.2.2.2.2).bind fun bt601 => ((spec_RangeOf.f k bt590.1 bt590.2.1 bt590.2.2.1 bt590.2.2.2.1 bt590.2.2.2.2.1 bt590.2.2.2.2.2.1 bt590.2.2.2.2.2.2.1 bt590.2.2.2.2.2.2.2.1 bt590.2.2.2.2.2.2.2.2).bind fun bt606 => (if (!(bt601.1 == bt606.1) || (!(bt601.2.1 == bt606.2.1) || (!(bt601.2.2.1 == bt606.2.2.1) || (!(bt601.2.2.2 == bt606.2.2.2))))) = true then (laws_FnOfOne.j0 k bt590.1 true bt590.2.1 bt590.2.2.1 bt590.2.2.2.1 bt590.2.2.2.2.1 bt590.2.2.2.2.2.1 bt590.2.2.2.2.2.2.1 bt590.2.2.2.2.2.2.2.1 bt590.2.2.2.2.2.2.2.2 bt601.1 bt601.2.1 bt601.2.2.1 bt601.2.2.2) else ((impl_RangeOk.f bt601.1 bt601.2.1 bt601.2.2.1 bt601.2.2.2).bind fun t610 => (laws_FnOfOne.j0 k bt590.1 (!t610) bt590.2.1 bt590.2.2.1 bt590.2.2.2.1 bt590.2.2.2.2.1 bt590.2.2.2.2.2.1 bt590.2.2.2.2.2.2.1 bt590.2.2.2.2.2.2.2.1 bt590.2.2.2.2.2.2.2.2 bt601.1 bt601.2.1 bt601.2.2.1 bt601.2.2.2))))))) = some r := h
 clear h
 by_cases c2 : (l0.length : Int) > 1048576
 ·rw [if_pos c2] at H
  have c2b0 : decide (1048576 < (l0.length : Int)) = true := decide_eq_true c2
  have c2b1 : decide (1048576 < l0.length) = true := decide_eq_true (by omega)
  clear c2
  obtain rfl := Option.some.inj H
  go_enter Try.func4, Try.ntmps4
  go_wp2
  go_ret
  exact ⟨zR, zB⟩
 ·rw [if_neg c2] at H
  have c2b0 : decide (1048576 < (l0.length : Int)) = false := decide_eq_false c2
  have c2b1 : decide (1048576 < l0.length) = false := decide_eq_false (by omega)
  clear c2
  replace H := Option.bind_eq_some_iff.mp H
  obtain ⟨⟨t590, t591, t592, t593, t594, t595, t596, t597, t598⟩, A30, H⟩ := H
  try dsimp only at H
  have A3 := Aside0.mk A30
  clear A30
  replace H := Option.bind_eq_some_iff.mp H
  obtain ⟨⟨t601, t602, t603, t604⟩, A40, H⟩ := H
  try dsimp only at H
  have A4 := Aside0.mk A40
  clear A40
  have HC5 := Aside0.mk H
  clear H
  go_enter Try.func4, Try.ntmps4
  go_upto_region 5 with (first | ((with_reducible refine gate_callee (f := 5) rfl ?_); refine gl 14 Try.func5 #[.slice A0 l0.length c0] ?_; (with_reducible refine (spec_DrawRangeOf.calls k _ _ l0 t590 t591 t592 t593 t594 t595 t596 t597 t598 _ ?side1 ?side2 A3.out).mono ?_); (case side1 => repeat (first | exact HR0.out | (with_reducible refine Kd.C_alloc ?_ _) | (with_reducible refine Kd.C_drewN ?_ _) | (with_reducible refine Kd.C_drew ?_))); (case side2 => exact HC0.out); rintro e w6 ⟨rfl, hb⟩; refine ⟨_, rfl, ?_⟩; replace HB := zS hb; try clear hb) | ((with_reducible refine gate_dst (N := 4) rfl ?_); refine be 4 #[.int .i64 0, .int .i64 0, .int .i64 0, .int .i64 0] 24 ?_; intro gb599 hg w7 hbox hb; have BK599 := Aside0.mk hbox; have GW599 := zW hg; replace HB := zS hb; have GE599 := GW599; clear hb hbox hg) | ((with_reducible refine gate_dst (N := 5) rfl ?_); refine be 5 #[.int .i64 0, .int .i64 0, .int .i64 0, .int .i64 0] 24 ?_; intro gb600 hg w8 hbox hb; have BK600 := Aside0.mk hbox; have GW600 := zW hg; replace HB := zS hb; have GE600 := GW600; have NB599_600 := zl BK599 hg rfl; have NB600_599 := zg BK599 hg rfl; replace BK599 := zb BK599 hb rfl; clear hb hbox hg; have hnb9 := NB599_600.out; have hnc9 := NB600_599.out; obtain ⟨hcz10_0, hcz10_1, hcz10_2, hcz10_3, hfz10_0, hfz10_1, hfz10_2, hfz10_3⟩ := zc4 BK599; obtain ⟨hcz11_0, hcz11_1, hcz11_2, hcz11_3, hfz11_0, hfz11_1, hfz11_2, hfz11_3⟩ := zc4 BK600) | ((with_reducible refine gate_callee (f := 6) rfl ?_); refine gl 21 Try.func6 #[.int .i64 t590, .agg #[.int .i64 t591, .int .i64 t592, .int .i64 t593, .int .i64 t594], .agg #[.int .i64 t595, .int .i64 t596, .int .i64 t597, .int .i64 t598]] ?_; (with_reducible refine (impl_RangeOf.calls k t590 t591 t592 t593 t594 t595 t596 t597 t598 t601 t602 t603 t604 _ A4.out).mono ?_); rintro e w12 ⟨rfl, hb⟩; refine ⟨_, rfl, ?_⟩; replace BK599 := Aside0.mk (blk_below (g := gb599) (o := .cells #[.int .i64 t591, .int .i64 t592, .int .i64 t593, .int .i64 t594] 24 (0, 0)) (by refine fq ?_ NB599_600.out; refine fq ?_ NB599_600.out; refine fq ?_ NB599_600.out; refine fq ?_ NB599_600.out; refine bq ?_; refine blk_put (cs := #[.int .i64 t591, .int .i64 t592, .int .i64 t593, .int .i64 0]) ?_ 3 _ rfl; refine bq ?_; refine blk_put (cs := #[.int .i64 t591, .int .i64 t592, .int .i64 0, .int .i64 0]) ?_ 2 _ rfl; refine bq ?_; refine blk_put (cs := #[.int .i64 t591, .int .i64 0, .int .i64 0, .int .i64 0]) ?_ 1 _ rfl; refine bq ?_; refine blk_put (cs := #[.int .i64 0, .int .i64 0, .int .i64 0, .int .i64 0]) ?_ 0 _ rfl; exact bq BK599.out) hb); replace BK600 := Aside0.mk (blk_below (g := gb600) (o := .cells #[.int .i64 t595, .int .i64 t596, .int .i64 t597, .int .i64 t598] 24 (0, 0)) (by refine bq ?_; refine blk_put (cs := #[.int .i64 t595, .int .i64 t596, .int .i64 t597, .int .i64 0]) ?_ 3 _ rfl; refine bq ?_; refine blk_put (cs := #[.int .i64 t595, .int .i64 t596, .int .i64 0, .int .i64 0]) ?_ 2 _ rfl; refine bq ?_; refine blk_put (cs := #[.int .i64 t595, .int .i64 0, .int .i64 0, .int .i64 0]) ?_ 1 _ rfl; refine bq ?_; refine blk_put (cs := #[.int .i64 0, .int .i64 0, .int .i64 0, .int .i64 0]) ?_ 0 _ rfl; refine fq ?_ NB600_599.out; refine fq ?_ NB600_599.out; refine fq ?_ NB600_599.out; refine fq ?_ NB600_599.out; exact bq BK600.out) hb); replace HB := zS hb; try clear hb) | ((with_reducible refine gate_dst (N := 6) rfl ?_); refine be 6 #[.int .i64 0, .int .i64 0, .int .i64 0, .int .i64 0] 24 ?_; intro gb605 hg w13 hbox hb; have BK605 := Aside0.mk hbox; have GW605 := zW hg; replace HB := zS hb; have GE605 := GW605; have NB599_605 := zl BK599 hg rfl; have NB605_599 := zg BK599 hg rfl; replace BK599 := zb BK599 hb rfl; have NB600_605 := zl BK600 hg rfl; have NB605_600 := zg BK600 hg rfl; replace BK600 := zb BK600 hb rfl; clear hb hbox hg; have hnb14 := NB605_599.out; have hnc14 := NB599_605.out; have hnb15 := NB605_600.out; have hnc15 := NB600_605.out; obtain ⟨hcz16_0, hcz16_1, hcz16_2, hcz16_3, hfz16_0, hfz16_1, hfz16_2, hfz16_3⟩ := zc4 BK605))
  (try simp only [Act.put, List.setIfInBounds_toArray, List.set_cons_zero, List.set_cons_succ])
  go_cut [32] (fun v32 wc => ∃ (kq : Nat) (x32_4 : Bool), v32 = .bool x32_4 ∧ Aside0 (laws_FnOfOne.j0 kq t590 x32_4 t591 t592 t593 t594 t595 t596 t597 t598 t601 t602 t603 t604 = some r) ∧ Aside0 (kq ≤ k) ∧ Aside0 (wc.heap[gb599]? = some (.cells #[.int .i64 t591, .int .i64 t592, .int .i64 t593, .int .i64 t594] 24 (0, 0))) ∧ Aside0 (wc.heap[gb600]? = some (.cells #[.int .i64 t595, .int .i64 t596, .int .i64 t597, .int .i64 t598] 24 (0, 0))) ∧ Aside0 (wc.heap[gb605]? = some (.cells #[.int .i64 t601, .int .i64 t602, .int .i64 t603, .int .i64 t604] 24 (0, 0))) ∧ Aside0 (Below w.heap.size w wc))
  case first =>
   have H := HC5.out
   clear HC5
   replace H := Option.bind_eq_some_iff.mp H
   obtain ⟨⟨t606, t607, t608, t609⟩, A170, H⟩ := H
   try dsimp only at H
   have A17 := Aside0.mk A170
   clear A170
   by_cases c18 : (!(t601 == t606) || (!(t602 == t607) || (!(t603 == t608) || (!(t604 == t609))))) = true
   ·rw [if_pos c18] at H
    have c18b0 : (!(t601 == t606) || (!(t602 == t607) || (!(t603 == t608) || (!(t604 == t609))))) = true := c18
    clear c18
    (first | rw [c18b0] | (simp only [i64_w, i32_w]; rw [c18b0]) | skip)
    have H' := Aside0.mk H
    clear H
    try go_wp2
    have n0_ : Aside0 (((((w13.setCell ⟨gb605, 0, none⟩ (.int .i64 t601)).setCell ⟨gb605, 1, none⟩ (.int .i64 t602)).setCell ⟨gb605, 2, none⟩ (.int .i64 t603)).setCell ⟨gb605, 3, none⟩ (.int .i64 t604)).heap[gb599]? = some (.cells #[.int .i64 t591, .int .i64 t592, .int .i64 t593, .int .i64 t594] 24 (0, 0))) := ⟨by refine fq ?_ NB599_605.out; refine fq ?_ NB599_605.out; refine fq ?_ NB599_605.out; refine fq ?_ NB599_605.out; exact bq BK599.out⟩
    have n1_ : Aside0 (((((w13.setCell ⟨gb605, 0, none⟩ (.int .i64 t601)).setCell ⟨gb605, 1, none⟩ (.int .i64 t602)).setCell ⟨gb605, 2, none⟩ (.int .i64 t603)).setCell ⟨gb605, 3, none⟩ (.int .i64 t604)).heap[gb600]? = some (.cells #[.int .i64 t595, .int .i64 t596, .int .i64 t597, .int .i64 t598] 24 (0, 0))) := ⟨by refine fq ?_ NB600_605.out; refine fq ?_ NB600_605.out; refine fq ?_ NB600_605.out; refine fq ?_ NB600_605.out; exact bq BK600.out⟩
    have n2_ : Aside0 (((((w13.setCell ⟨gb605, 0, none⟩ (.int .i64 t601)).setCell ⟨gb605, 1, none⟩ (.int .i64 t602)).setCell ⟨gb605, 2, none⟩ (.int .i64 t603)).setCell ⟨gb605, 3, none⟩ (.int .i64 t604)).heap[gb605]? = some (.cells #[.int .i64 t601, .int .i64 t602, .int .i64 t603, .int .i64 t604] 24 (0, 0))) := ⟨by refine bq ?_; refine blk_put (cs := #[.int .i64 t601, .int .i64 t602, .int .i64 t603, .int .i64 0]) ?_ 3 _ rfl; refine bq ?_; refine blk_put (cs := #[.int .i64 t601, .int .i64 t602, .int .i64 0, .int .i64 0]) ?_ 2 _ rfl; refine bq ?_; refine blk_put (cs := #[.int .i64 t601, .int .i64 0, .int .i64 0, .int .i64 0]) ?_ 1 _ rfl; refine bq ?_; refine blk_put (cs := #[.int .i64 0, .int .i64 0, .int .i64 0, .int .i64 0]) ?_ 0 _ rfl; exact bq BK605.out⟩
    have n3_ : Aside0 (Below w.heap.size w ((((w13.setCell ⟨gb605, 0, none⟩ (.int .i64 t601)).setCell ⟨gb605, 1, none⟩ (.int .i64 t602)).setCell ⟨gb605, 2, none⟩ (.int .i64 t603)).setCell ⟨gb605, 3, none⟩ (.int .i64 t604))) := ⟨zB⟩
    (try clear BK599)
    (try clear BK600)
    (try clear BK605)
    (try clear HB)
    generalize ((((w13.setCell ⟨gb605, 0, none⟩ (.int .i64 t601)).setCell ⟨gb605, 1, none⟩ (.int .i64 t602)).setCell ⟨gb605, 2, none⟩ (.int .i64 t603)).setCell ⟨gb605, 3, none⟩ (.int .i64 t604)) = w19 at n0_ n1_ n2_ n3_ ⊢
    have BK599 := n0_
    have BK600 := n1_
    have BK605 := n2_
    have HB := n3_
    clear n0_ n1_ n2_ n3_
    replace BK599 := Aside0.mk (blk_drew BK599.out)
    replace BK600 := Aside0.mk (blk_drew BK600.out)
    replace BK605 := Aside0.mk (blk_drew BK605.out)
    replace HB := Aside0.mk (below_drew1 HB.out)
    refine start_ (n := 11) (S := fun w' => w'.cell? ⟨gb605, 0, none⟩ = some (.int .i64 t601) ∧ w'.cell? ⟨gb605, 1, none⟩ = some (.int .i64 t602) ∧ w'.cell? ⟨gb605, 2, none⟩ = some (.int .i64 t603) ∧ w'.cell? ⟨gb605, 3, none⟩ = some (.int .i64 t604) ∧ w'.cell? ⟨gb599, 0, none⟩ = some (.int .i64 t591) ∧ w'.cell? ⟨gb599, 1, none⟩ = some (.int .i64 t592) ∧ w'.cell? ⟨gb599, 2, none⟩ = some (.int .i64 t593) ∧ w'.cell? ⟨gb599, 3, none⟩ = some (.int .i64 t594) ∧ w'.cell? ⟨gb600, 0, none⟩ = some (.int .i64 t595) ∧ w'.cell? ⟨gb600, 1, none⟩ = some (.int .i64 t596) ∧ w'.cell? ⟨gb600, 2, none⟩ = some (.int .i64 t597) ∧ w'.cell? ⟨gb600, 3, none⟩ = some (.int .i64 t598)) (ds := []) #[false, false, false, false, false, false, false, false, false, false, false] (by kernel_rfl) rfl rfl ⟨(blk_cell BK605.out 0).trans rfl, (blk_cell BK605.out 1).trans rfl, (blk_cell BK605.out 2).trans rfl, (blk_cell BK605.out 3).trans rfl, (blk_cell BK599.out 0).trans rfl, (blk_cell BK599.out 1).trans rfl, (blk_cell BK599.out 2).trans rfl, (blk_cell BK599.out 3).trans rfl, (blk_cell BK600.out 0).trans rfl, (blk_cell BK600.out 1).trans rfl, (blk_cell BK600.out 2).trans rfl, (blk_cell BK600.out 3).trans rfl⟩ (fun hHeld => ?_); refine with_tabW laws_FnOfOne.tab5 laws_FnOfOne.bits5 (fun HT_ HW_ => ?_)
    generalize w19.drew = w20 at BK599 BK600 BK605 HB hHeld ⊢
    refine pz 1 23 ?_
    refine tz 0 22 ?_
    refine tz 2 24 ?_
    refine tz 3 25 ?_
    refine oz 4 26 fun K hK => ?_
    refine gz Try.func7 #[.int .i64 t590, .agg #[.int .i64 t591, .int .i64 t592, .int .i64 t593, .int .i64 t594], .agg #[.int .i64 t595, .int .i64 t596, .int .i64 t597, .int .i64 t598]] ?_
    with_reducible refine (spec_RangeOf.calls k t590 t591 t592 t593 t594 t595 t596 t597 t598 t606 t607 t608 t609 _ A17.out).mono ?_
    rintro e w21 ⟨rfl, hb⟩
    refine ⟨_, rfl, ?_⟩
    replace BK599 := zb BK599 hb rfl
    replace BK600 := zb BK600 hb rfl
    replace BK605 := zb BK605 hb rfl
    replace HB := zS hb
    try clear hb
    refine hK.out _ _ ⟨(blk_cell BK605.out 0).trans rfl, (blk_cell BK605.out 1).trans rfl, (blk_cell BK605.out 2).trans rfl, (blk_cell BK605.out 3).trans rfl, (blk_cell BK599.out 0).trans rfl, (blk_cell BK599.out 1).trans rfl, (blk_cell BK599.out 2).trans rfl, (blk_cell BK599.out 3).trans rfl, (blk_cell BK600.out 0).trans rfl, (blk_cell BK600.out 1).trans rfl, (blk_cell BK600.out 2).trans rfl, (blk_cell BK600.out 3).trans rfl⟩ (fun hHeld => ?_)
    clear hK K
    refine nz ?_
    refine pz 5 27 ?_
    refine pz 6 28 ?_
    refine uz 7 29 ?_
    refine uz 8 30 ?_
    refine uz 9 31 ?_
    refine pz 10 32 ?_
    refine done_ (done_of HT_.out (by kernel_rfl)) ?_
    try go_wp2
    go_meet
    case rel => exact ⟨_, (true), (by first | rfl | (simp; done) | (simp [*]; done)), H', ⟨by first | omega | exact Nat.le_refl _⟩, ⟨by exact bq BK599.out⟩, ⟨by exact bq BK600.out⟩, ⟨by exact bq BK605.out⟩, ⟨zB⟩⟩
   ·rw [if_neg c18] at H
    have c18b0 : (!(t601 == t606) || (!(t602 == t607) || (!(t603 == t608) || (!(t604 == t609))))) = false := by simpa using c18
    clear c18
    (first | rw [c18b0] | (simp only [i64_w, i32_w]; rw [c18b0]) | skip)
    replace H := Option.bind_eq_some_iff.mp H
    obtain ⟨t610, A220, H⟩ := H
    try dsimp only at H
    have A22 := Aside0.mk A220
    clear A220
    have H' := Aside0.mk H
    clear H
    try go_wp2
    have n0_ : Aside0 (((((w13.setCell ⟨gb605, 0, none⟩ (.int .i64 t601)).setCell ⟨gb605, 1, none⟩ (.int .i64 t602)).setCell ⟨gb605, 2, none⟩ (.int .i64 t603)).setCell ⟨gb605, 3, none⟩ (.int .i64 t604)).heap[gb599]? = some (.cells #[.int .i64 t591, .int .i64 t592, .int .i64 t593, .int .i64 t594] 24 (0, 0))) := ⟨by refine fq ?_ NB599_605.out; refine fq ?_ NB599_605.out; refine fq ?_ NB599_605.out; refine fq ?_ NB599_605.out; exact bq BK599.out⟩
    have n1_ : Aside0 (((((w13.setCell ⟨gb605, 0, none⟩ (.int .i64 t601)).setCell ⟨gb605, 1, none⟩ (.int .i64 t602)).setCell ⟨gb605, 2, none⟩ (.int .i64 t603)).setCell ⟨gb605, 3, none⟩ (.int .i64 t604)).heap[gb600]? = some (.cells #[.int .i64 t595, .int .i64 t596, .int .i64 t597, .int .i64 t598] 24 (0, 0))) := ⟨by refine fq ?_ NB600_605.out; refine fq ?_ NB600_605.out; refine fq ?_ NB600_605.out; refine fq ?_ NB600_605.out; exact bq BK600.out⟩
    have n2_ : Aside0 (((((w13.setCell ⟨gb605, 0, none⟩ (.int .i64 t601)).setCell ⟨gb605, 1, none⟩ (.int .i64 t602)).setCell ⟨gb605, 2, none⟩ (.int .i64 t603)).setCell ⟨gb605, 3, none⟩ (.int .i64 t604)).heap[gb605]? = some (.cells #[.int .i64 t601, .int .i64 t602, .int .i64 t603, .int .i64 t604] 24 (0, 0))) := ⟨by refine bq ?_; refine blk_put (cs := #[.int .i64 t601, .int .i64 t602, .int .i64 t603, .int .i64 0]) ?_ 3 _ rfl; refine bq ?_; refine blk_put (cs := #[.int .i64 t601, .int .i64 t602, .int .i64 0, .int .i64 0]) ?_ 2 _ rfl; refine bq ?_; refine blk_put (cs := #[.int .i64 t601, .int .i64 0, .int .i64 0, .int .i64 0]) ?_ 1 _ rfl; refine bq ?_; refine blk_put (cs := #[.int .i64 0, .int .i64 0, .int .i64 0, .int .i64 0]) ?_ 0 _ rfl; exact bq BK605.out⟩
    have n3_ : Aside0 (Below w.heap.size w ((((w13.setCell ⟨gb605, 0, none⟩ (.int .i64 t601)).setCell ⟨gb605, 1, none⟩ (.int .i64 t602)).setCell ⟨gb605, 2, none⟩ (.int .i64 t603)).setCell ⟨gb605, 3, none⟩ (.int .i64 t604))) := ⟨zB⟩
    (try clear BK599)
    (try clear BK600)
    (try clear BK605)
    (try clear HB)
    generalize ((((w13.setCell ⟨gb605, 0, none⟩ (.int .i64 t601)).setCell ⟨gb605, 1, none⟩ (.int .i64 t602)).setCell ⟨gb605, 2, none⟩ (.int .i64 t603)).setCell ⟨gb605, 3, none⟩ (.int .i64 t604)) = w23 at n0_ n1_ n2_ n3_ ⊢
    have BK599 := n0_
    have BK600 := n1_
    have BK605 := n2_
    have HB := n3_
    clear n0_ n1_ n2_ n3_
    replace BK599 := Aside0.mk (blk_drew BK599.out)
    replace BK600 := Aside0.mk (blk_drew BK600.out)
    replace BK605 := Aside0.mk (blk_drew BK605.out)
    replace HB := Aside0.mk (below_drew1 HB.out)
    refine start_ (n := 11) (S := fun w' => w'.cell? ⟨gb605, 0, none⟩ = some (.int .i64 t601) ∧ w'.cell? ⟨gb605, 1, none⟩ = some (.int .i64 t602) ∧ w'.cell? ⟨gb605, 2, none⟩ = some (.int .i64 t603) ∧ w'.cell? ⟨gb605, 3, none⟩ = some (.int .i64 t604) ∧ w'.cell? ⟨gb599, 0, none⟩ = some (.int .i64 t591) ∧ w'.cell? ⟨gb599, 1, none⟩ = some (.int .i64 t592) ∧ w'.cell? ⟨gb599, 2, none⟩ = some (.int .i64 t593) ∧ w'.cell? ⟨gb599, 3, none⟩ = some (.int .i64 t594) ∧ w'.cell? ⟨gb600, 0, none⟩ = some (.int .i64 t595) ∧ w'.cell? ⟨gb600, 1, none⟩ = some (.int .i64 t596) ∧ w'.cell? ⟨gb600, 2, none⟩ = some (.int .i64 t597) ∧ w'.cell? ⟨gb600, 3, none⟩ = some (.int .i64 t598)) (ds := []) #[false, false, false, false, false, false, false, false, false, false, false] (by kernel_rfl) rfl rfl ⟨(blk_cell BK605.out 0).trans rfl, (blk_cell BK605.out 1).trans rfl, (blk_cell BK605.out 2).trans rfl, (blk_cell BK605.out 3).trans rfl, (blk_cell BK599.out 0).trans rfl, (blk_cell BK599.out 1).trans rfl, (blk_cell BK599.out 2).trans rfl, (blk_cell BK599.out 3).trans rfl, (blk_cell BK600.out 0).trans rfl, (blk_cell BK600.out 1).trans rfl, (blk_cell BK600.out 2).trans rfl, (blk_cell BK600.out 3).trans rfl⟩ (fun hHeld => ?_); refine with_tabW laws_FnOfOne.tab5 laws_FnOfOne.bits5 (fun HT_ HW_ => ?_)
    generalize w23.drew = w24 at BK599 BK600 BK605 HB hHeld ⊢
    refine pz 1 23 ?_
    refine tz 0 22 ?_
    refine tz 2 24 ?_
    refine tz 3 25 ?_
    refine oz 4 26 fun K hK => ?_
    refine gz Try.func7 #[.int .i64 t590, .agg #[.int .i64 t591, .int .i64 t592, .int .i64 t593, .int .i64 t594], .agg #[.int .i64 t595, .int .i64 t596, .int .i64 t597, .int .i64 t598]] ?_
    with_reducible refine (spec_RangeOf.calls k t590 t591 t592 t593 t594 t595 t596 t597 t598 t606 t607 t608 t609 _ A17.out).mono ?_
    rintro e w25 ⟨rfl, hb⟩
    refine ⟨_, rfl, ?_⟩
    replace BK599 := zb BK599 hb rfl
    replace BK600 := zb BK600 hb rfl
    replace BK605 := zb BK605 hb rfl
    replace HB := zS hb
    try clear hb
    refine hK.out _ _ ⟨(blk_cell BK605.out 0).trans rfl, (blk_cell BK605.out 1).trans rfl, (blk_cell BK605.out 2).trans rfl, (blk_cell BK605.out 3).trans rfl, (blk_cell BK599.out 0).trans rfl, (blk_cell BK599.out 1).trans rfl, (blk_cell BK599.out 2).trans rfl, (blk_cell BK599.out 3).trans rfl, (blk_cell BK600.out 0).trans rfl, (blk_cell BK600.out 1).trans rfl, (blk_cell BK600.out 2).trans rfl, (blk_cell BK600.out 3).trans rfl⟩ (fun hHeld => ?_)
    clear hK K
    refine nz ?_
    refine pz 5 27 ?_
    refine pz 6 28 ?_
    refine tz 7 29 ?_
    refine oz 8 30 fun K hK => ?_
    refine gz Try.func8 #[.agg #[.int .i64 t601, .int .i64 t602, .int .i64 t603, .int .i64 t604]] ?_
    with_reducible refine (impl_RangeOk.calls t601 t602 t603 t604 t610 _ A22.out).mono ?_
    rintro e w26 ⟨rfl, hb⟩
    refine ⟨_, rfl, ?_⟩
    replace BK599 := zb BK599 hb rfl
    replace BK600 := zb BK600 hb rfl
    replace BK605 := zb BK605 hb rfl
    replace HB := zS hb
    try clear hb
    refine hK.out _ _ ⟨(blk_cell BK605.out 0).trans rfl, (blk_cell BK605.out 1).trans rfl, (blk_cell BK605.out 2).trans rfl, (blk_cell BK605.out 3).trans rfl, (blk_cell BK599.out 0).trans rfl, (blk_cell BK599.out 1).trans rfl, (blk_cell BK599.out 2).trans rfl, (blk_cell BK599.out 3).trans rfl, (blk_cell BK600.out 0).trans rfl, (blk_cell BK600.out 1).trans rfl, (blk_cell BK600.out 2).trans rfl, (blk_cell BK600.out 3).trans rfl⟩ (fun hHeld => ?_)
    clear hK K
    refine nz ?_
    refine pz 9 31 ?_
    refine pz 10 32 ?_
    refine done_ (done_of HT_.out (by kernel_rfl)) ?_
    try go_wp2
    go_meet
    case rel => exact ⟨_, (!t610), (by first | rfl | (simp; done) | (simp [*]; done)), H', ⟨by first | omega | exact Nat.le_refl _⟩, ⟨by exact bq BK599.out⟩, ⟨by exact bq BK600.out⟩, ⟨by exact bq BK605.out⟩, ⟨zB⟩⟩
  case rest =>
   clear HC5
   try clear c1
   try clear c2
   try clear c2b0
   try clear c2b1
   try clear p2
   try clear c4
   try clear c5
   try clear c6
   try clear c7
   try clear c8
   try clear c9
   try clear c14
   try clear c15
   try clear c18
   try clear c18b0
   try clear hcz10_0 hcz10_1 hcz10_2 hcz10_3 hfz10_0 hfz10_1 hfz10_2 hfz10_3
   try clear hcz11_0 hcz11_1 hcz11_2 hcz11_3 hfz11_0 hfz11_1 hfz11_2 hfz11_3
   try clear hcz16_0 hcz16_1 hcz16_2 hcz16_3 hfz16_0 hfz16_1 hfz16_2 hfz16_3
   obtain ⟨kq, x32_4, rfl, HA, HJ4, BK599, BK600, BK605, HB⟩ := hcut
   cases kq with
   | zero => exact absurd HA.out (by simp [laws_FnOfOne.j0])
   | succ kj4 =>
    have H := HA.out
    clear HA
    simp only [laws_FnOfOne.j0] at H
    by_cases c27 : x32_4 = true
    ·subst c27
     rw [if_pos rfl] at H
     replace H := Option.bind_eq_some_iff.mp H
     obtain ⟨⟨t611, t612, t613, t614⟩, A280, H⟩ := H
     try dsimp only at H
     have A28 := Aside0.mk A280
     clear A280
     obtain rfl := Option.some.inj H
     try go_wp2
     replace BK599 := Aside0.mk (blk_drew BK599.out)
     replace BK600 := Aside0.mk (blk_drew BK600.out)
     replace BK605 := Aside0.mk (blk_drew BK605.out)
     replace HB := Aside0.mk (below_drew1 HB.out)
     refine start_ (n := 7) (S := fun w' => w'.cell? ⟨gb605, 0, none⟩ = some (.int .i64 t601) ∧ w'.cell? ⟨gb605, 1, none⟩ = some (.int .i64 t602) ∧ w'.cell? ⟨gb605, 2, none⟩ = some (.int .i64 t603) ∧ w'.cell? ⟨gb605, 3, none⟩ = some (.int .i64 t604) ∧ w'.cell? ⟨gb599, 0, none⟩ = some (.int .i64 t591) ∧ w'.cell? ⟨gb599, 1, none⟩ = some (.int .i64 t592) ∧ w'.cell? ⟨gb599, 2, none⟩ = some (.int .i64 t593) ∧ w'.cell? ⟨gb599, 3, none⟩ = some (.int .i64 t594) ∧ w'.cell? ⟨gb600, 0, none⟩ = some (.int .i64 t595) ∧ w'.cell? ⟨gb600, 1, none⟩ = some (.int .i64 t596) ∧ w'.cell? ⟨gb600, 2, none⟩ = some (.int .i64 t597) ∧ w'.cell? ⟨gb600, 3, none⟩ = some (.int .i64 t598)) (ds := []) #[false, false, false, false, false, false, false] (by kernel_rfl) rfl rfl ⟨(blk_cell BK605.out 0).trans rfl, (blk_cell BK605.out 1).trans rfl, (blk_cell BK605.out 2).trans rfl, (blk_cell BK605.out 3).trans rfl, (blk_cell BK599.out 0).trans rfl, (blk_cell BK599.out 1).trans rfl, (blk_cell BK599.out 2).trans rfl, (blk_cell BK599.out 3).trans rfl, (blk_cell BK600.out 0).trans rfl, (blk_cell BK600.out 1).trans rfl, (blk_cell BK600.out 2).trans rfl, (blk_cell BK600.out 3).trans rfl⟩ (fun hHeld => ?_)
     generalize wc.drew = w29 at BK599 BK600 BK605 HB hHeld ⊢
     refine pz 1 34 ?_
     refine tz 0 33 ?_
     refine tz 2 35 ?_
     refine tz 3 36 ?_
     refine oz 4 37 fun K hK => ?_
     refine gz Try.func7 #[.int .i64 t590, .agg #[.int .i64 t591, .int .i64 t592, .int .i64 t593, .int .i64 t594], .agg #[.int .i64 t595, .int .i64 t596, .int .i64 t597, .int .i64 t598]] ?_
     with_reducible refine (spec_RangeOf.calls kj4 t590 t591 t592 t593 t594 t595 t596 t597 t598 t611 t612 t613 t614 _ A28.out).mono ?_
     rintro e w30 ⟨rfl, hb⟩
     refine ⟨_, rfl, ?_⟩
     replace BK599 := zb BK599 hb rfl
     replace BK600 := zb BK600 hb rfl
     replace BK605 := zb BK605 hb rfl
     replace HB := zS hb
     try clear hb
     refine hK.out _ _ ⟨(blk_cell BK605.out 0).trans rfl, (blk_cell BK605.out 1).trans rfl, (blk_cell BK605.out 2).trans rfl, (blk_cell BK605.out 3).trans rfl, (blk_cell BK599.out 0).trans rfl, (blk_cell BK599.out 1).trans rfl, (blk_cell BK599.out 2).trans rfl, (blk_cell BK599.out 3).trans rfl, (blk_cell BK600.out 0).trans rfl, (blk_cell BK600.out 1).trans rfl, (blk_cell BK600.out 2).trans rfl, (blk_cell BK600.out 3).trans rfl⟩ (fun hHeld => ?_)
     clear hK K
     refine nz ?_
     refine pz 5 38 ?_
     refine pz 6 2 ?_
     refine done_ (by kernel_rfl) ?_
     try go_wp2
     go_ret
     exact ⟨zR, zB⟩
    ·replace c27 := Bool.eq_false_iff.mpr c27
     subst c27
     rw [if_neg (show ¬ (false = true) by decide)] at H
     replace H := Option.bind_eq_some_iff.mp H
     obtain ⟨t615, A310, H⟩ := H
     try dsimp only at H
     have A31 := Aside0.mk A310
     clear A310
     replace H := Option.bind_eq_some_iff.mp H
     obtain ⟨t616, A320, H⟩ := H
     try dsimp only at H
     have A32 := Aside0.mk A320
     clear A320
     replace H := Option.bind_eq_some_iff.mp H
     obtain ⟨⟨t617, t618, t619, t620⟩, A330, H⟩ := H
     try dsimp only at H
     have A33 := Aside0.mk A330
     clear A330
     replace H := Option.bind_eq_some_iff.mp H
     obtain ⟨⟨t621, t622, t623, t624⟩, A340, H⟩ := H
     try dsimp only at H
     have A34 := Aside0.mk A340
     clear A340
     replace H := Option.bind_eq_some_iff.mp H
     obtain ⟨⟨t625, t626, t627, t628⟩, A350, H⟩ := H
     try dsimp only at H
     have A35 := Aside0.mk A350
     clear A350
     replace H := Option.bind_eq_some_iff.mp H
     obtain ⟨t629, A360, H⟩ := H
     try dsimp only at H
     have A36 := Aside0.mk A360
     clear A360
     replace H := Option.bind_eq_some_iff.mp H
     obtain ⟨⟨t630, t631, t632, t633⟩, A370, H⟩ := H
     try dsimp only at H
     have A37 := Aside0.mk A370
     clear A370
     obtain rfl := Option.some.inj H
     have hnb38 := NB599_600.out
     have hnc38 := NB600_599.out
     have hnb39 := NB599_605.out
     have hnc39 := NB605_599.out
     obtain ⟨hcz40_0, hcz40_1, hcz40_2, hcz40_3, hfz40_0, hfz40_1, hfz40_2, hfz40_3⟩ := zc4 BK599
     go_wp2_with (first | ((with_reducible refine gate_callee (f := 12) rfl ?_); refine gl 40 Try.func12 #[.agg #[.int .i64 t591, .int .i64 t592, .int .i64 t593, .int .i64 t594]] ?_; (with_reducible refine (impl_RangeLeast.calls kj4 t591 t592 t593 t594 t615 _ A31.out).mono ?_); rintro e w41 ⟨rfl, hb⟩; refine ⟨_, rfl, ?_⟩; replace BK599 := zb BK599 hb rfl; replace BK600 := zb BK600 hb rfl; replace BK605 := zb BK605 hb rfl; replace HB := zS hb; try clear hb; have hnb42 := NB600_605.out; have hnc42 := NB605_600.out; obtain ⟨hcz43_0, hcz43_1, hcz43_2, hcz43_3, hfz43_0, hfz43_1, hfz43_2, hfz43_3⟩ := zc4 BK600) | ((with_reducible refine gate_callee (f := 12) rfl ?_); refine gl 42 Try.func12 #[.agg #[.int .i64 t595, .int .i64 t596, .int .i64 t597, .int .i64 t598]] ?_; (with_reducible refine (impl_RangeLeast.calls kj4 t595 t596 t597 t598 t616 _ A32.out).mono ?_); rintro e w44 ⟨rfl, hb⟩; refine ⟨_, rfl, ?_⟩; replace BK599 := zb BK599 hb rfl; replace BK600 := zb BK600 hb rfl; replace BK605 := zb BK605 hb rfl; replace HB := zS hb; try clear hb) | ((with_reducible refine gate_callee (f := 13) rfl ?_); refine gl 45 Try.func13 #[.int .i64 t615] ?_; (with_reducible refine (impl_RangeOne.calls t615 t617 t618 t619 t620 _ A33.out).mono ?_); rintro e w45 ⟨rfl, hb⟩; refine ⟨_, rfl, ?_⟩; replace BK599 := zb BK599 hb rfl; replace BK600 := zb BK600 hb rfl; replace BK605 := zb BK605 hb rfl; replace HB := zS hb; try clear hb) | ((with_reducible refine gate_callee (f := 13) rfl ?_); refine gl 47 Try.func13 #[.int .i64 t616] ?_; (with_reducible refine (impl_RangeOne.calls t616 t621 t622 t623 t624 _ A34.out).mono ?_); rintro e w46 ⟨rfl, hb⟩; refine ⟨_, rfl, ?_⟩; replace BK599 := zb BK599 hb rfl; replace BK600 := zb BK600 hb rfl; replace BK605 := zb BK605 hb rfl; replace HB := zS hb; try clear hb) | ((with_reducible refine gate_callee (f := 6) rfl ?_); refine gl 48 Try.func6 #[.int .i64 t590, .agg #[.int .i64 t617, .int .i64 t618, .int .i64 t619, .int .i64 t620], .agg #[.int .i64 t621, .int .i64 t622, .int .i64 t623, .int .i64 t624]] ?_; (with_reducible refine (impl_RangeOf.calls kj4 t590 t617 t618 t619 t620 t621 t622 t623 t624 t625 t626 t627 t628 _ A35.out).mono ?_); rintro e w47 ⟨rfl, hb⟩; refine ⟨_, rfl, ?_⟩; replace BK599 := zb BK599 hb rfl; replace BK600 := zb BK600 hb rfl; replace BK605 := zb BK605 hb rfl; replace HB := zS hb; try clear hb) | ((with_reducible refine gate_callee (f := 11) rfl ?_); refine gl 52 Try.func11 #[.int .i64 t590, .int .i64 t615, .int .i64 t616] ?_; (with_reducible refine (impl_RangeDo.calls kj4 t590 t615 t616 t629 _ A36.out).mono ?_); rintro e w' ⟨rfl, ⟨nd, rfl⟩⟩; refine ⟨_, rfl, ?_⟩) | ((with_reducible refine gate_callee (f := 13) rfl ?_); refine gl 53 Try.func13 #[.int .i64 t629] ?_; (with_reducible refine (impl_RangeOne.calls t629 t630 t631 t632 t633 _ A37.out).mono ?_); rintro e w48 ⟨rfl, hb⟩; refine ⟨_, rfl, ?_⟩; replace BK599 := zb BK599 hb rfl; replace BK600 := zb BK600 hb rfl; replace BK605 := zb BK605 hb rfl; replace HB := zS hb; try clear hb))
     go_ret
     exact ⟨zR, zB⟩

/-- THE ONE PURE STATEMENT of laws_FnOfOne: yours. -/
def laws_FnOfOne.Pure : Prop := ∀ (l0 : List Int), l0.length ≤ maxLen → l0.length * 1 ≤ 140737488351232 → (∀ x ∈ l0, (Lit.int .u8 x).wf = true) → ∃ k, laws_FnOfOne.f k l0 = some true
theorem laws_FnOfOne.walk (P : laws_FnOfOne.Pure) (a0 : Option Addr) (len0 cap0 : Nat) (z0 : List Int) (w : World) (w0 : (a0 = none ∧ len0 = 0 ∧ cap0 = 0 ∧ z0 = []) ∨ ∃ x, a0 = some x ∧ len0 ≤ cap0 ∧ cap0 ≤ maxLen ∧ z0.length = cap0 ∧ (∀ i, i < z0.length → w.cell? (x.add i) = some (.int .u8 (z0.getD i 0))) ∧ ∀ n ∈ z0, (Lit.int .u8 n).wf = true) (y0 : len0 * 1 ≤ 140737488351232) :
  Calls Try.prog 4 #[.slice a0 len0 cap0] w fun e w' => e = .returned (.bool true) ∧ Below w.heap.size w w' := by
 obtain ⟨l0, rfl, hr0, hm0, hw0, hc0⟩ := ReadsInt.ofRowC w0
 obtain ⟨k, h⟩ := P l0 hm0 y0 hw0
 refine (laws_FnOfOne.calls k _ _ l0 true w (Kd.C_of_reads (d := (0 : Int)) (h1 := fun _ => rfl) hr0) hc0 h).mono ?_
 rintro e w' ⟨rfl, hd⟩
 exact ⟨rfl, hd⟩

end Go.Proofs.Ytdhijcfohbkpoaa.Q
