/- The machine's side of this seat's laws: Go functions as Lean functions, and their contracts. By a program of this work over the kit's print. -/
import Derived.Test.YthhcdkmfpdpieaaQ0
import Derived.Test.YthhcdkmfpdpieaaQ1
import Derived.Test.YthhcdkmfpdpieaaQ3
import Derived.Test.YthhcdkmfpdpieaaQ13
import Derived.Test.YthhcdkmfpdpieaaQ16
import Derived.Test.YthhcdkmfpdpieaaQ17
import Derived.Test.YthhcdkmfpdpieaaQ20
import Derived.Test.YthhcdkmfpdpieaaQ21
namespace Go.Proofs.Ythhcdkmfpdpieaa.Q
open Go.RowKit Go.Proofs.YthhcdkmfpdpieaaW.PrintWords Go.Proofs.YthhcdkmfpdpieaaW.PrintLast Go.Proofs.YthhcdkmfpdpieaaW.PrintMore
attribute [local go_sem] max2_int min2_int max_two min_two max_three min_three max_four min_four Go.Proofs.YthhcdkmfpdpieaaN.not_i64 Go.Proofs.YthhcdkmfpdpieaaN.isSome_setCell   -- for this text's walks alone
set_option linter.unusedVariables false
set_option linter.unusedSimpArgs false
attribute [local go_sem high] eqA24
def spec_InsGet.f (a0 : ByteArray) : Option (Int × Int × Int × Int × Int × Int × Bool) := if (a0.size : Int) = 8 then ((spec_l1Get.f a0).bind fun bt661 => ((spec_l1InsOk.f bt661.1 bt661.2.1 bt661.2.2.1 bt661.2.2.2.1 bt661.2.2.2.2.1 bt661.2.2.2.2.2).bind fun t668 => (if t668 = true then ((spec_l1Put.f bt661.1 bt661.2.1 bt661.2.2.1 bt661.2.2.2.1 bt661.2.2.2.2.1 bt661.2.2.2.2.2).bind fun t669 => (if t669.toList = a0.toList then (some (bt661.1, bt661.2.1, bt661.2.2.1, bt661.2.2.2.1, bt661.2.2.2.2.1, bt661.2.2.2.2.2, true)) else (some (0, 0, 0, 0, 0, 0, false)))) else (some (0, 0, 0, 0, 0, 0, false))))) else (some (0, 0, 0, 0, 0, 0, false))
set_option maxHeartbeats 8000000 in
set_option maxRecDepth 100000 in
theorem spec_InsGet.calls (a0 : ByteArray) (r1 : Int) (r2 : Int) (r3 : Int) (r4 : Int) (r5 : Int) (r6 : Int) (r7 : Bool) (w : World) (h : spec_InsGet.f a0 = some (r1, r2, r3, r4, r5, r6, r7)) :
  Calls Try.prog 15 #[.string a0] w fun e w' => e = .returned (.tuple #[.agg #[.int .i64 r1, .int .i64 r2, .int .i64 r3, .int .i64 r4, .int .i64 r5, .int .i64 r6], .bool r7]) ∧ Below w.heap.size w w' := by
 have hu24 := Try.underlying24
 have HB := Aside0.mk (Below.refl w.heap.size w)
 have H : (if (a0.size : Int) = 8 then ((spec_l1Get.f a0).bind fun bt661 => ((spec_l1InsOk.f bt661.1 bt661.2.1 bt661.2.2.1 bt661.2.2.2.1 bt661.2.2.2.2.1 bt661.2.2.2.2.2).bind fun t668 => (if t668 = true then ((spec_l1Put.f bt661.1 bt661.2.1 bt661.2.2.1 bt661.2.2.2.1 bt661.2.2.2.2.1 bt661.2.2.2.2.2).bind fun t669 => (if t669.toList = a0.toList then (some (bt661.1, bt661.2.1, bt661.2.2.1, bt661.2.2.2.1, bt661.2.2.2.2.1, bt661.2.2.2.2.2, true)) else (some (0, 0, 0, 0, 0, 0, false)))) else (some (0, 0, 0, 0, 0, 0, false))))) else (some (0, 0, 0, 0, 0, 0, false))) = some (r1, r2, r3, r4, r5, r6, r7) := h
 clear h
 by_cases c2 : (a0.size : Int) = 8
 ·rw [if_pos c2] at H
  have c2b0 : ((a0.size : Int) == 8) = true := beq_iff_eq.mpr c2
  have c2b1 : ((a0.size : Int) != 8) = false := bne_eq_false_iff_eq.mpr c2
  clear c2
  replace H := Option.bind_eq_some_iff.mp H
  obtain ⟨⟨t661, t662, t663, t664, t665, t666⟩, A30, H⟩ := H
  try dsimp only at H
  have A3 := Aside0.mk A30
  clear A30
  replace H := Option.bind_eq_some_iff.mp H
  obtain ⟨t668, A40, H⟩ := H
  try dsimp only at H
  have A4 := Aside0.mk A40
  clear A40
  by_cases c5 : t668 = true
  ·subst c5
   rw [if_pos rfl] at H
   replace H := Option.bind_eq_some_iff.mp H
   obtain ⟨t669, A60, H⟩ := H
   try dsimp only at H
   have A6 := Aside0.mk A60
   clear A60
   by_cases c7 : t669.toList = a0.toList
   ·rw [if_pos c7] at H
    have c7b0 : (t669.toList == a0.toList) = true := beq_iff_eq.mpr c7
    have c7b1 : (t669.toList != a0.toList) = false := bne_eq_false_iff_eq.mpr c7
    clear c7
    simp only [Option.some.injEq, Prod.mk.injEq] at H
    obtain ⟨rfl, rfl, rfl, rfl, rfl, rfl, rfl⟩ := H
    go_enter Try.func15, Try.ntmps15
    go_wp2_with (first | ((with_reducible refine gate_dst (N := 2) rfl ?_); refine be 2 #[.int .i64 0, .int .i64 0, .int .i64 0, .int .i64 0, .int .i64 0, .int .i64 0] 24 ?_; intro gb660 hg w8 hbox hb; have BK660 := Aside0.mk hbox; have GW660 := zW hg; replace HB := zS hb; have GE660 := GW660; clear hb hbox hg) | ((with_reducible refine gate_callee (f := 38) rfl ?_); refine gl 10 Try.func38 #[.string a0] ?_; (with_reducible refine (spec_l1Get.calls a0 t661 t662 t663 t664 t665 t666 _ A3.out).mono ?_); rintro e w9 ⟨rfl, hb⟩; refine ⟨_, rfl, ?_⟩; replace BK660 := zb BK660 hb rfl; replace HB := zS hb; try clear hb) | ((with_reducible refine gate_dst (N := 4) rfl ?_); refine be 4 #[.int .i64 0, .int .i64 0, .int .i64 0, .int .i64 0, .int .i64 0, .int .i64 0] 24 ?_; intro gb667 hg w10 hbox hb; have BK667 := Aside0.mk hbox; have GW667 := zW hg; replace HB := zS hb; have GE667 := GW667; have NB660_667 := zl BK660 hg rfl; have NB667_660 := zg BK660 hg rfl; replace BK660 := zb BK660 hb rfl; clear hb hbox hg; have hnb11 := NB667_660.out; have hnc11 := NB660_667.out; obtain ⟨hcz12_0, hcz12_1, hcz12_2, hcz12_3, hcz12_4, hcz12_5, hfz12_0, hfz12_1, hfz12_2, hfz12_3, hfz12_4, hfz12_5⟩ := zc6 BK667) | ((with_reducible refine gate_callee (f := 28) rfl ?_); refine gl 12 Try.func28 #[.agg #[.int .i64 t661, .int .i64 t662, .int .i64 t663, .int .i64 t664, .int .i64 t665, .int .i64 t666]] ?_; (with_reducible refine (spec_l1InsOk.calls t661 t662 t663 t664 t665 t666 true _ A4.out).mono ?_); rintro e w13 ⟨rfl, hb⟩; refine ⟨_, rfl, ?_⟩; replace BK660 := Aside0.mk (blk_below (g := gb660) (o := .cells #[.int .i64 0, .int .i64 0, .int .i64 0, .int .i64 0, .int .i64 0, .int .i64 0] 24 (0, 0)) (by refine fq ?_ NB660_667.out; refine fq ?_ NB660_667.out; refine fq ?_ NB660_667.out; refine fq ?_ NB660_667.out; refine fq ?_ NB660_667.out; refine fq ?_ NB660_667.out; exact bq BK660.out) hb); replace BK667 := Aside0.mk (blk_below (g := gb667) (o := .cells #[.int .i64 t661, .int .i64 t662, .int .i64 t663, .int .i64 t664, .int .i64 t665, .int .i64 t666] 24 (0, 0)) (by refine bq ?_; refine blk_put (cs := #[.int .i64 t661, .int .i64 t662, .int .i64 t663, .int .i64 t664, .int .i64 t665, .int .i64 0]) ?_ 5 _ rfl; refine bq ?_; refine blk_put (cs := #[.int .i64 t661, .int .i64 t662, .int .i64 t663, .int .i64 t664, .int .i64 0, .int .i64 0]) ?_ 4 _ rfl; refine bq ?_; refine blk_put (cs := #[.int .i64 t661, .int .i64 t662, .int .i64 t663, .int .i64 0, .int .i64 0, .int .i64 0]) ?_ 3 _ rfl; refine bq ?_; refine blk_put (cs := #[.int .i64 t661, .int .i64 t662, .int .i64 0, .int .i64 0, .int .i64 0, .int .i64 0]) ?_ 2 _ rfl; refine bq ?_; refine blk_put (cs := #[.int .i64 t661, .int .i64 0, .int .i64 0, .int .i64 0, .int .i64 0, .int .i64 0]) ?_ 1 _ rfl; refine bq ?_; refine blk_put (cs := #[.int .i64 0, .int .i64 0, .int .i64 0, .int .i64 0, .int .i64 0, .int .i64 0]) ?_ 0 _ rfl; exact bq BK667.out) hb); replace HB := zS hb; try clear hb; obtain ⟨hcz14_0, hcz14_1, hcz14_2, hcz14_3, hcz14_4, hcz14_5, hfz14_0, hfz14_1, hfz14_2, hfz14_3, hfz14_4, hfz14_5⟩ := zc6 BK667) | (go_at_call 29; (with_reducible refine (spec_l1Put.calls t661 t662 t663 t664 t665 t666 t669 _ A6.out).mono ?_); rintro e w15 ⟨rfl, hb⟩; replace BK660 := zb BK660 hb rfl; replace BK667 := zb BK667 hb rfl; replace HB := zS hb; try clear hb; obtain ⟨hcz16_0, hcz16_1, hcz16_2, hcz16_3, hcz16_4, hcz16_5, hfz16_0, hfz16_1, hfz16_2, hfz16_3, hfz16_4, hfz16_5⟩ := zc6 BK667; obtain ⟨hcz17_0, hcz17_1, hcz17_2, hcz17_3, hcz17_4, hcz17_5, hfz17_0, hfz17_1, hfz17_2, hfz17_3, hfz17_4, hfz17_5⟩ := zc6 BK660))
    refine bodyPost_ret (results_ct rfl _ _ gb660 24 #[.int .i64 t661, .int .i64 t662, .int .i64 t663, .int .i64 t664, .int .i64 t665, .int .i64 t666] (0, 0) _ rfl (by refine bq ?_; refine blk_put (cs := #[.int .i64 t661, .int .i64 t662, .int .i64 t663, .int .i64 t664, .int .i64 t665, .int .i64 0]) ?_ 5 _ rfl; refine bq ?_; refine blk_put (cs := #[.int .i64 t661, .int .i64 t662, .int .i64 t663, .int .i64 t664, .int .i64 0, .int .i64 0]) ?_ 4 _ rfl; refine bq ?_; refine blk_put (cs := #[.int .i64 t661, .int .i64 t662, .int .i64 t663, .int .i64 0, .int .i64 0, .int .i64 0]) ?_ 3 _ rfl; refine bq ?_; refine blk_put (cs := #[.int .i64 t661, .int .i64 t662, .int .i64 0, .int .i64 0, .int .i64 0, .int .i64 0]) ?_ 2 _ rfl; refine bq ?_; refine blk_put (cs := #[.int .i64 t661, .int .i64 0, .int .i64 0, .int .i64 0, .int .i64 0, .int .i64 0]) ?_ 1 _ rfl; refine bq ?_; refine blk_put (cs := #[.int .i64 0, .int .i64 0, .int .i64 0, .int .i64 0, .int .i64 0, .int .i64 0]) ?_ 0 _ rfl; exact bq BK660.out) Try.underlying24 rfl (by kernel_rfl)) rfl ?_
    exact ⟨zR, zB⟩
   ·rw [if_neg c7] at H
    have c7b0 : (t669.toList == a0.toList) = false := beq_eq_false_iff_ne.mpr c7
    have c7b1 : (t669.toList != a0.toList) = true := bne_iff_ne.mpr c7
    simp only [Option.some.injEq, Prod.mk.injEq] at H
    obtain ⟨rfl, rfl, rfl, rfl, rfl, rfl, rfl⟩ := H
    go_enter Try.func15, Try.ntmps15
    go_wp2_with (first | ((with_reducible refine gate_dst (N := 2) rfl ?_); refine be 2 #[.int .i64 0, .int .i64 0, .int .i64 0, .int .i64 0, .int .i64 0, .int .i64 0] 24 ?_; intro gb660 hg w18 hbox hb; have BK660 := Aside0.mk hbox; have GW660 := zW hg; replace HB := zS hb; have GE660 := GW660; clear hb hbox hg) | ((with_reducible refine gate_callee (f := 38) rfl ?_); refine gl 10 Try.func38 #[.string a0] ?_; (with_reducible refine (spec_l1Get.calls a0 t661 t662 t663 t664 t665 t666 _ A3.out).mono ?_); rintro e w19 ⟨rfl, hb⟩; refine ⟨_, rfl, ?_⟩; replace BK660 := zb BK660 hb rfl; replace HB := zS hb; try clear hb) | ((with_reducible refine gate_dst (N := 4) rfl ?_); refine be 4 #[.int .i64 0, .int .i64 0, .int .i64 0, .int .i64 0, .int .i64 0, .int .i64 0] 24 ?_; intro gb667 hg w20 hbox hb; have BK667 := Aside0.mk hbox; have GW667 := zW hg; replace HB := zS hb; have GE667 := GW667; have NB660_667 := zl BK660 hg rfl; have NB667_660 := zg BK660 hg rfl; replace BK660 := zb BK660 hb rfl; clear hb hbox hg; have hnb21 := NB667_660.out; have hnc21 := NB660_667.out; obtain ⟨hcz22_0, hcz22_1, hcz22_2, hcz22_3, hcz22_4, hcz22_5, hfz22_0, hfz22_1, hfz22_2, hfz22_3, hfz22_4, hfz22_5⟩ := zc6 BK667) | ((with_reducible refine gate_callee (f := 28) rfl ?_); refine gl 12 Try.func28 #[.agg #[.int .i64 t661, .int .i64 t662, .int .i64 t663, .int .i64 t664, .int .i64 t665, .int .i64 t666]] ?_; (with_reducible refine (spec_l1InsOk.calls t661 t662 t663 t664 t665 t666 true _ A4.out).mono ?_); rintro e w23 ⟨rfl, hb⟩; refine ⟨_, rfl, ?_⟩; replace BK660 := Aside0.mk (blk_below (g := gb660) (o := .cells #[.int .i64 0, .int .i64 0, .int .i64 0, .int .i64 0, .int .i64 0, .int .i64 0] 24 (0, 0)) (by refine fq ?_ NB660_667.out; refine fq ?_ NB660_667.out; refine fq ?_ NB660_667.out; refine fq ?_ NB660_667.out; refine fq ?_ NB660_667.out; refine fq ?_ NB660_667.out; exact bq BK660.out) hb); replace BK667 := Aside0.mk (blk_below (g := gb667) (o := .cells #[.int .i64 t661, .int .i64 t662, .int .i64 t663, .int .i64 t664, .int .i64 t665, .int .i64 t666] 24 (0, 0)) (by refine bq ?_; refine blk_put (cs := #[.int .i64 t661, .int .i64 t662, .int .i64 t663, .int .i64 t664, .int .i64 t665, .int .i64 0]) ?_ 5 _ rfl; refine bq ?_; refine blk_put (cs := #[.int .i64 t661, .int .i64 t662, .int .i64 t663, .int .i64 t664, .int .i64 0, .int .i64 0]) ?_ 4 _ rfl; refine bq ?_; refine blk_put (cs := #[.int .i64 t661, .int .i64 t662, .int .i64 t663, .int .i64 0, .int .i64 0, .int .i64 0]) ?_ 3 _ rfl; refine bq ?_; refine blk_put (cs := #[.int .i64 t661, .int .i64 t662, .int .i64 0, .int .i64 0, .int .i64 0, .int .i64 0]) ?_ 2 _ rfl; refine bq ?_; refine blk_put (cs := #[.int .i64 t661, .int .i64 0, .int .i64 0, .int .i64 0, .int .i64 0, .int .i64 0]) ?_ 1 _ rfl; refine bq ?_; refine blk_put (cs := #[.int .i64 0, .int .i64 0, .int .i64 0, .int .i64 0, .int .i64 0, .int .i64 0]) ?_ 0 _ rfl; exact bq BK667.out) hb); replace HB := zS hb; try clear hb; obtain ⟨hcz24_0, hcz24_1, hcz24_2, hcz24_3, hcz24_4, hcz24_5, hfz24_0, hfz24_1, hfz24_2, hfz24_3, hfz24_4, hfz24_5⟩ := zc6 BK667) | (go_at_call 29; (with_reducible refine (spec_l1Put.calls t661 t662 t663 t664 t665 t666 t669 _ A6.out).mono ?_); rintro e w25 ⟨rfl, hb⟩; replace BK660 := zb BK660 hb rfl; replace BK667 := zb BK667 hb rfl; replace HB := zS hb; try clear hb; obtain ⟨hcz26_0, hcz26_1, hcz26_2, hcz26_3, hcz26_4, hcz26_5, hfz26_0, hfz26_1, hfz26_2, hfz26_3, hfz26_4, hfz26_5⟩ := zc6 BK660))
    refine bodyPost_ret (results_ct rfl _ _ gb660 24 #[.int .i64 0, .int .i64 0, .int .i64 0, .int .i64 0, .int .i64 0, .int .i64 0] (0, 0) _ rfl (by refine bq ?_; refine blk_put (cs := #[.int .i64 0, .int .i64 0, .int .i64 0, .int .i64 0, .int .i64 0, .int .i64 0]) ?_ 5 _ rfl; refine bq ?_; refine blk_put (cs := #[.int .i64 0, .int .i64 0, .int .i64 0, .int .i64 0, .int .i64 0, .int .i64 0]) ?_ 4 _ rfl; refine bq ?_; refine blk_put (cs := #[.int .i64 0, .int .i64 0, .int .i64 0, .int .i64 0, .int .i64 0, .int .i64 0]) ?_ 3 _ rfl; refine bq ?_; refine blk_put (cs := #[.int .i64 0, .int .i64 0, .int .i64 0, .int .i64 0, .int .i64 0, .int .i64 0]) ?_ 2 _ rfl; refine bq ?_; refine blk_put (cs := #[.int .i64 0, .int .i64 0, .int .i64 0, .int .i64 0, .int .i64 0, .int .i64 0]) ?_ 1 _ rfl; refine bq ?_; refine blk_put (cs := #[.int .i64 0, .int .i64 0, .int .i64 0, .int .i64 0, .int .i64 0, .int .i64 0]) ?_ 0 _ rfl; exact bq BK660.out) Try.underlying24 rfl (by kernel_rfl)) rfl ?_
    exact ⟨zR, zB⟩
  ·replace c5 := Bool.eq_false_iff.mpr c5
   subst c5
   rw [if_neg (show ¬ (false = true) by decide)] at H
   simp only [Option.some.injEq, Prod.mk.injEq] at H
   obtain ⟨rfl, rfl, rfl, rfl, rfl, rfl, rfl⟩ := H
   go_enter Try.func15, Try.ntmps15
   go_wp2_with (first | ((with_reducible refine gate_dst (N := 2) rfl ?_); refine be 2 #[.int .i64 0, .int .i64 0, .int .i64 0, .int .i64 0, .int .i64 0, .int .i64 0] 24 ?_; intro gb660 hg w27 hbox hb; have BK660 := Aside0.mk hbox; have GW660 := zW hg; replace HB := zS hb; have GE660 := GW660; clear hb hbox hg) | ((with_reducible refine gate_callee (f := 38) rfl ?_); refine gl 10 Try.func38 #[.string a0] ?_; (with_reducible refine (spec_l1Get.calls a0 t661 t662 t663 t664 t665 t666 _ A3.out).mono ?_); rintro e w28 ⟨rfl, hb⟩; refine ⟨_, rfl, ?_⟩; replace BK660 := zb BK660 hb rfl; replace HB := zS hb; try clear hb) | ((with_reducible refine gate_dst (N := 4) rfl ?_); refine be 4 #[.int .i64 0, .int .i64 0, .int .i64 0, .int .i64 0, .int .i64 0, .int .i64 0] 24 ?_; intro gb667 hg w29 hbox hb; have BK667 := Aside0.mk hbox; have GW667 := zW hg; replace HB := zS hb; have GE667 := GW667; have NB660_667 := zl BK660 hg rfl; have NB667_660 := zg BK660 hg rfl; replace BK660 := zb BK660 hb rfl; clear hb hbox hg; have hnb30 := NB667_660.out; have hnc30 := NB660_667.out; obtain ⟨hcz31_0, hcz31_1, hcz31_2, hcz31_3, hcz31_4, hcz31_5, hfz31_0, hfz31_1, hfz31_2, hfz31_3, hfz31_4, hfz31_5⟩ := zc6 BK667) | ((with_reducible refine gate_callee (f := 28) rfl ?_); refine gl 12 Try.func28 #[.agg #[.int .i64 t661, .int .i64 t662, .int .i64 t663, .int .i64 t664, .int .i64 t665, .int .i64 t666]] ?_; (with_reducible refine (spec_l1InsOk.calls t661 t662 t663 t664 t665 t666 false _ A4.out).mono ?_); rintro e w32 ⟨rfl, hb⟩; refine ⟨_, rfl, ?_⟩; replace BK660 := Aside0.mk (blk_below (g := gb660) (o := .cells #[.int .i64 0, .int .i64 0, .int .i64 0, .int .i64 0, .int .i64 0, .int .i64 0] 24 (0, 0)) (by refine fq ?_ NB660_667.out; refine fq ?_ NB660_667.out; refine fq ?_ NB660_667.out; refine fq ?_ NB660_667.out; refine fq ?_ NB660_667.out; refine fq ?_ NB660_667.out; exact bq BK660.out) hb); replace BK667 := Aside0.mk (blk_below (g := gb667) (o := .cells #[.int .i64 t661, .int .i64 t662, .int .i64 t663, .int .i64 t664, .int .i64 t665, .int .i64 t666] 24 (0, 0)) (by refine bq ?_; refine blk_put (cs := #[.int .i64 t661, .int .i64 t662, .int .i64 t663, .int .i64 t664, .int .i64 t665, .int .i64 0]) ?_ 5 _ rfl; refine bq ?_; refine blk_put (cs := #[.int .i64 t661, .int .i64 t662, .int .i64 t663, .int .i64 t664, .int .i64 0, .int .i64 0]) ?_ 4 _ rfl; refine bq ?_; refine blk_put (cs := #[.int .i64 t661, .int .i64 t662, .int .i64 t663, .int .i64 0, .int .i64 0, .int .i64 0]) ?_ 3 _ rfl; refine bq ?_; refine blk_put (cs := #[.int .i64 t661, .int .i64 t662, .int .i64 0, .int .i64 0, .int .i64 0, .int .i64 0]) ?_ 2 _ rfl; refine bq ?_; refine blk_put (cs := #[.int .i64 t661, .int .i64 0, .int .i64 0, .int .i64 0, .int .i64 0, .int .i64 0]) ?_ 1 _ rfl; refine bq ?_; refine blk_put (cs := #[.int .i64 0, .int .i64 0, .int .i64 0, .int .i64 0, .int .i64 0, .int .i64 0]) ?_ 0 _ rfl; exact bq BK667.out) hb); replace HB := zS hb; try clear hb; obtain ⟨hcz33_0, hcz33_1, hcz33_2, hcz33_3, hcz33_4, hcz33_5, hfz33_0, hfz33_1, hfz33_2, hfz33_3, hfz33_4, hfz33_5⟩ := zc6 BK660))
   refine bodyPost_ret (results_ct rfl _ _ gb660 24 #[.int .i64 0, .int .i64 0, .int .i64 0, .int .i64 0, .int .i64 0, .int .i64 0] (0, 0) _ rfl (by refine bq ?_; refine blk_put (cs := #[.int .i64 0, .int .i64 0, .int .i64 0, .int .i64 0, .int .i64 0, .int .i64 0]) ?_ 5 _ rfl; refine bq ?_; refine blk_put (cs := #[.int .i64 0, .int .i64 0, .int .i64 0, .int .i64 0, .int .i64 0, .int .i64 0]) ?_ 4 _ rfl; refine bq ?_; refine blk_put (cs := #[.int .i64 0, .int .i64 0, .int .i64 0, .int .i64 0, .int .i64 0, .int .i64 0]) ?_ 3 _ rfl; refine bq ?_; refine blk_put (cs := #[.int .i64 0, .int .i64 0, .int .i64 0, .int .i64 0, .int .i64 0, .int .i64 0]) ?_ 2 _ rfl; refine bq ?_; refine blk_put (cs := #[.int .i64 0, .int .i64 0, .int .i64 0, .int .i64 0, .int .i64 0, .int .i64 0]) ?_ 1 _ rfl; refine bq ?_; refine blk_put (cs := #[.int .i64 0, .int .i64 0, .int .i64 0, .int .i64 0, .int .i64 0, .int .i64 0]) ?_ 0 _ rfl; exact bq BK660.out) Try.underlying24 rfl (by kernel_rfl)) rfl ?_
   exact ⟨zR, zB⟩
 ·rw [if_neg c2] at H
  have c2b0 : ((a0.size : Int) == 8) = false := beq_eq_false_iff_ne.mpr c2
  have c2b1 : ((a0.size : Int) != 8) = true := bne_iff_ne.mpr c2
  simp only [Option.some.injEq, Prod.mk.injEq] at H
  obtain ⟨rfl, rfl, rfl, rfl, rfl, rfl, rfl⟩ := H
  go_enter Try.func15, Try.ntmps15
  go_wp2_with (first | ((with_reducible refine gate_dst (N := 2) rfl ?_); refine be 2 #[.int .i64 0, .int .i64 0, .int .i64 0, .int .i64 0, .int .i64 0, .int .i64 0] 24 ?_; intro gb660 hg w34 hbox hb; have BK660 := Aside0.mk hbox; have GW660 := zW hg; replace HB := zS hb; have GE660 := GW660; clear hb hbox hg; obtain ⟨hcz35_0, hcz35_1, hcz35_2, hcz35_3, hcz35_4, hcz35_5, hfz35_0, hfz35_1, hfz35_2, hfz35_3, hfz35_4, hfz35_5⟩ := zc6 BK660))
  refine bodyPost_ret (results_ct rfl _ _ gb660 24 #[.int .i64 0, .int .i64 0, .int .i64 0, .int .i64 0, .int .i64 0, .int .i64 0] (0, 0) _ rfl (by refine bq ?_; refine blk_put (cs := #[.int .i64 0, .int .i64 0, .int .i64 0, .int .i64 0, .int .i64 0, .int .i64 0]) ?_ 5 _ rfl; refine bq ?_; refine blk_put (cs := #[.int .i64 0, .int .i64 0, .int .i64 0, .int .i64 0, .int .i64 0, .int .i64 0]) ?_ 4 _ rfl; refine bq ?_; refine blk_put (cs := #[.int .i64 0, .int .i64 0, .int .i64 0, .int .i64 0, .int .i64 0, .int .i64 0]) ?_ 3 _ rfl; refine bq ?_; refine blk_put (cs := #[.int .i64 0, .int .i64 0, .int .i64 0, .int .i64 0, .int .i64 0, .int .i64 0]) ?_ 2 _ rfl; refine bq ?_; refine blk_put (cs := #[.int .i64 0, .int .i64 0, .int .i64 0, .int .i64 0, .int .i64 0, .int .i64 0]) ?_ 1 _ rfl; refine bq ?_; refine blk_put (cs := #[.int .i64 0, .int .i64 0, .int .i64 0, .int .i64 0, .int .i64 0, .int .i64 0]) ?_ 0 _ rfl; exact bq BK660.out) Try.underlying24 rfl (by kernel_rfl)) rfl ?_
  exact ⟨zR, zB⟩
def laws_FnInsGet.j0 : Nat → ByteArray → Bool → Bool → Bool → Int → Int → Int → Int → Int → Int → Int → Int → Int → Int → Int → Int → Option (Bool)
 | 0, _, _, _, _, _, _, _, _, _, _, _, _, _, _, _, _ => none
 | k + 1, x3, x5, x7, x36, x679000, x679001, x679002, x679003, x679004, x679005, x687000, x687001, x687002, x687003, x687004, x687005 => if x36 = true then (if (x5 == x7) = true then (some (x679000 == x687000 && (x679001 == x687001 && (x679002 == x687002 && (x679003 == x687003 && (x679004 == x687004 && (x679005 == x687005))))))) else (none)) else (if x3.size + 1 ≤ 9223372036854775807 then ((impl_InsGet.f k (x3 ++ (⟨#[0]⟩ : ByteArray))).bind fun bt687 => ((impl_InsPut.f k x679000 x679001 x679002 x679003 x679004 x679005).bind fun t695 => (if t695.toList = x3.toList then ((impl_InsOk.f x679000 x679001 x679002 x679003 x679004 x679005).bind fun t696 => (if t696 = true then (some (!bt687.2.2.2.2.2.2)) else (none))) else (none)))) else (none))
def laws_FnInsGet.f (k : Nat) (l0 : List Int) : Option (Bool) := if (l0.length : Int) > 1048576 then (some true) else ((spec_DrawInsGet.f k l0).bind fun t670 => ((impl_InsGet.f k t670).bind fun bt671 => ((spec_InsGet.f t670).bind fun bt679 => (if (bt671.2.2.2.2.2.2 != bt679.2.2.2.2.2.2) = true then (laws_FnInsGet.j0 k t670 bt671.2.2.2.2.2.2 bt679.2.2.2.2.2.2 true bt671.1 bt671.2.1 bt671.2.2.1 bt671.2.2.2.1 bt671.2.2.2.2.1 bt671.2.2.2.2.2.1 bt679.1 bt679.2.1 bt679.2.2.1 bt679.2.2.2.1 bt679.2.2.2.2.1 bt679.2.2.2.2.2.1) else (if (!(bt671.1 == bt679.1) || (!(bt671.2.1 == bt679.2.1) || (!(bt671.2.2.1 == bt679.2.2.1) || (!(bt671.2.2.2.1 == bt679.2.2.2.1) || (!(bt671.2.2.2.2.1 == bt679.2.2.2.2.1) || (!(bt671.2.2.2.2.2.1 == bt679.2.2.2.2.2.1))))))) = true then (laws_FnInsGet.j0 k t670 bt671.2.2.2.2.2.2 bt679.2.2.2.2.2.2 true bt671.1 bt671.2.1 bt671.2.2.1 bt671.2.2.2.1 bt671.2.2.2.2.1 bt671.2.2.2.2.2.1 bt679.1 bt679.2.1 bt679.2.2.1 bt679.2.2.2.1 bt679.2.2.2.2.1 bt679.2.2.2.2.2.1) else (laws_FnInsGet.j0 k t670 bt671.2.2.2.2.2.2 bt679.2.2.2.2.2.2 (!bt671.2.2.2.2.2.2) bt671.1 bt671.2.1 bt671.2.2.1 bt671.2.2.2.1 bt671.2.2.2.2.1 bt671.2.2.2.2.2.1 bt679.1 bt679.2.1 bt679.2.2.1 bt679.2.2.2.1 bt679.2.2.2.2.1 bt679.2.2.2.2.2.1))))))
set_option maxHeartbeats 8000000 in
set_option maxRecDepth 100000 in
theorem laws_FnInsGet.calls (k : Nat) (A0 : Option Addr) (c0 : Nat) (l0 : List Int) (r : Bool) (w : World) (hr0 : Kd.C (Kd.int .u8) w A0 l0.length l0) (hc0 : l0.length ≤ c0) (h : laws_FnInsGet.f k l0 = some r) :
  Calls Try.prog 4 #[.slice A0 l0.length c0] w fun e w' => e = .returned (.bool r) ∧ Below w.heap.size w w' := by
 have hu24 := Try.underlying24
 have HR0 := Aside0.mk hr0
 have HC0 := Aside0.mk hc0
 clear hr0 hc0
 have HB := Aside0.mk (Below.refl w.heap.size w)
 have H : (if (l0.length : Int) > 1048576 then (some true) else ((spec_DrawInsGet.f k l0).bind fun t670 => ((impl_InsGet.f k t670).bind fun bt671 => ((spec_InsGet.f t670).bind fun bt679 => (if (bt671.2.2.2.2.2.2 != bt679.2.2.2.2.2.2) = true then (laws_FnInsGet.j0 k t670 bt671.2.2.2.2.2.2 bt679.2.2.2.2.2.2 true bt671.1 bt671.2.1 bt671.2.2.1 bt671.2.2.2.1 bt671.2.2.2.2.1 bt671.2.2.2.2.2.1 bt679.1 bt679.2.1 bt679.2.2.1 bt679.2.2.2.1 bt679.2.2.2.2.1 bt679.2.2.2.2.2.1) else (if (!(bt671.1 == bt679.1) || (!(bt671.2.1 == bt679.2.1) || (!(bt671.2.2.1 == bt679.2.2.1) || (!(bt671.2.2.2.1 == bt679.2.2.2.1) || (!(bt671.2.2.2.2.1 == bt679.2.2.2.2.1) || (!(bt671.2.2.2.2.2.1 == bt679.2.2.2.2.2.1))))))) = true then (laws_FnInsGet.j0 k t670 bt671.2.2.2.2.2.2 bt679.2.2.2.2.2.2 true bt671.1 bt671.2.1 bt671.2.2.1 bt671.2.2.2.1 bt671.2.2.2.2.1 bt671.2.2.2.2.2.1 bt679.1 bt679.2.1 bt679.2.2.1 bt679.2.2.2.1 bt679.2.2.2.2.1 bt679.2.2.2.2.2.1) else (laws_FnInsGet.j0 k t670 bt671.2.2.2.2.2.2 bt679.2.2.2.2.2.2 (!bt671.2.2.2.2.2.2) bt671.1 bt671.2.1 bt671.2.2.1 bt671.2.2.2.1 bt671.2.2.2.2.1 bt671.2.2.2.2.2.1 bt679.1 bt679.2.1 bt679.2.2.1 bt679.2.2.2.1 bt679.2.2.2.2.1 bt679.2.2.2.2.2.1))))))) = some r := h
 clear h
 by_cases c2 : (l0.length : Int) > 1048576
 ·rw [if_pos c2] at H
  have c2b0 : decide (1048576 < (l0.length : Int)) = true := decide_eq_true c2
  have c2b1 : decide (1048576 < l0.length) = true := decide_eq_true (by omega)
  clear c2
  obtain rfl := Option.some.inj H
  go_enter Try.func4, Try.ntmps4
  go_wp2
  go_ret
  exact ⟨zR, zB⟩
 ·rw [if_neg c2] at H
  have c2b0 : decide (1048576 < (l0.length : Int)) = false := decide_eq_false c2
  have c2b1 : decide (1048576 < l0.length) = false := decide_eq_false (by omega)
  clear c2
  replace H := Option.bind_eq_some_iff.mp H
  obtain ⟨t670, A30, H⟩ := H
  try dsimp only at H
  have A3 := Aside0.mk A30
  clear A30
  replace H := Option.bind_eq_some_iff.mp H
  obtain ⟨⟨t671, t672, t673, t674, t675, t676, t677⟩, A40, H⟩ := H
  try dsimp only at H
  have A4 := Aside0.mk A40
  clear A40
  replace H := Option.bind_eq_some_iff.mp H
  obtain ⟨⟨t679, t680, t681, t682, t683, t684, t685⟩, A50, H⟩ := H
  try dsimp only at H
  have A5 := Aside0.mk A50
  clear A50
  have HC6 := Aside0.mk H
  clear H
  go_enter Try.func4, Try.ntmps4
  go_upto_region 6 with (first | ((with_reducible refine gate_callee (f := 14) rfl ?_); refine gl 14 Try.func14 #[.slice A0 l0.length c0] ?_; (with_reducible refine (spec_DrawInsGet.calls k _ _ l0 t670 _ ?side1 ?side2 A3.out).mono ?_); (case side1 => repeat (first | exact HR0.out | (with_reducible refine Kd.C_alloc ?_ _) | (with_reducible refine Kd.C_drewN ?_ _) | (with_reducible refine Kd.C_drew ?_))); (case side2 => exact HC0.out); rintro e w7 ⟨rfl, hb⟩; refine ⟨_, rfl, ?_⟩; replace HB := zS hb; try clear hb) | ((with_reducible refine gate_callee (f := 13) rfl ?_); refine gl 17 Try.func13 #[.string t670] ?_; (with_reducible refine (impl_InsGet.calls k t670 t671 t672 t673 t674 t675 t676 t677 _ A4.out).mono ?_); rintro e w8 ⟨rfl, hb⟩; refine ⟨_, rfl, ?_⟩; replace HB := zS hb; try clear hb) | ((with_reducible refine gate_dst (N := 4) rfl ?_); refine be 4 #[.int .i64 0, .int .i64 0, .int .i64 0, .int .i64 0, .int .i64 0, .int .i64 0] 24 ?_; intro gb678 hg w9 hbox hb; have BK678 := Aside0.mk hbox; have GW678 := zW hg; replace HB := zS hb; have GE678 := GW678; clear hb hbox hg; obtain ⟨hcz10_0, hcz10_1, hcz10_2, hcz10_3, hcz10_4, hcz10_5, hfz10_0, hfz10_1, hfz10_2, hfz10_3, hfz10_4, hfz10_5⟩ := zc6 BK678) | ((with_reducible refine gate_callee (f := 15) rfl ?_); refine gl 22 Try.func15 #[.string t670] ?_; (with_reducible refine (spec_InsGet.calls t670 t679 t680 t681 t682 t683 t684 t685 _ A5.out).mono ?_); rintro e w11 ⟨rfl, hb⟩; refine ⟨_, rfl, ?_⟩; replace BK678 := Aside0.mk (blk_below (g := gb678) (o := .cells #[.int .i64 t671, .int .i64 t672, .int .i64 t673, .int .i64 t674, .int .i64 t675, .int .i64 t676] 24 (0, 0)) (by refine bq ?_; refine blk_put (cs := #[.int .i64 t671, .int .i64 t672, .int .i64 t673, .int .i64 t674, .int .i64 t675, .int .i64 0]) ?_ 5 _ rfl; refine bq ?_; refine blk_put (cs := #[.int .i64 t671, .int .i64 t672, .int .i64 t673, .int .i64 t674, .int .i64 0, .int .i64 0]) ?_ 4 _ rfl; refine bq ?_; refine blk_put (cs := #[.int .i64 t671, .int .i64 t672, .int .i64 t673, .int .i64 0, .int .i64 0, .int .i64 0]) ?_ 3 _ rfl; refine bq ?_; refine blk_put (cs := #[.int .i64 t671, .int .i64 t672, .int .i64 0, .int .i64 0, .int .i64 0, .int .i64 0]) ?_ 2 _ rfl; refine bq ?_; refine blk_put (cs := #[.int .i64 t671, .int .i64 0, .int .i64 0, .int .i64 0, .int .i64 0, .int .i64 0]) ?_ 1 _ rfl; refine bq ?_; refine blk_put (cs := #[.int .i64 0, .int .i64 0, .int .i64 0, .int .i64 0, .int .i64 0, .int .i64 0]) ?_ 0 _ rfl; exact bq BK678.out) hb); replace HB := zS hb; try clear hb) | ((with_reducible refine gate_dst (N := 6) rfl ?_); refine be 6 #[.int .i64 0, .int .i64 0, .int .i64 0, .int .i64 0, .int .i64 0, .int .i64 0] 24 ?_; intro gb686 hg w12 hbox hb; have BK686 := Aside0.mk hbox; have GW686 := zW hg; replace HB := zS hb; have GE686 := GW686; have NB678_686 := zl BK678 hg rfl; have NB686_678 := zg BK678 hg rfl; replace BK678 := zb BK678 hb rfl; clear hb hbox hg; have hnb13 := NB686_678.out; have hnc13 := NB678_686.out; obtain ⟨hcz14_0, hcz14_1, hcz14_2, hcz14_3, hcz14_4, hcz14_5, hfz14_0, hfz14_1, hfz14_2, hfz14_3, hfz14_4, hfz14_5⟩ := zc6 BK686))
  (try simp only [Act.put, List.setIfInBounds_toArray, List.set_cons_zero, List.set_cons_succ])
  go_cut [36] (fun v36 wc => ∃ (kq : Nat) (x36_5 : Bool), v36 = .bool x36_5 ∧ Aside0 (laws_FnInsGet.j0 kq t670 t677 t685 x36_5 t671 t672 t673 t674 t675 t676 t679 t680 t681 t682 t683 t684 = some r) ∧ Aside0 (kq ≤ k) ∧ Aside0 (wc.heap[gb678]? = some (.cells #[.int .i64 t671, .int .i64 t672, .int .i64 t673, .int .i64 t674, .int .i64 t675, .int .i64 t676] 24 (0, 0))) ∧ Aside0 (wc.heap[gb686]? = some (.cells #[.int .i64 t679, .int .i64 t680, .int .i64 t681, .int .i64 t682, .int .i64 t683, .int .i64 t684] 24 (0, 0))) ∧ Aside0 (Below w.heap.size w wc))
  case first =>
   have H := HC6.out
   clear HC6
   by_cases c15 : (t677 != t685) = true
   ·rw [if_pos c15] at H
    have c15b0 : (t677 != t685) = true := c15
    (try (have c15b1 : decide (t677 = t685) = false := by simpa using c15))
    (try (have c15b2 : (t677 == t685) = false := by simpa using c15))
    (try (have c15b3 : ¬ (t677 = t685) := by simpa using c15))
    clear c15
    (first | rw [c15b0] | (simp only [i64_w, i32_w]; rw [c15b0]) | skip)
    have H' := Aside0.mk H
    clear H
    go_wp2
    go_meet
    case rel => exact ⟨_, (true), (by first | rfl | (simp; done) | (simp [*]; done)), H', ⟨by first | omega | exact Nat.le_refl _⟩, ⟨by refine fq ?_ NB678_686.out; refine fq ?_ NB678_686.out; refine fq ?_ NB678_686.out; refine fq ?_ NB678_686.out; refine fq ?_ NB678_686.out; refine fq ?_ NB678_686.out; exact bq BK678.out⟩, ⟨by refine bq ?_; refine blk_put (cs := #[.int .i64 t679, .int .i64 t680, .int .i64 t681, .int .i64 t682, .int .i64 t683, .int .i64 0]) ?_ 5 _ rfl; refine bq ?_; refine blk_put (cs := #[.int .i64 t679, .int .i64 t680, .int .i64 t681, .int .i64 t682, .int .i64 0, .int .i64 0]) ?_ 4 _ rfl; refine bq ?_; refine blk_put (cs := #[.int .i64 t679, .int .i64 t680, .int .i64 t681, .int .i64 0, .int .i64 0, .int .i64 0]) ?_ 3 _ rfl; refine bq ?_; refine blk_put (cs := #[.int .i64 t679, .int .i64 t680, .int .i64 0, .int .i64 0, .int .i64 0, .int .i64 0]) ?_ 2 _ rfl; refine bq ?_; refine blk_put (cs := #[.int .i64 t679, .int .i64 0, .int .i64 0, .int .i64 0, .int .i64 0, .int .i64 0]) ?_ 1 _ rfl; refine bq ?_; refine blk_put (cs := #[.int .i64 0, .int .i64 0, .int .i64 0, .int .i64 0, .int .i64 0, .int .i64 0]) ?_ 0 _ rfl; exact bq BK686.out⟩, ⟨zB⟩⟩
   ·rw [if_neg c15] at H
    have c15b0 : (t677 != t685) = false := by simpa using c15
    (try (have c15b1 : decide (t677 = t685) = true := by simpa using c15))
    (try (have c15b2 : (t677 == t685) = true := by simpa using c15))
    clear c15
    (first | rw [c15b0] | (simp only [i64_w, i32_w]; rw [c15b0]) | skip)
    by_cases c16 : (!(t671 == t679) || (!(t672 == t680) || (!(t673 == t681) || (!(t674 == t682) || (!(t675 == t683) || (!(t676 == t684))))))) = true
    ·rw [if_pos c16] at H
     have c16b0 : (!(t671 == t679) || (!(t672 == t680) || (!(t673 == t681) || (!(t674 == t682) || (!(t675 == t683) || (!(t676 == t684))))))) = true := c16
     clear c16
     have H' := Aside0.mk H
     clear H
     have hnb17 := NB678_686.out
     have hnc17 := NB686_678.out
     obtain ⟨hcz18_0, hcz18_1, hcz18_2, hcz18_3, hcz18_4, hcz18_5, hfz18_0, hfz18_1, hfz18_2, hfz18_3, hfz18_4, hfz18_5⟩ := zc6 BK678
     obtain ⟨hcz19_0, hcz19_1, hcz19_2, hcz19_3, hcz19_4, hcz19_5, hfz19_0, hfz19_1, hfz19_2, hfz19_3, hfz19_4, hfz19_5⟩ := zc6 BK686
     go_wp2
     go_meet
     case rel => exact ⟨_, (true), (by first | rfl | (simp; done) | (simp [*]; done)), H', ⟨by first | omega | exact Nat.le_refl _⟩, ⟨by refine fq ?_ NB678_686.out; refine fq ?_ NB678_686.out; refine fq ?_ NB678_686.out; refine fq ?_ NB678_686.out; refine fq ?_ NB678_686.out; refine fq ?_ NB678_686.out; exact bq BK678.out⟩, ⟨by refine bq ?_; refine blk_put (cs := #[.int .i64 t679, .int .i64 t680, .int .i64 t681, .int .i64 t682, .int .i64 t683, .int .i64 0]) ?_ 5 _ rfl; refine bq ?_; refine blk_put (cs := #[.int .i64 t679, .int .i64 t680, .int .i64 t681, .int .i64 t682, .int .i64 0, .int .i64 0]) ?_ 4 _ rfl; refine bq ?_; refine blk_put (cs := #[.int .i64 t679, .int .i64 t680, .int .i64 t681, .int .i64 0, .int .i64 0, .int .i64 0]) ?_ 3 _ rfl; refine bq ?_; refine blk_put (cs := #[.int .i64 t679, .int .i64 t680, .int .i64 0, .int .i64 0, .int .i64 0, .int .i64 0]) ?_ 2 _ rfl; refine bq ?_; refine blk_put (cs := #[.int .i64 t679, .int .i64 0, .int .i64 0, .int .i64 0, .int .i64 0, .int .i64 0]) ?_ 1 _ rfl; refine bq ?_; refine blk_put (cs := #[.int .i64 0, .int .i64 0, .int .i64 0, .int .i64 0, .int .i64 0, .int .i64 0]) ?_ 0 _ rfl; exact bq BK686.out⟩, ⟨zB⟩⟩
    ·rw [if_neg c16] at H
     have c16b0 : (!(t671 == t679) || (!(t672 == t680) || (!(t673 == t681) || (!(t674 == t682) || (!(t675 == t683) || (!(t676 == t684))))))) = false := by simpa using c16
     clear c16
     have H' := Aside0.mk H
     clear H
     have hnb20 := NB678_686.out
     have hnc20 := NB686_678.out
     obtain ⟨hcz21_0, hcz21_1, hcz21_2, hcz21_3, hcz21_4, hcz21_5, hfz21_0, hfz21_1, hfz21_2, hfz21_3, hfz21_4, hfz21_5⟩ := zc6 BK678
     obtain ⟨hcz22_0, hcz22_1, hcz22_2, hcz22_3, hcz22_4, hcz22_5, hfz22_0, hfz22_1, hfz22_2, hfz22_3, hfz22_4, hfz22_5⟩ := zc6 BK686
     go_wp2
     go_meet
     case rel => exact ⟨_, (!t677), (by first | rfl | (simp; done) | (simp [*]; done)), H', ⟨by first | omega | exact Nat.le_refl _⟩, ⟨by refine fq ?_ NB678_686.out; refine fq ?_ NB678_686.out; refine fq ?_ NB678_686.out; refine fq ?_ NB678_686.out; refine fq ?_ NB678_686.out; refine fq ?_ NB678_686.out; exact bq BK678.out⟩, ⟨by refine bq ?_; refine blk_put (cs := #[.int .i64 t679, .int .i64 t680, .int .i64 t681, .int .i64 t682, .int .i64 t683, .int .i64 0]) ?_ 5 _ rfl; refine bq ?_; refine blk_put (cs := #[.int .i64 t679, .int .i64 t680, .int .i64 t681, .int .i64 t682, .int .i64 0, .int .i64 0]) ?_ 4 _ rfl; refine bq ?_; refine blk_put (cs := #[.int .i64 t679, .int .i64 t680, .int .i64 t681, .int .i64 0, .int .i64 0, .int .i64 0]) ?_ 3 _ rfl; refine bq ?_; refine blk_put (cs := #[.int .i64 t679, .int .i64 t680, .int .i64 0, .int .i64 0, .int .i64 0, .int .i64 0]) ?_ 2 _ rfl; refine bq ?_; refine blk_put (cs := #[.int .i64 t679, .int .i64 0, .int .i64 0, .int .i64 0, .int .i64 0, .int .i64 0]) ?_ 1 _ rfl; refine bq ?_; refine blk_put (cs := #[.int .i64 0, .int .i64 0, .int .i64 0, .int .i64 0, .int .i64 0, .int .i64 0]) ?_ 0 _ rfl; exact bq BK686.out⟩, ⟨zB⟩⟩
  case rest =>
   clear HC6
   try clear c1
   try clear c2
   try clear c2b0
   try clear c2b1
   try clear p2
   try clear c4
   try clear c13
   try clear c14
   try clear c15
   try clear c15b0
   try clear c15b1
   try clear c15b2
   try clear c16
   try clear c16b0
   try clear c17
   try clear c20
   try clear hcz10_0 hcz10_1 hcz10_2 hcz10_3 hcz10_4 hcz10_5 hfz10_0 hfz10_1 hfz10_2 hfz10_3 hfz10_4 hfz10_5
   try clear hcz14_0 hcz14_1 hcz14_2 hcz14_3 hcz14_4 hcz14_5 hfz14_0 hfz14_1 hfz14_2 hfz14_3 hfz14_4 hfz14_5
   try clear hcz18_0 hcz18_1 hcz18_2 hcz18_3 hcz18_4 hcz18_5 hfz18_0 hfz18_1 hfz18_2 hfz18_3 hfz18_4 hfz18_5
   try clear hcz19_0 hcz19_1 hcz19_2 hcz19_3 hcz19_4 hcz19_5 hfz19_0 hfz19_1 hfz19_2 hfz19_3 hfz19_4 hfz19_5
   try clear hcz21_0 hcz21_1 hcz21_2 hcz21_3 hcz21_4 hcz21_5 hfz21_0 hfz21_1 hfz21_2 hfz21_3 hfz21_4 hfz21_5
   try clear hcz22_0 hcz22_1 hcz22_2 hcz22_3 hcz22_4 hcz22_5 hfz22_0 hfz22_1 hfz22_2 hfz22_3 hfz22_4 hfz22_5
   obtain ⟨kq, x36_5, rfl, HA, HJ5, BK678, BK686, HB⟩ := hcut
   cases kq with
   | zero => exact absurd HA.out (by simp [laws_FnInsGet.j0])
   | succ kj5 =>
    have H := HA.out
    clear HA
    simp only [laws_FnInsGet.j0] at H
    by_cases c23 : x36_5 = true
    ·subst c23
     rw [if_pos rfl] at H
     by_cases c24 : (t677 == t685) = true
     ·rw [if_pos c24] at H
      have c24b0 : (t677 == t685) = true := c24
      (try (have c24b1 : decide (t677 = t685) = true := by simpa using c24))
      (try (have c24b2 : (t677 == t685) = true := by simpa using c24))
      clear c24
      obtain rfl := Option.some.inj H
      have hnb25 := NB678_686.out
      have hnc25 := NB686_678.out
      obtain ⟨hcz26_0, hcz26_1, hcz26_2, hcz26_3, hcz26_4, hcz26_5, hfz26_0, hfz26_1, hfz26_2, hfz26_3, hfz26_4, hfz26_5⟩ := zc6 BK678
      obtain ⟨hcz27_0, hcz27_1, hcz27_2, hcz27_3, hcz27_4, hcz27_5, hfz27_0, hfz27_1, hfz27_2, hfz27_3, hfz27_4, hfz27_5⟩ := zc6 BK686
      go_wp2
      go_ret
      exact ⟨zR, zB⟩
     ·rw [if_neg c24] at H
      exact absurd H (by simp)
    ·replace c23 := Bool.eq_false_iff.mpr c23
     subst c23
     rw [if_neg (show ¬ (false = true) by decide)] at H
     by_cases c28 : t670.size + 1 ≤ 9223372036854775807
     ·rw [if_pos c28] at H
      have c28b0 := eq_true c28
      have c28b1 : decide (t670.size + 1 ≤ 9223372036854775807) = true := decide_eq_true c28
      try have c28b2 : (9223372036854775807 < t670.size + 1) = False := eq_false (Nat.not_lt.2 c28)
      replace H := Option.bind_eq_some_iff.mp H
      obtain ⟨⟨t687, t688, t689, t690, t691, t692, t693⟩, A290, H⟩ := H
      try dsimp only at H
      have A29 := Aside0.mk A290
      clear A290
      replace H := Option.bind_eq_some_iff.mp H
      obtain ⟨t695, A300, H⟩ := H
      try dsimp only at H
      have A30 := Aside0.mk A300
      clear A300
      by_cases c31 : t695.toList = t670.toList
      ·rw [if_pos c31] at H
       have c31b0 : (t695.toList == t670.toList) = true := beq_iff_eq.mpr c31
       have c31b1 : (t695.toList != t670.toList) = false := bne_eq_false_iff_eq.mpr c31
       clear c31
       replace H := Option.bind_eq_some_iff.mp H
       obtain ⟨t696, A320, H⟩ := H
       try dsimp only at H
       have A32 := Aside0.mk A320
       clear A320
       by_cases c33 : t696 = true
       ·subst c33
        rw [if_pos rfl] at H
        obtain rfl := Option.some.inj H
        go_wp2_with (first | ((with_reducible refine gate_callee (f := 13) rfl ?_); refine gl 48 Try.func13 #[.string (t670 ++ (⟨#[0]⟩ : ByteArray))] ?_; (with_reducible refine (impl_InsGet.calls kj5 (t670 ++ (⟨#[0]⟩ : ByteArray)) t687 t688 t689 t690 t691 t692 t693 _ A29.out).mono ?_); rintro e w34 ⟨rfl, hb⟩; refine ⟨_, rfl, ?_⟩; replace BK678 := zb BK678 hb rfl; replace BK686 := zb BK686 hb rfl; replace HB := zS hb; try clear hb) | ((with_reducible refine gate_dst (N := 8) rfl ?_); refine be 8 #[.int .i64 0, .int .i64 0, .int .i64 0, .int .i64 0, .int .i64 0, .int .i64 0] 24 ?_; intro gb694 hg w35 hbox hb; have BK694 := Aside0.mk hbox; have GW694 := zW hg; replace HB := zS hb; have GE694 := GW694; have NB678_694 := zl BK678 hg rfl; have NB694_678 := zg BK678 hg rfl; replace BK678 := zb BK678 hb rfl; have NB686_694 := zl BK686 hg rfl; have NB694_686 := zg BK686 hg rfl; replace BK686 := zb BK686 hb rfl; clear hb hbox hg; have hnb36 := NB694_678.out; have hnc36 := NB678_694.out; have hnb37 := NB694_686.out; have hnc37 := NB686_694.out; obtain ⟨hcz38_0, hcz38_1, hcz38_2, hcz38_3, hcz38_4, hcz38_5, hfz38_0, hfz38_1, hfz38_2, hfz38_3, hfz38_4, hfz38_5⟩ := zc6 BK694; have hnb39 := NB678_686.out; have hnc39 := NB686_678.out; obtain ⟨hcz40_0, hcz40_1, hcz40_2, hcz40_3, hcz40_4, hcz40_5, hfz40_0, hfz40_1, hfz40_2, hfz40_3, hfz40_4, hfz40_5⟩ := zc6 BK678) | ((with_reducible refine gate_callee (f := 9) rfl ?_); refine gl 52 Try.func9 #[.agg #[.int .i64 t671, .int .i64 t672, .int .i64 t673, .int .i64 t674, .int .i64 t675, .int .i64 t676]] ?_; (with_reducible refine (impl_InsPut.calls kj5 t671 t672 t673 t674 t675 t676 t695 _ A30.out).mono ?_); rintro e w41 ⟨rfl, hb⟩; refine ⟨_, rfl, ?_⟩; replace BK678 := Aside0.mk (blk_below (g := gb678) (o := .cells #[.int .i64 t671, .int .i64 t672, .int .i64 t673, .int .i64 t674, .int .i64 t675, .int .i64 t676] 24 (0, 0)) (by refine fq ?_ NB678_694.out; refine fq ?_ NB678_694.out; refine fq ?_ NB678_694.out; refine fq ?_ NB678_694.out; refine fq ?_ NB678_694.out; refine fq ?_ NB678_694.out; exact bq BK678.out) hb); replace BK686 := Aside0.mk (blk_below (g := gb686) (o := .cells #[.int .i64 t679, .int .i64 t680, .int .i64 t681, .int .i64 t682, .int .i64 t683, .int .i64 t684] 24 (0, 0)) (by refine fq ?_ NB686_694.out; refine fq ?_ NB686_694.out; refine fq ?_ NB686_694.out; refine fq ?_ NB686_694.out; refine fq ?_ NB686_694.out; refine fq ?_ NB686_694.out; exact bq BK686.out) hb); replace BK694 := Aside0.mk (blk_below (g := gb694) (o := .cells #[.int .i64 t687, .int .i64 t688, .int .i64 t689, .int .i64 t690, .int .i64 t691, .int .i64 t692] 24 (0, 0)) (by refine bq ?_; refine blk_put (cs := #[.int .i64 t687, .int .i64 t688, .int .i64 t689, .int .i64 t690, .int .i64 t691, .int .i64 0]) ?_ 5 _ rfl; refine bq ?_; refine blk_put (cs := #[.int .i64 t687, .int .i64 t688, .int .i64 t689, .int .i64 t690, .int .i64 0, .int .i64 0]) ?_ 4 _ rfl; refine bq ?_; refine blk_put (cs := #[.int .i64 t687, .int .i64 t688, .int .i64 t689, .int .i64 0, .int .i64 0, .int .i64 0]) ?_ 3 _ rfl; refine bq ?_; refine blk_put (cs := #[.int .i64 t687, .int .i64 t688, .int .i64 0, .int .i64 0, .int .i64 0, .int .i64 0]) ?_ 2 _ rfl; refine bq ?_; refine blk_put (cs := #[.int .i64 t687, .int .i64 0, .int .i64 0, .int .i64 0, .int .i64 0, .int .i64 0]) ?_ 1 _ rfl; refine bq ?_; refine blk_put (cs := #[.int .i64 0, .int .i64 0, .int .i64 0, .int .i64 0, .int .i64 0, .int .i64 0]) ?_ 0 _ rfl; exact bq BK694.out) hb); replace HB := zS hb; try clear hb; obtain ⟨hcz42_0, hcz42_1, hcz42_2, hcz42_3, hcz42_4, hcz42_5, hfz42_0, hfz42_1, hfz42_2, hfz42_3, hfz42_4, hfz42_5⟩ := zc6 BK678) | (go_at_call 11; (with_reducible refine (impl_InsOk.calls t671 t672 t673 t674 t675 t676 true _ A32.out).mono ?_); rintro e w43 ⟨rfl, hb⟩; replace BK678 := zb BK678 hb rfl; replace BK686 := zb BK686 hb rfl; replace BK694 := zb BK694 hb rfl; replace HB := zS hb; try clear hb))
        go_ret
        exact ⟨zR, zB⟩
       ·replace c33 := Bool.eq_false_iff.mpr c33
        subst c33
        rw [if_neg (show ¬ (false = true) by decide)] at H
        exact absurd H (by simp)
      ·rw [if_neg c31] at H
       exact absurd H (by simp)
     ·rw [if_neg c28] at H
      exact absurd H (by simp)
/-- THE ONE PURE STATEMENT of laws_FnInsGet: yours. -/
def laws_FnInsGet.Pure : Prop := ∀ (l0 : List Int), l0.length ≤ maxLen → l0.length * 1 ≤ 140737488351232 → (∀ x ∈ l0, (Lit.int .u8 x).wf = true) → ∃ k, laws_FnInsGet.f k l0 = some true
theorem laws_FnInsGet.walk (P : laws_FnInsGet.Pure) (a0 : Option Addr) (len0 cap0 : Nat) (z0 : List Int) (w : World) (w0 : (a0 = none ∧ len0 = 0 ∧ cap0 = 0 ∧ z0 = []) ∨ ∃ x, a0 = some x ∧ len0 ≤ cap0 ∧ cap0 ≤ maxLen ∧ z0.length = cap0 ∧ (∀ i, i < z0.length → w.cell? (x.add i) = some (.int .u8 (z0.getD i 0))) ∧ ∀ n ∈ z0, (Lit.int .u8 n).wf = true) (y0 : len0 * 1 ≤ 140737488351232) :
  Calls Try.prog 4 #[.slice a0 len0 cap0] w fun e w' => e = .returned (.bool true) ∧ Below w.heap.size w w' := by
 obtain ⟨l0, rfl, hr0, hm0, hw0, hc0⟩ := ReadsInt.ofRowC w0
 obtain ⟨k, h⟩ := P l0 hm0 y0 hw0
 refine (laws_FnInsGet.calls k _ _ l0 true w (Kd.C_of_reads (d := (0 : Int)) (h1 := fun _ => rfl) hr0) hc0 h).mono ?_
 rintro e w' ⟨rfl, hd⟩
 exact ⟨rfl, hd⟩
end Go.Proofs.Ythhcdkmfpdpieaa.Q
