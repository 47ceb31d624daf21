/- The machine's side of this seat's laws: Go functions as Lean functions, and their contracts. By a program of this work over the kit's print. -/
import Derived.Test.YtdhijcfohbkpoaaQ0
import Derived.Test.YtdhijcfohbkpoaaQ2
import Derived.Test.YtdhijcfohbkpoaaQ12
namespace Go.Proofs.Ytdhijcfohbkpoaa.Q
open Go.RowKit Go.Proofs.YtdhijcfohbkpoaaW.PrintWords Go.Proofs.YtdhijcfohbkpoaaW.PrintLast Go.Proofs.YtdhijcfohbkpoaaW.PrintMore
attribute [local go_sem] max2_int min2_int max_two min_two max_three min_three max_four min_four Go.Proofs.YtdhijcfohbkpoaaN.not_i64 Go.Proofs.YtdhijcfohbkpoaaN.isSome_setCell   -- for this text's walks alone
set_option linter.unusedVariables false
set_option linter.unusedSimpArgs false

/-! ### spec_l2Ok: function 24 -/
def spec_l2Ok.f (a0_0 : Int) (a0_1 : Int) (a0_2 : Int) (a0_3 : Int) : Option (Bool) := (spec_l1In.f a0_0 0 a0_1).bind fun t396 => (if t396 = true then (if a0_1 ≤ 4294967295 then ((spec_l1In.f a0_2 0 4294967295).bind fun t397 => (if t397 = true then ((spec_l1In.f a0_3 0 4294967295).bind fun t398 => (if t398 = true then (some ((Go.bits .and .i64 a0_2 a0_3) == 0)) else (some false))) else (some false))) else (some false)) else (some false))
def spec_l2Ok.T1 : Bool × List (List Nat × List Nat) := (true, [([], []), ([0], [0]), ([], []), ([2], [2]), ([1, 3], [1, 3]), ([4, 4], [4]), ([5], [5]), ([6, 5], [5, 6]), ([5, 5], [5]), ([7, 8, 5], [5, 7, 8]), ([5, 9], [5, 9]), ([10, 8], [10]), ([11], [11]), ([12, 11], [11, 12]), ([11, 11], [11]), ([13, 14, 14, 11], [11, 13, 14]), ([11, 15], [11, 15]), ([16, 15], [16]), ([17], [17]), ([18, 17], [17, 18]), ([17, 17], [17]), ([19, 20, 20, 17], [17, 19, 20]), ([17, 21], [17, 21]), ([22, 21], [22]), ([23], [23]), ([24, 23], [23, 24]), ([23], [23]), ([26, 23], [23, 26]), ([25, 27, 23], [23, 25, 27]), ([28, 23], [23, 28]), ([23, 29], [23, 29]), ([30, 23, 0, 1, 2, 3, 4, 5, 6, 7, 8, 9, 10, 11, 12, 13, 14, 15, 16, 17, 18, 19, 20, 21, 22, 23, 24, 25, 26, 27, 28, 29, 30], [30])])
def spec_l2Ok.B1 : List Nat := [0, 1, 0, 4, 15, 31, 63, 127, 63, 511, 1023, 2047, 4095, 8191, 4095, 32767, 65535, 131071, 262143, 524287, 262143, 2097151, 4194303, 8388607, 16777215, 33554431, 16777215, 83886079, 268435455, 536870911, 1073741823, 2147483647]
theorem spec_l2Ok.tab1 : rtab .any (opsOf Try.f24 1) = spec_l2Ok.T1 := by kernel_rfl
theorem spec_l2Ok.bits1 : waitsOk spec_l2Ok.T1.2 spec_l2Ok.B1 = true := by kernel_rfl
set_option maxHeartbeats 8000000 in
set_option maxRecDepth 100000 in
theorem spec_l2Ok.calls (a0_0 : Int) (a0_1 : Int) (a0_2 : Int) (a0_3 : Int) (r : Bool) (w : World) (h : spec_l2Ok.f a0_0 a0_1 a0_2 a0_3 = some r) :
  Calls Try.prog 24 #[.agg #[.int .i64 a0_0, .int .i64 a0_1, .int .i64 a0_2, .int .i64 a0_3]] w fun e w' => e = .returned (.bool r) ∧ Below w.heap.size w w' := by
 have hu24 := Try.underlying24
 have HB := Aside0.mk (Below.refl w.heap.size w)
 have H : ((spec_l1In.f a0_0 0 a0_1).bind fun t396 => (if t396 = true then (if a0_1 ≤ 4294967295 then ((spec_l1In.f a0_2 0 4294967295).bind fun t397 => (if t397 = true then ((spec_l1In.f a0_3 0 4294967295).bind fun t398 => (if t398 = true then (some ((Go.bits .and .i64 a0_2 a0_3) == 0)) else (some false))) else (some false))) else (some false)) else (some false))) = some r := h
 clear h
 replace H := Option.bind_eq_some_iff.mp H
 obtain ⟨t396, A20, H⟩ := H
 try dsimp only at H
 have A2 := Aside0.mk A20
 clear A20
 by_cases c3 : t396 = true
 ·subst c3
  rw [if_pos rfl] at H
  have AC_spec_l2Top := Aside0.mk (show spec_l2Top.f = some 4294967295 from rfl)
  by_cases c4 : a0_1 ≤ 4294967295
  ·rw [if_pos c4] at H
   have c4b0 : decide (a0_1 ≤ 4294967295) = true := decide_eq_true c4
   clear c4
   have AC_spec_l2Top := Aside0.mk (show spec_l2Top.f = some 4294967295 from rfl)
   replace H := Option.bind_eq_some_iff.mp H
   obtain ⟨t397, A50, H⟩ := H
   try dsimp only at H
   have A5 := Aside0.mk A50
   clear A50
   by_cases c6 : t397 = true
   ·subst c6
    rw [if_pos rfl] at H
    have AC_spec_l2Top := Aside0.mk (show spec_l2Top.f = some 4294967295 from rfl)
    replace H := Option.bind_eq_some_iff.mp H
    obtain ⟨t398, A70, H⟩ := H
    try dsimp only at H
    have A7 := Aside0.mk A70
    clear A70
    by_cases c8 : t398 = true
    ·subst c8
     rw [if_pos rfl] at H
     obtain rfl := Option.some.inj H
     go_enter Try.func24, Try.ntmps24
     try go_wp2_with (first | ((with_reducible refine gate_dst (N := 1) rfl ?_); refine be 1 #[.int .i64 a0_0, .int .i64 a0_1, .int .i64 a0_2, .int .i64 a0_3] 24 ?_; intro gb395 hg w9 hbox hb; have BK395 := Aside0.mk hbox; have GW395 := zW hg; replace HB := zS hb; have GE395 := GW395; clear hb hbox hg))
     replace BK395 := Aside0.mk (blk_drew BK395.out)
     replace HB := Aside0.mk (below_drew1 HB.out)
     refine start_ (n := 32) (S := fun w' => w'.cell? ⟨gb395, 0, none⟩ = some (.int .i64 a0_0) ∧ w'.cell? ⟨gb395, 1, none⟩ = some (.int .i64 a0_1) ∧ w'.cell? ⟨gb395, 2, none⟩ = some (.int .i64 a0_2) ∧ w'.cell? ⟨gb395, 3, none⟩ = some (.int .i64 a0_3)) (ds := []) #[false, false, false, false, false, false, false, false, false, false, false, false, false, false, false, false, false, false, false, false, false, false, false, false, false, false, false, false, false, false, false, false] (by kernel_rfl) rfl rfl ⟨(blk_cell BK395.out 0).trans rfl, (blk_cell BK395.out 1).trans rfl, (blk_cell BK395.out 2).trans rfl, (blk_cell BK395.out 3).trans rfl⟩ (fun hHeld => ?_); refine with_tabW spec_l2Ok.tab1 spec_l2Ok.bits1 (fun HT_ HW_ => ?_)
     generalize w9.drew = w10 at BK395 HB hHeld ⊢
     refine pz 0 3 ?_
     refine pz 2 5 ?_
     refine tz 1 4 ?_
     refine tz 3 6 ?_
     refine oz 4 7 fun K hK => ?_
     refine gz Try.func48 #[.int .i64 a0_0, .int .i64 0, .int .i64 a0_1] ?_
     with_reducible refine (spec_l1In.calls a0_0 0 a0_1 true _ A2.out).mono ?_
     rintro e w' ⟨rfl, ⟨nd, rfl⟩⟩
     refine ⟨_, rfl, ?_⟩
     refine hK.out _ _ ⟨(blk_cell BK395.out 0).trans rfl, (blk_cell BK395.out 1).trans rfl, (blk_cell BK395.out 2).trans rfl, (blk_cell BK395.out 3).trans rfl⟩ (fun hHeld => ?_)
     clear hK K
     refine nz ?_
     refine pz 5 8 ?_
     refine pz 6 9 ?_
     refine tz 7 10 ?_
     refine oz 8 11 fun K hK => ?_
     refine gz Try.func39 #[] ?_
     with_reducible refine (spec_l2Top.calls  4294967295 _ AC_spec_l2Top.out).mono ?_
     rintro e w' ⟨rfl, ⟨nd, rfl⟩⟩
     refine ⟨_, rfl, ?_⟩
     refine hK.out _ _ ⟨(blk_cell BK395.out 0).trans rfl, (blk_cell BK395.out 1).trans rfl, (blk_cell BK395.out 2).trans rfl, (blk_cell BK395.out 3).trans rfl⟩ (fun hHeld => ?_)
     clear hK K
     refine nz ?_
     refine pz 9 12 ?_
     refine pz 10 13 ?_
     refine pz 11 14 ?_
     refine pz 12 15 ?_
     refine tz 13 16 ?_
     refine oz 14 17 fun K hK => ?_
     refine gz Try.func39 #[] ?_
     with_reducible refine (spec_l2Top.calls  4294967295 _ AC_spec_l2Top.out).mono ?_
     rintro e w' ⟨rfl, ⟨nd, rfl⟩⟩
     refine ⟨_, rfl, ?_⟩
     refine hK.out _ _ ⟨(blk_cell BK395.out 0).trans rfl, (blk_cell BK395.out 1).trans rfl, (blk_cell BK395.out 2).trans rfl, (blk_cell BK395.out 3).trans rfl⟩ (fun hHeld => ?_)
     clear hK K
     refine nz ?_
     refine oz 15 18 fun K hK => ?_
     refine gz Try.func48 #[.int .i64 a0_2, .int .i64 0, .int .i64 4294967295] ?_
     with_reducible refine (spec_l1In.calls a0_2 0 4294967295 true _ A5.out).mono ?_
     rintro e w' ⟨rfl, ⟨nd, rfl⟩⟩
     refine ⟨_, rfl, ?_⟩
     refine hK.out _ _ ⟨(blk_cell BK395.out 0).trans rfl, (blk_cell BK395.out 1).trans rfl, (blk_cell BK395.out 2).trans rfl, (blk_cell BK395.out 3).trans rfl⟩ (fun hHeld => ?_)
     clear hK K
     refine nz ?_
     refine pz 16 19 ?_
     refine pz 17 20 ?_
     refine pz 18 21 ?_
     refine tz 19 22 ?_
     refine oz 20 23 fun K hK => ?_
     refine gz Try.func39 #[] ?_
     with_reducible refine (spec_l2Top.calls  4294967295 _ AC_spec_l2Top.out).mono ?_
     rintro e w' ⟨rfl, ⟨nd, rfl⟩⟩
     refine ⟨_, rfl, ?_⟩
     refine hK.out _ _ ⟨(blk_cell BK395.out 0).trans rfl, (blk_cell BK395.out 1).trans rfl, (blk_cell BK395.out 2).trans rfl, (blk_cell BK395.out 3).trans rfl⟩ (fun hHeld => ?_)
     clear hK K
     refine nz ?_
     refine oz 21 24 fun K hK => ?_
     refine gz Try.func48 #[.int .i64 a0_3, .int .i64 0, .int .i64 4294967295] ?_
     with_reducible refine (spec_l1In.calls a0_3 0 4294967295 true _ A7.out).mono ?_
     rintro e w' ⟨rfl, ⟨nd, rfl⟩⟩
     refine ⟨_, rfl, ?_⟩
     refine hK.out _ _ ⟨(blk_cell BK395.out 0).trans rfl, (blk_cell BK395.out 1).trans rfl, (blk_cell BK395.out 2).trans rfl, (blk_cell BK395.out 3).trans rfl⟩ (fun hHeld => ?_)
     clear hK K
     refine nz ?_
     refine pz 22 25 ?_
     refine pz 23 26 ?_
     refine pz 24 27 ?_
     refine pz 26 29 ?_
     refine tz 25 28 ?_
     refine tz 27 30 ?_
     refine pz 28 31 ?_
     refine pz 29 32 ?_
     refine pz 30 33 ?_
     refine pz 31 2 ?_
     refine done_ (done_of HT_.out (by kernel_rfl)) ?_
     try go_wp2
     go_ret
     exact ⟨zR, zB⟩
    ·replace c8 := Bool.eq_false_iff.mpr c8
     subst c8
     rw [if_neg (show ¬ (false = true) by decide)] at H
     obtain rfl := Option.some.inj H
     go_enter Try.func24, Try.ntmps24
     try go_wp2_with (first | ((with_reducible refine gate_dst (N := 1) rfl ?_); refine be 1 #[.int .i64 a0_0, .int .i64 a0_1, .int .i64 a0_2, .int .i64 a0_3] 24 ?_; intro gb395 hg w11 hbox hb; have BK395 := Aside0.mk hbox; have GW395 := zW hg; replace HB := zS hb; have GE395 := GW395; clear hb hbox hg))
     replace BK395 := Aside0.mk (blk_drew BK395.out)
     replace HB := Aside0.mk (below_drew1 HB.out)
     refine start_ (n := 32) (S := fun w' => w'.cell? ⟨gb395, 0, none⟩ = some (.int .i64 a0_0) ∧ w'.cell? ⟨gb395, 1, none⟩ = some (.int .i64 a0_1) ∧ w'.cell? ⟨gb395, 2, none⟩ = some (.int .i64 a0_2) ∧ w'.cell? ⟨gb395, 3, none⟩ = some (.int .i64 a0_3)) (ds := []) #[false, false, false, false, false, false, false, false, false, false, false, false, false, false, false, false, false, false, false, false, false, false, false, false, false, false, false, false, false, false, false, false] (by kernel_rfl) rfl rfl ⟨(blk_cell BK395.out 0).trans rfl, (blk_cell BK395.out 1).trans rfl, (blk_cell BK395.out 2).trans rfl, (blk_cell BK395.out 3).trans rfl⟩ (fun hHeld => ?_); refine with_tabW spec_l2Ok.tab1 spec_l2Ok.bits1 (fun HT_ HW_ => ?_)
     generalize w11.drew = w12 at BK395 HB hHeld ⊢
     refine pz 0 3 ?_
     refine pz 2 5 ?_
     refine tz 1 4 ?_
     refine tz 3 6 ?_
     refine oz 4 7 fun K hK => ?_
     refine gz Try.func48 #[.int .i64 a0_0, .int .i64 0, .int .i64 a0_1] ?_
     with_reducible refine (spec_l1In.calls a0_0 0 a0_1 true _ A2.out).mono ?_
     rintro e w' ⟨rfl, ⟨nd, rfl⟩⟩
     refine ⟨_, rfl, ?_⟩
     refine hK.out _ _ ⟨(blk_cell BK395.out 0).trans rfl, (blk_cell BK395.out 1).trans rfl, (blk_cell BK395.out 2).trans rfl, (blk_cell BK395.out 3).trans rfl⟩ (fun hHeld => ?_)
     clear hK K
     refine nz ?_
     refine pz 5 8 ?_
     refine pz 6 9 ?_
     refine tz 7 10 ?_
     refine oz 8 11 fun K hK => ?_
     refine gz Try.func39 #[] ?_
     with_reducible refine (spec_l2Top.calls  4294967295 _ AC_spec_l2Top.out).mono ?_
     rintro e w' ⟨rfl, ⟨nd, rfl⟩⟩
     refine ⟨_, rfl, ?_⟩
     refine hK.out _ _ ⟨(blk_cell BK395.out 0).trans rfl, (blk_cell BK395.out 1).trans rfl, (blk_cell BK395.out 2).trans rfl, (blk_cell BK395.out 3).trans rfl⟩ (fun hHeld => ?_)
     clear hK K
     refine nz ?_
     refine pz 9 12 ?_
     refine pz 10 13 ?_
     refine pz 11 14 ?_
     refine pz 12 15 ?_
     refine tz 13 16 ?_
     refine oz 14 17 fun K hK => ?_
     refine gz Try.func39 #[] ?_
     with_reducible refine (spec_l2Top.calls  4294967295 _ AC_spec_l2Top.out).mono ?_
     rintro e w' ⟨rfl, ⟨nd, rfl⟩⟩
     refine ⟨_, rfl, ?_⟩
     refine hK.out _ _ ⟨(blk_cell BK395.out 0).trans rfl, (blk_cell BK395.out 1).trans rfl, (blk_cell BK395.out 2).trans rfl, (blk_cell BK395.out 3).trans rfl⟩ (fun hHeld => ?_)
     clear hK K
     refine nz ?_
     refine oz 15 18 fun K hK => ?_
     refine gz Try.func48 #[.int .i64 a0_2, .int .i64 0, .int .i64 4294967295] ?_
     with_reducible refine (spec_l1In.calls a0_2 0 4294967295 true _ A5.out).mono ?_
     rintro e w' ⟨rfl, ⟨nd, rfl⟩⟩
     refine ⟨_, rfl, ?_⟩
     refine hK.out _ _ ⟨(blk_cell BK395.out 0).trans rfl, (blk_cell BK395.out 1).trans rfl, (blk_cell BK395.out 2).trans rfl, (blk_cell BK395.out 3).trans rfl⟩ (fun hHeld => ?_)
     clear hK K
     refine nz ?_
     refine pz 16 19 ?_
     refine pz 17 20 ?_
     refine pz 18 21 ?_
     refine tz 19 22 ?_
     refine oz 20 23 fun K hK => ?_
     refine gz Try.func39 #[] ?_
     with_reducible refine (spec_l2Top.calls  4294967295 _ AC_spec_l2Top.out).mono ?_
     rintro e w' ⟨rfl, ⟨nd, rfl⟩⟩
     refine ⟨_, rfl, ?_⟩
     refine hK.out _ _ ⟨(blk_cell BK395.out 0).trans rfl, (blk_cell BK395.out 1).trans rfl, (blk_cell BK395.out 2).trans rfl, (blk_cell BK395.out 3).trans rfl⟩ (fun hHeld => ?_)
     clear hK K
     refine nz ?_
     refine oz 21 24 fun K hK => ?_
     refine gz Try.func48 #[.int .i64 a0_3, .int .i64 0, .int .i64 4294967295] ?_
     with_reducible refine (spec_l1In.calls a0_3 0 4294967295 false _ A7.out).mono ?_
     rintro e w' ⟨rfl, ⟨nd, rfl⟩⟩
     refine ⟨_, rfl, ?_⟩
     refine hK.out _ _ ⟨(blk_cell BK395.out 0).trans rfl, (blk_cell BK395.out 1).trans rfl, (blk_cell BK395.out 2).trans rfl, (blk_cell BK395.out 3).trans rfl⟩ (fun hHeld => ?_)
     clear hK K
     refine nz ?_
     refine pz 22 25 ?_
     refine pz 23 26 ?_
     refine uz 24 27 ?_
     refine uz 25 28 ?_
     refine uz 26 29 ?_
     refine uz 27 30 ?_
     refine uz 28 31 ?_
     refine uz 29 32 ?_
     refine pz 30 33 ?_
     refine pz 31 2 ?_
     refine done_ (done_of HT_.out (by kernel_rfl)) ?_
     try go_wp2
     go_ret
     exact ⟨zR, zB⟩
   ·replace c6 := Bool.eq_false_iff.mpr c6
    subst c6
    rw [if_neg (show ¬ (false = true) by decide)] at H
    obtain rfl := Option.some.inj H
    go_enter Try.func24, Try.ntmps24
    try go_wp2_with (first | ((with_reducible refine gate_dst (N := 1) rfl ?_); refine be 1 #[.int .i64 a0_0, .int .i64 a0_1, .int .i64 a0_2, .int .i64 a0_3] 24 ?_; intro gb395 hg w13 hbox hb; have BK395 := Aside0.mk hbox; have GW395 := zW hg; replace HB := zS hb; have GE395 := GW395; clear hb hbox hg))
    replace BK395 := Aside0.mk (blk_drew BK395.out)
    replace HB := Aside0.mk (below_drew1 HB.out)
    refine start_ (n := 32) (S := fun w' => w'.cell? ⟨gb395, 0, none⟩ = some (.int .i64 a0_0) ∧ w'.cell? ⟨gb395, 1, none⟩ = some (.int .i64 a0_1) ∧ w'.cell? ⟨gb395, 2, none⟩ = some (.int .i64 a0_2) ∧ w'.cell? ⟨gb395, 3, none⟩ = some (.int .i64 a0_3)) (ds := []) #[false, false, false, false, false, false, false, false, false, false, false, false, false, false, false, false, false, false, false, false, false, false, false, false, false, false, false, false, false, false, false, false] (by kernel_rfl) rfl rfl ⟨(blk_cell BK395.out 0).trans rfl, (blk_cell BK395.out 1).trans rfl, (blk_cell BK395.out 2).trans rfl, (blk_cell BK395.out 3).trans rfl⟩ (fun hHeld => ?_); refine with_tabW spec_l2Ok.tab1 spec_l2Ok.bits1 (fun HT_ HW_ => ?_)
    generalize w13.drew = w14 at BK395 HB hHeld ⊢
    refine pz 0 3 ?_
    refine pz 2 5 ?_
    refine tz 1 4 ?_
    refine tz 3 6 ?_
    refine oz 4 7 fun K hK => ?_
    refine gz Try.func48 #[.int .i64 a0_0, .int .i64 0, .int .i64 a0_1] ?_
    with_reducible refine (spec_l1In.calls a0_0 0 a0_1 true _ A2.out).mono ?_
    rintro e w' ⟨rfl, ⟨nd, rfl⟩⟩
    refine ⟨_, rfl, ?_⟩
    refine hK.out _ _ ⟨(blk_cell BK395.out 0).trans rfl, (blk_cell BK395.out 1).trans rfl, (blk_cell BK395.out 2).trans rfl, (blk_cell BK395.out 3).trans rfl⟩ (fun hHeld => ?_)
    clear hK K
    refine nz ?_
    refine pz 5 8 ?_
    refine pz 6 9 ?_
    refine tz 7 10 ?_
    refine oz 8 11 fun K hK => ?_
    refine gz Try.func39 #[] ?_
    with_reducible refine (spec_l2Top.calls  4294967295 _ AC_spec_l2Top.out).mono ?_
    rintro e w' ⟨rfl, ⟨nd, rfl⟩⟩
    refine ⟨_, rfl, ?_⟩
    refine hK.out _ _ ⟨(blk_cell BK395.out 0).trans rfl, (blk_cell BK395.out 1).trans rfl, (blk_cell BK395.out 2).trans rfl, (blk_cell BK395.out 3).trans rfl⟩ (fun hHeld => ?_)
    clear hK K
    refine nz ?_
    refine pz 9 12 ?_
    refine pz 10 13 ?_
    refine pz 11 14 ?_
    refine pz 12 15 ?_
    refine tz 13 16 ?_
    refine oz 14 17 fun K hK => ?_
    refine gz Try.func39 #[] ?_
    with_reducible refine (spec_l2Top.calls  4294967295 _ AC_spec_l2Top.out).mono ?_
    rintro e w' ⟨rfl, ⟨nd, rfl⟩⟩
    refine ⟨_, rfl, ?_⟩
    refine hK.out _ _ ⟨(blk_cell BK395.out 0).trans rfl, (blk_cell BK395.out 1).trans rfl, (blk_cell BK395.out 2).trans rfl, (blk_cell BK395.out 3).trans rfl⟩ (fun hHeld => ?_)
    clear hK K
    refine nz ?_
    refine oz 15 18 fun K hK => ?_
    refine gz Try.func48 #[.int .i64 a0_2, .int .i64 0, .int .i64 4294967295] ?_
    with_reducible refine (spec_l1In.calls a0_2 0 4294967295 false _ A5.out).mono ?_
    rintro e w' ⟨rfl, ⟨nd, rfl⟩⟩
    refine ⟨_, rfl, ?_⟩
    refine hK.out _ _ ⟨(blk_cell BK395.out 0).trans rfl, (blk_cell BK395.out 1).trans rfl, (blk_cell BK395.out 2).trans rfl, (blk_cell BK395.out 3).trans rfl⟩ (fun hHeld => ?_)
    clear hK K
    refine nz ?_
    refine pz 16 19 ?_
    refine pz 17 20 ?_
    refine uz 18 21 ?_
    refine uz 19 22 ?_
    refine uz 20 23 ?_
    refine uz 21 24 ?_
    refine pz 22 25 ?_
    refine pz 23 26 ?_
    refine uz 24 27 ?_
    refine uz 25 28 ?_
    refine uz 26 29 ?_
    refine uz 27 30 ?_
    refine uz 28 31 ?_
    refine uz 29 32 ?_
    refine pz 30 33 ?_
    refine pz 31 2 ?_
    refine done_ (done_of HT_.out (by kernel_rfl)) ?_
    try go_wp2
    go_ret
    exact ⟨zR, zB⟩
  ·rw [if_neg c4] at H
   have c4b0 : decide (a0_1 ≤ 4294967295) = false := decide_eq_false c4
   clear c4
   obtain rfl := Option.some.inj H
   go_enter Try.func24, Try.ntmps24
   try go_wp2_with (first | ((with_reducible refine gate_dst (N := 1) rfl ?_); refine be 1 #[.int .i64 a0_0, .int .i64 a0_1, .int .i64 a0_2, .int .i64 a0_3] 24 ?_; intro gb395 hg w15 hbox hb; have BK395 := Aside0.mk hbox; have GW395 := zW hg; replace HB := zS hb; have GE395 := GW395; clear hb hbox hg))
   replace BK395 := Aside0.mk (blk_drew BK395.out)
   replace HB := Aside0.mk (below_drew1 HB.out)
   refine start_ (n := 32) (S := fun w' => w'.cell? ⟨gb395, 0, none⟩ = some (.int .i64 a0_0) ∧ w'.cell? ⟨gb395, 1, none⟩ = some (.int .i64 a0_1) ∧ w'.cell? ⟨gb395, 2, none⟩ = some (.int .i64 a0_2) ∧ w'.cell? ⟨gb395, 3, none⟩ = some (.int .i64 a0_3)) (ds := []) #[false, false, false, false, false, false, false, false, false, false, false, false, false, false, false, false, false, false, false, false, false, false, false, false, false, false, false, false, false, false, false, false] (by kernel_rfl) rfl rfl ⟨(blk_cell BK395.out 0).trans rfl, (blk_cell BK395.out 1).trans rfl, (blk_cell BK395.out 2).trans rfl, (blk_cell BK395.out 3).trans rfl⟩ (fun hHeld => ?_); refine with_tabW spec_l2Ok.tab1 spec_l2Ok.bits1 (fun HT_ HW_ => ?_)
   generalize w15.drew = w16 at BK395 HB hHeld ⊢
   refine pz 0 3 ?_
   refine pz 2 5 ?_
   refine tz 1 4 ?_
   refine tz 3 6 ?_
   refine oz 4 7 fun K hK => ?_
   refine gz Try.func48 #[.int .i64 a0_0, .int .i64 0, .int .i64 a0_1] ?_
   with_reducible refine (spec_l1In.calls a0_0 0 a0_1 true _ A2.out).mono ?_
   rintro e w' ⟨rfl, ⟨nd, rfl⟩⟩
   refine ⟨_, rfl, ?_⟩
   refine hK.out _ _ ⟨(blk_cell BK395.out 0).trans rfl, (blk_cell BK395.out 1).trans rfl, (blk_cell BK395.out 2).trans rfl, (blk_cell BK395.out 3).trans rfl⟩ (fun hHeld => ?_)
   clear hK K
   refine nz ?_
   refine pz 5 8 ?_
   refine pz 6 9 ?_
   refine tz 7 10 ?_
   refine oz 8 11 fun K hK => ?_
   refine gz Try.func39 #[] ?_
   with_reducible refine (spec_l2Top.calls  4294967295 _ AC_spec_l2Top.out).mono ?_
   rintro e w' ⟨rfl, ⟨nd, rfl⟩⟩
   refine ⟨_, rfl, ?_⟩
   refine hK.out _ _ ⟨(blk_cell BK395.out 0).trans rfl, (blk_cell BK395.out 1).trans rfl, (blk_cell BK395.out 2).trans rfl, (blk_cell BK395.out 3).trans rfl⟩ (fun hHeld => ?_)
   clear hK K
   refine nz ?_
   refine pz 9 12 ?_
   refine pz 10 13 ?_
   refine pz 11 14 ?_
   refine uz 12 15 ?_
   refine uz 13 16 ?_
   refine uz 14 17 ?_
   refine uz 15 18 ?_
   refine pz 16 19 ?_
   refine pz 17 20 ?_
   refine uz 18 21 ?_
   refine uz 19 22 ?_
   refine uz 20 23 ?_
   refine uz 21 24 ?_
   refine pz 22 25 ?_
   refine pz 23 26 ?_
   refine uz 24 27 ?_
   refine uz 25 28 ?_
   refine uz 26 29 ?_
   refine uz 27 30 ?_
   refine uz 28 31 ?_
   refine uz 29 32 ?_
   refine pz 30 33 ?_
   refine pz 31 2 ?_
   refine done_ (done_of HT_.out (by kernel_rfl)) ?_
   try go_wp2
   go_ret
   exact ⟨zR, zB⟩
 ·replace c3 := Bool.eq_false_iff.mpr c3
  subst c3
  rw [if_neg (show ¬ (false = true) by decide)] at H
  obtain rfl := Option.some.inj H
  go_enter Try.func24, Try.ntmps24
  try go_wp2_with (first | ((with_reducible refine gate_dst (N := 1) rfl ?_); refine be 1 #[.int .i64 a0_0, .int .i64 a0_1, .int .i64 a0_2, .int .i64 a0_3] 24 ?_; intro gb395 hg w17 hbox hb; have BK395 := Aside0.mk hbox; have GW395 := zW hg; replace HB := zS hb; have GE395 := GW395; clear hb hbox hg))
  replace BK395 := Aside0.mk (blk_drew BK395.out)
  replace HB := Aside0.mk (below_drew1 HB.out)
  refine start_ (n := 32) (S := fun w' => w'.cell? ⟨gb395, 0, none⟩ = some (.int .i64 a0_0) ∧ w'.cell? ⟨gb395, 1, none⟩ = some (.int .i64 a0_1) ∧ w'.cell? ⟨gb395, 2, none⟩ = some (.int .i64 a0_2) ∧ w'.cell? ⟨gb395, 3, none⟩ = some (.int .i64 a0_3)) (ds := []) #[false, false, false, false, false, false, false, false, false, false, false, false, false, false, false, false, false, false, false, false, false, false, false, false, false, false, false, false, false, false, false, false] (by kernel_rfl) rfl rfl ⟨(blk_cell BK395.out 0).trans rfl, (blk_cell BK395.out 1).trans rfl, (blk_cell BK395.out 2).trans rfl, (blk_cell BK395.out 3).trans rfl⟩ (fun hHeld => ?_); refine with_tabW spec_l2Ok.tab1 spec_l2Ok.bits1 (fun HT_ HW_ => ?_)
  generalize w17.drew = w18 at BK395 HB hHeld ⊢
  refine pz 0 3 ?_
  refine pz 2 5 ?_
  refine tz 1 4 ?_
  refine tz 3 6 ?_
  refine oz 4 7 fun K hK => ?_
  refine gz Try.func48 #[.int .i64 a0_0, .int .i64 0, .int .i64 a0_1] ?_
  with_reducible refine (spec_l1In.calls a0_0 0 a0_1 false _ A2.out).mono ?_
  rintro e w' ⟨rfl, ⟨nd, rfl⟩⟩
  refine ⟨_, rfl, ?_⟩
  refine hK.out _ _ ⟨(blk_cell BK395.out 0).trans rfl, (blk_cell BK395.out 1).trans rfl, (blk_cell BK395.out 2).trans rfl, (blk_cell BK395.out 3).trans rfl⟩ (fun hHeld => ?_)
  clear hK K
  refine nz ?_
  refine pz 5 8 ?_
  refine uz 6 9 ?_
  refine uz 7 10 ?_
  refine uz 8 11 ?_
  refine uz 9 12 ?_
  refine pz 10 13 ?_
  refine pz 11 14 ?_
  refine uz 12 15 ?_
  refine uz 13 16 ?_
  refine uz 14 17 ?_
  refine uz 15 18 ?_
  refine pz 16 19 ?_
  refine pz 17 20 ?_
  refine uz 18 21 ?_
  refine uz 19 22 ?_
  refine uz 20 23 ?_
  refine uz 21 24 ?_
  refine pz 22 25 ?_
  refine pz 23 26 ?_
  refine uz 24 27 ?_
  refine uz 25 28 ?_
  refine uz 26 29 ?_
  refine uz 27 30 ?_
  refine uz 28 31 ?_
  refine uz 29 32 ?_
  refine pz 30 33 ?_
  refine pz 31 2 ?_
  refine done_ (done_of HT_.out (by kernel_rfl)) ?_
  try go_wp2
  go_ret
  exact ⟨zR, zB⟩

end Go.Proofs.Ytdhijcfohbkpoaa.Q
