/- The machine's side of this seat's laws: Go functions as Lean functions, and their contracts. By a program of this work over the kit's print. -/
import Derived.Test.YtllmbooicobmkaaGreatDoorQ0
import Derived.Test.YtllmbooicobmkaaGreatDoorQ1
import Derived.Test.YtllmbooicobmkaaGreatDoorQ13
namespace Go.Proofs.YtllmbooicobmkaaGreatDoor.Q
open Go.RowKit Go.Proofs.YtllmbooicobmkaaGreatDoorW.PrintWords Go.Proofs.YtllmbooicobmkaaGreatDoorW.PrintLast Go.Proofs.YtllmbooicobmkaaGreatDoorW.PrintMore
attribute [local go_sem] max2_int min2_int max_two min_two max_three min_three max_four min_four Go.Proofs.YtllmbooicobmkaaGreatDoorN.not_i64 Go.Proofs.YtllmbooicobmkaaGreatDoorN.isSome_setCell
set_option linter.unusedVariables false
set_option linter.unusedSimpArgs false
attribute [local go_sem high] eqA24
def impl_InsOk.f (a0_0 a0_1 : Int) (a0_2 a0_3 : Int) (a0_4 a0_5 : Int) : Option (Bool) := (impl_within.f a0_3 (-128) 127).bind fun t509 => ((impl_kind_reckons.f a0_0).bind fun t510 => (if t510 = true then ((impl_regOk.f a0_1).bind fun t511 => (if t511 = true then ((impl_Ins_either.f a0_0 a0_1 a0_2 a0_3 a0_4 a0_5).bind fun t512 => (if t512 = true then (if a0_3 = 0 then (some (a0_5 == 0)) else (some false)) else (some false))) else (some false))) else ((impl_kind_asks.f a0_0).bind fun t513 => (if t513 = true then ((impl_regOk.f a0_1).bind fun t514 => (if t514 = true then ((impl_Ins_either.f a0_0 a0_1 a0_2 a0_3 a0_4 a0_5).bind fun t515 => (if t515 = true then (if t509 = true then (some (a0_5 == 0)) else (some false)) else (some false))) else (some false))) else (if a0_0 = 16 then (if t509 = true then (some (a0_0 == 16 && (a0_1 == 0 && (a0_2 == (-1) && (a0_4 == 0 && (a0_5 == 0)))))) else (some false)) else (if a0_0 = 17 then ((impl_regOk.f a0_1).bind fun t516 => (if t516 = true then ((impl_regOk.f a0_2).bind fun t517 => (if t517 = true then (if a0_4 = 0 then (if t509 = true then ((impl_sizeOk.f a0_5).bind fun t518 => (some t518)) else (some false)) else (some false)) else (some false))) else (some false))) else (if a0_0 = 18 then ((impl_regOk.f a0_1).bind fun t519 => (if t519 = true then ((impl_Ins_either.f a0_0 a0_1 a0_2 a0_3 a0_4 a0_5).bind fun t520 => (if t520 = true then (if t509 = true then ((impl_sizeOk.f a0_5).bind fun t521 => (some t521)) else (some false)) else (some false))) else (some false))) else (if a0_0 = 19 then ((impl_within.f a0_4 1 6).bind fun t522 => (if t522 = true then (some (a0_0 == 19 && (a0_1 == 0 && (a0_2 == (-1) && (a0_3 == 0 && (a0_5 == 0)))))) else (some false))) else (some (a0_0 == 20 && (a0_1 == 0 && (a0_2 == (-1) && (a0_3 == 0 && (a0_4 == 0 && (a0_5 == 0)))))))))))))))
set_option maxHeartbeats 8000000 in
set_option maxRecDepth 100000 in
theorem impl_InsOk.calls (a0_0 a0_1 : Int) (a0_2 a0_3 : Int) (a0_4 a0_5 : Int) (r : Bool) (w : World) (h : impl_InsOk.f a0_0 a0_1 a0_2 a0_3 a0_4 a0_5 = some r) :
  Calls Tryz.prog 10 #[.agg #[.int .i64 a0_0, .int .i64 a0_1, .int .i64 a0_2, .int .i64 a0_3, .int .i64 a0_4, .int .i64 a0_5]] w fun e w' => e = .returned (.bool r) ∧ Below w.heap.size w w' := by
 have hu24 := Tryz.underlying24
 have HB := Aside0.mk (Below.refl w.heap.size w)
 have H := h
 clear h
 unfold impl_InsOk.f at H
 replace H := oA H
 obtain ⟨t509, A2, H⟩ := H
 try dsimp only at H
 replace H := oA H
 obtain ⟨t510, A3, H⟩ := H
 try dsimp only at H
 by_cases c4 : t510 = true
 ·subst c4
  rw [if_pos rfl] at H
  replace H := oA H
  obtain ⟨t511, A5, H⟩ := H
  try dsimp only at H
  by_cases c6 : t511 = true
  ·subst c6
   rw [if_pos rfl] at H
   replace H := oA H
   obtain ⟨t512, A7, H⟩ := H
   try dsimp only at H
   by_cases c8 : t512 = true
   ·subst c8
    rw [if_pos rfl] at H
    by_cases c9 : a0_3 = 0
    ·rw [if_pos c9] at H
     have c9b0 : (a0_3 == 0) = true := beq_iff_eq.mpr c9
     have c9b1 : (a0_3 != 0) = false := bne_eq_false_iff_eq.mpr c9
     clear c9
     obtain rfl := Option.some.inj H
     go_enter Tryz.func10, Tryz.ntmps10
     go_wp2_with (first | ((with_reducible refine gate_dst (N := 1) rfl ?_); refine be 1 #[.int .i64 a0_0, .int .i64 a0_1, .int .i64 a0_2, .int .i64 a0_3, .int .i64 a0_4, .int .i64 a0_5] 24 ?_; intro gb508 hg w10 hbox hb; have BK508 := Aside0.mk hbox; have GW508 := zW hg; replace HB := zS hb; have GE508 := GW508; clear hb hbox hg; obtain ⟨_, _, _, _, _, _, _, _, _, _, _, _⟩ := zc6 BK508) | ((with_reducible refine gate_callee (f := 19) rfl ?_); refine gl 7 Tryz.func19 #[.int .i64 a0_3, .int .i64 (-128), .int .i64 127] ?_; (with_reducible refine (impl_within.calls a0_3 (-128) 127 t509 _ A2.out).mono ?_); rintro e w' ⟨rfl, ⟨nd, rfl⟩⟩; refine ⟨_, rfl, ?_⟩) | ((with_reducible refine gate_callee (f := 20) rfl ?_); refine gl 12 Tryz.func20 #[.int .i64 a0_0] ?_; (with_reducible refine (impl_kind_reckons.calls a0_0 true _ A3.out).mono ?_); rintro e w' ⟨rfl, ⟨nd, rfl⟩⟩; refine ⟨_, rfl, ?_⟩) | ((with_reducible refine gate_callee (f := 21) rfl ?_); refine gl 15 Tryz.func21 #[.int .i64 a0_1] ?_; (with_reducible refine (impl_regOk.calls a0_1 true _ A5.out).mono ?_); rintro e w' ⟨rfl, ⟨nd, rfl⟩⟩; refine ⟨_, rfl, ?_⟩) | (go_at_call 22; (with_reducible refine (impl_Ins_either.calls a0_0 a0_1 a0_2 a0_3 a0_4 a0_5 true _ A7.out).mono ?_); rintro e w12 ⟨rfl, hb⟩; replace BK508 := zb BK508 hb rfl; replace HB := zS hb; try clear hb; obtain ⟨_, _, _, _, _, _, _, _, _, _, _, _⟩ := zc6 BK508))
     go_ret
     exact ⟨zR, zB⟩
    ·rw [if_neg c9] at H
     have c9b0 : (a0_3 == 0) = false := beq_eq_false_iff_ne.mpr c9
     have c9b1 : (a0_3 != 0) = true := bne_iff_ne.mpr c9
     obtain rfl := Option.some.inj H
     go_enter Tryz.func10, Tryz.ntmps10
     go_wp2_with (first | ((with_reducible refine gate_dst (N := 1) rfl ?_); refine be 1 #[.int .i64 a0_0, .int .i64 a0_1, .int .i64 a0_2, .int .i64 a0_3, .int .i64 a0_4, .int .i64 a0_5] 24 ?_; intro gb508 hg w14 hbox hb; have BK508 := Aside0.mk hbox; have GW508 := zW hg; replace HB := zS hb; have GE508 := GW508; clear hb hbox hg; obtain ⟨_, _, _, _, _, _, _, _, _, _, _, _⟩ := zc6 BK508) | ((with_reducible refine gate_callee (f := 19) rfl ?_); refine gl 7 Tryz.func19 #[.int .i64 a0_3, .int .i64 (-128), .int .i64 127] ?_; (with_reducible refine (impl_within.calls a0_3 (-128) 127 t509 _ A2.out).mono ?_); rintro e w' ⟨rfl, ⟨nd, rfl⟩⟩; refine ⟨_, rfl, ?_⟩) | ((with_reducible refine gate_callee (f := 20) rfl ?_); refine gl 12 Tryz.func20 #[.int .i64 a0_0] ?_; (with_reducible refine (impl_kind_reckons.calls a0_0 true _ A3.out).mono ?_); rintro e w' ⟨rfl, ⟨nd, rfl⟩⟩; refine ⟨_, rfl, ?_⟩) | ((with_reducible refine gate_callee (f := 21) rfl ?_); refine gl 15 Tryz.func21 #[.int .i64 a0_1] ?_; (with_reducible refine (impl_regOk.calls a0_1 true _ A5.out).mono ?_); rintro e w' ⟨rfl, ⟨nd, rfl⟩⟩; refine ⟨_, rfl, ?_⟩) | (go_at_call 22; (with_reducible refine (impl_Ins_either.calls a0_0 a0_1 a0_2 a0_3 a0_4 a0_5 true _ A7.out).mono ?_); rintro e w16 ⟨rfl, hb⟩; replace BK508 := zb BK508 hb rfl; replace HB := zS hb; try clear hb; obtain ⟨_, _, _, _, _, _, _, _, _, _, _, _⟩ := zc6 BK508))
     go_ret
     exact ⟨zR, zB⟩
   ·replace c8 := Bool.eq_false_iff.mpr c8
    subst c8
    rw [if_neg (show ¬ (false = true) by decide)] at H
    obtain rfl := Option.some.inj H
    go_enter Tryz.func10, Tryz.ntmps10
    go_wp2_with (first | ((with_reducible refine gate_dst (N := 1) rfl ?_); refine be 1 #[.int .i64 a0_0, .int .i64 a0_1, .int .i64 a0_2, .int .i64 a0_3, .int .i64 a0_4, .int .i64 a0_5] 24 ?_; intro gb508 hg w18 hbox hb; have BK508 := Aside0.mk hbox; have GW508 := zW hg; replace HB := zS hb; have GE508 := GW508; clear hb hbox hg; obtain ⟨_, _, _, _, _, _, _, _, _, _, _, _⟩ := zc6 BK508) | ((with_reducible refine gate_callee (f := 19) rfl ?_); refine gl 7 Tryz.func19 #[.int .i64 a0_3, .int .i64 (-128), .int .i64 127] ?_; (with_reducible refine (impl_within.calls a0_3 (-128) 127 t509 _ A2.out).mono ?_); rintro e w' ⟨rfl, ⟨nd, rfl⟩⟩; refine ⟨_, rfl, ?_⟩) | ((with_reducible refine gate_callee (f := 20) rfl ?_); refine gl 12 Tryz.func20 #[.int .i64 a0_0] ?_; (with_reducible refine (impl_kind_reckons.calls a0_0 true _ A3.out).mono ?_); rintro e w' ⟨rfl, ⟨nd, rfl⟩⟩; refine ⟨_, rfl, ?_⟩) | ((with_reducible refine gate_callee (f := 21) rfl ?_); refine gl 15 Tryz.func21 #[.int .i64 a0_1] ?_; (with_reducible refine (impl_regOk.calls a0_1 true _ A5.out).mono ?_); rintro e w' ⟨rfl, ⟨nd, rfl⟩⟩; refine ⟨_, rfl, ?_⟩) | (go_at_call 22; (with_reducible refine (impl_Ins_either.calls a0_0 a0_1 a0_2 a0_3 a0_4 a0_5 false _ A7.out).mono ?_); rintro e w20 ⟨rfl, hb⟩; replace BK508 := zb BK508 hb rfl; replace HB := zS hb; try clear hb))
    go_ret
    exact ⟨zR, zB⟩
  ·replace c6 := Bool.eq_false_iff.mpr c6
   subst c6
   rw [if_neg (show ¬ (false = true) by decide)] at H
   obtain rfl := Option.some.inj H
   go_enter Tryz.func10, Tryz.ntmps10
   go_wp2_with (first | ((with_reducible refine gate_dst (N := 1) rfl ?_); refine be 1 #[.int .i64 a0_0, .int .i64 a0_1, .int .i64 a0_2, .int .i64 a0_3, .int .i64 a0_4, .int .i64 a0_5] 24 ?_; intro gb508 hg w21 hbox hb; have BK508 := Aside0.mk hbox; have GW508 := zW hg; replace HB := zS hb; have GE508 := GW508; clear hb hbox hg; obtain ⟨_, _, _, _, _, _, _, _, _, _, _, _⟩ := zc6 BK508) | ((with_reducible refine gate_callee (f := 19) rfl ?_); refine gl 7 Tryz.func19 #[.int .i64 a0_3, .int .i64 (-128), .int .i64 127] ?_; (with_reducible refine (impl_within.calls a0_3 (-128) 127 t509 _ A2.out).mono ?_); rintro e w' ⟨rfl, ⟨nd, rfl⟩⟩; refine ⟨_, rfl, ?_⟩) | ((with_reducible refine gate_callee (f := 20) rfl ?_); refine gl 12 Tryz.func20 #[.int .i64 a0_0] ?_; (with_reducible refine (impl_kind_reckons.calls a0_0 true _ A3.out).mono ?_); rintro e w' ⟨rfl, ⟨nd, rfl⟩⟩; refine ⟨_, rfl, ?_⟩) | ((with_reducible refine gate_callee (f := 21) rfl ?_); refine gl 15 Tryz.func21 #[.int .i64 a0_1] ?_; (with_reducible refine (impl_regOk.calls a0_1 false _ A5.out).mono ?_); rintro e w' ⟨rfl, ⟨nd, rfl⟩⟩; refine ⟨_, rfl, ?_⟩))
   go_ret
   exact ⟨zR, zB⟩
 ·replace c4 := Bool.eq_false_iff.mpr c4
  subst c4
  rw [if_neg (show ¬ (false = true) by decide)] at H
  replace H := oA H
  obtain ⟨t513, A23, H⟩ := H
  try dsimp only at H
  by_cases c24 : t513 = true
  ·subst c24
   rw [if_pos rfl] at H
   replace H := oA H
   obtain ⟨t514, A25, H⟩ := H
   try dsimp only at H
   by_cases c26 : t514 = true
   ·subst c26
    rw [if_pos rfl] at H
    replace H := oA H
    obtain ⟨t515, A27, H⟩ := H
    try dsimp only at H
    by_cases c28 : t515 = true
    ·subst c28
     rw [if_pos rfl] at H
     by_cases c29 : t509 = true
     ·subst c29
      rw [if_pos rfl] at H
      obtain rfl := Option.some.inj H
      go_enter Tryz.func10, Tryz.ntmps10
      go_wp2_with (first | ((with_reducible refine gate_dst (N := 1) rfl ?_); refine be 1 #[.int .i64 a0_0, .int .i64 a0_1, .int .i64 a0_2, .int .i64 a0_3, .int .i64 a0_4, .int .i64 a0_5] 24 ?_; intro gb508 hg w30 hbox hb; have BK508 := Aside0.mk hbox; have GW508 := zW hg; replace HB := zS hb; have GE508 := GW508; clear hb hbox hg; obtain ⟨_, _, _, _, _, _, _, _, _, _, _, _⟩ := zc6 BK508) | ((with_reducible refine gate_callee (f := 19) rfl ?_); refine gl 7 Tryz.func19 #[.int .i64 a0_3, .int .i64 (-128), .int .i64 127] ?_; (with_reducible refine (impl_within.calls a0_3 (-128) 127 true _ A2.out).mono ?_); rintro e w' ⟨rfl, ⟨nd, rfl⟩⟩; refine ⟨_, rfl, ?_⟩) | ((with_reducible refine gate_callee (f := 20) rfl ?_); refine gl 12 Tryz.func20 #[.int .i64 a0_0] ?_; (with_reducible refine (impl_kind_reckons.calls a0_0 false _ A3.out).mono ?_); rintro e w' ⟨rfl, ⟨nd, rfl⟩⟩; refine ⟨_, rfl, ?_⟩) | ((with_reducible refine gate_callee (f := 23) rfl ?_); refine gl 32 Tryz.func23 #[.int .i64 a0_0] ?_; (with_reducible refine (impl_kind_asks.calls a0_0 true _ A23.out).mono ?_); rintro e w' ⟨rfl, ⟨nd, rfl⟩⟩; refine ⟨_, rfl, ?_⟩) | ((with_reducible refine gate_callee (f := 21) rfl ?_); refine gl 35 Tryz.func21 #[.int .i64 a0_1] ?_; (with_reducible refine (impl_regOk.calls a0_1 true _ A25.out).mono ?_); rintro e w' ⟨rfl, ⟨nd, rfl⟩⟩; refine ⟨_, rfl, ?_⟩) | (go_at_call 22; (with_reducible refine (impl_Ins_either.calls a0_0 a0_1 a0_2 a0_3 a0_4 a0_5 true _ A27.out).mono ?_); rintro e w32 ⟨rfl, hb⟩; replace BK508 := zb BK508 hb rfl; replace HB := zS hb; try clear hb; obtain ⟨_, _, _, _, _, _, _, _, _, _, _, _⟩ := zc6 BK508))
      go_ret
      exact ⟨zR, zB⟩
     ·replace c29 := Bool.eq_false_iff.mpr c29
      subst c29
      rw [if_neg (show ¬ (false = true) by decide)] at H
      obtain rfl := Option.some.inj H
      go_enter Tryz.func10, Tryz.ntmps10
      go_wp2_with (first | ((with_reducible refine gate_dst (N := 1) rfl ?_); refine be 1 #[.int .i64 a0_0, .int .i64 a0_1, .int .i64 a0_2, .int .i64 a0_3, .int .i64 a0_4, .int .i64 a0_5] 24 ?_; intro gb508 hg w34 hbox hb; have BK508 := Aside0.mk hbox; have GW508 := zW hg; replace HB := zS hb; have GE508 := GW508; clear hb hbox hg; obtain ⟨_, _, _, _, _, _, _, _, _, _, _, _⟩ := zc6 BK508) | ((with_reducible refine gate_callee (f := 19) rfl ?_); refine gl 7 Tryz.func19 #[.int .i64 a0_3, .int .i64 (-128), .int .i64 127] ?_; (with_reducible refine (impl_within.calls a0_3 (-128) 127 false _ A2.out).mono ?_); rintro e w' ⟨rfl, ⟨nd, rfl⟩⟩; refine ⟨_, rfl, ?_⟩) | ((with_reducible refine gate_callee (f := 20) rfl ?_); refine gl 12 Tryz.func20 #[.int .i64 a0_0] ?_; (with_reducible refine (impl_kind_reckons.calls a0_0 false _ A3.out).mono ?_); rintro e w' ⟨rfl, ⟨nd, rfl⟩⟩; refine ⟨_, rfl, ?_⟩) | ((with_reducible refine gate_callee (f := 23) rfl ?_); refine gl 32 Tryz.func23 #[.int .i64 a0_0] ?_; (with_reducible refine (impl_kind_asks.calls a0_0 true _ A23.out).mono ?_); rintro e w' ⟨rfl, ⟨nd, rfl⟩⟩; refine ⟨_, rfl, ?_⟩) | ((with_reducible refine gate_callee (f := 21) rfl ?_); refine gl 35 Tryz.func21 #[.int .i64 a0_1] ?_; (with_reducible refine (impl_regOk.calls a0_1 true _ A25.out).mono ?_); rintro e w' ⟨rfl, ⟨nd, rfl⟩⟩; refine ⟨_, rfl, ?_⟩) | (go_at_call 22; (with_reducible refine (impl_Ins_either.calls a0_0 a0_1 a0_2 a0_3 a0_4 a0_5 true _ A27.out).mono ?_); rintro e w36 ⟨rfl, hb⟩; replace BK508 := zb BK508 hb rfl; replace HB := zS hb; try clear hb))
      go_ret
      exact ⟨zR, zB⟩
    ·replace c28 := Bool.eq_false_iff.mpr c28
     subst c28
     rw [if_neg (show ¬ (false = true) by decide)] at H
     obtain rfl := Option.some.inj H
     go_enter Tryz.func10, Tryz.ntmps10
     go_wp2_with (first | ((with_reducible refine gate_dst (N := 1) rfl ?_); refine be 1 #[.int .i64 a0_0, .int .i64 a0_1, .int .i64 a0_2, .int .i64 a0_3, .int .i64 a0_4, .int .i64 a0_5] 24 ?_; intro gb508 hg w37 hbox hb; have BK508 := Aside0.mk hbox; have GW508 := zW hg; replace HB := zS hb; have GE508 := GW508; clear hb hbox hg; obtain ⟨_, _, _, _, _, _, _, _, _, _, _, _⟩ := zc6 BK508) | ((with_reducible refine gate_callee (f := 19) rfl ?_); refine gl 7 Tryz.func19 #[.int .i64 a0_3, .int .i64 (-128), .int .i64 127] ?_; (with_reducible refine (impl_within.calls a0_3 (-128) 127 t509 _ A2.out).mono ?_); rintro e w' ⟨rfl, ⟨nd, rfl⟩⟩; refine ⟨_, rfl, ?_⟩) | ((with_reducible refine gate_callee (f := 20) rfl ?_); refine gl 12 Tryz.func20 #[.int .i64 a0_0] ?_; (with_reducible refine (impl_kind_reckons.calls a0_0 false _ A3.out).mono ?_); rintro e w' ⟨rfl, ⟨nd, rfl⟩⟩; refine ⟨_, rfl, ?_⟩) | ((with_reducible refine gate_callee (f := 23) rfl ?_); refine gl 32 Tryz.func23 #[.int .i64 a0_0] ?_; (with_reducible refine (impl_kind_asks.calls a0_0 true _ A23.out).mono ?_); rintro e w' ⟨rfl, ⟨nd, rfl⟩⟩; refine ⟨_, rfl, ?_⟩) | ((with_reducible refine gate_callee (f := 21) rfl ?_); refine gl 35 Tryz.func21 #[.int .i64 a0_1] ?_; (with_reducible refine (impl_regOk.calls a0_1 true _ A25.out).mono ?_); rintro e w' ⟨rfl, ⟨nd, rfl⟩⟩; refine ⟨_, rfl, ?_⟩) | (go_at_call 22; (with_reducible refine (impl_Ins_either.calls a0_0 a0_1 a0_2 a0_3 a0_4 a0_5 false _ A27.out).mono ?_); rintro e w39 ⟨rfl, hb⟩; replace BK508 := zb BK508 hb rfl; replace HB := zS hb; try clear hb))
     go_ret
     exact ⟨zR, zB⟩
   ·replace c26 := Bool.eq_false_iff.mpr c26
    subst c26
    rw [if_neg (show ¬ (false = true) by decide)] at H
    obtain rfl := Option.some.inj H
    go_enter Tryz.func10, Tryz.ntmps10
    go_wp2_with (first | ((with_reducible refine gate_dst (N := 1) rfl ?_); refine be 1 #[.int .i64 a0_0, .int .i64 a0_1, .int .i64 a0_2, .int .i64 a0_3, .int .i64 a0_4, .int .i64 a0_5] 24 ?_; intro gb508 hg w40 hbox hb; have BK508 := Aside0.mk hbox; have GW508 := zW hg; replace HB := zS hb; have GE508 := GW508; clear hb hbox hg; obtain ⟨_, _, _, _, _, _, _, _, _, _, _, _⟩ := zc6 BK508) | ((with_reducible refine gate_callee (f := 19) rfl ?_); refine gl 7 Tryz.func19 #[.int .i64 a0_3, .int .i64 (-128), .int .i64 127] ?_; (with_reducible refine (impl_within.calls a0_3 (-128) 127 t509 _ A2.out).mono ?_); rintro e w' ⟨rfl, ⟨nd, rfl⟩⟩; refine ⟨_, rfl, ?_⟩) | ((with_reducible refine gate_callee (f := 20) rfl ?_); refine gl 12 Tryz.func20 #[.int .i64 a0_0] ?_; (with_reducible refine (impl_kind_reckons.calls a0_0 false _ A3.out).mono ?_); rintro e w' ⟨rfl, ⟨nd, rfl⟩⟩; refine ⟨_, rfl, ?_⟩) | ((with_reducible refine gate_callee (f := 23) rfl ?_); refine gl 32 Tryz.func23 #[.int .i64 a0_0] ?_; (with_reducible refine (impl_kind_asks.calls a0_0 true _ A23.out).mono ?_); rintro e w' ⟨rfl, ⟨nd, rfl⟩⟩; refine ⟨_, rfl, ?_⟩) | ((with_reducible refine gate_callee (f := 21) rfl ?_); refine gl 35 Tryz.func21 #[.int .i64 a0_1] ?_; (with_reducible refine (impl_regOk.calls a0_1 false _ A25.out).mono ?_); rintro e w' ⟨rfl, ⟨nd, rfl⟩⟩; refine ⟨_, rfl, ?_⟩))
    go_ret
    exact ⟨zR, zB⟩
  ·replace c24 := Bool.eq_false_iff.mpr c24
   subst c24
   rw [if_neg (show ¬ (false = true) by decide)] at H
   by_cases c42 : a0_0 = 16
   ·rw [if_pos c42] at H
    have c42b0 : (a0_0 == 16) = true := beq_iff_eq.mpr c42
    have c42b1 : (a0_0 != 16) = false := bne_eq_false_iff_eq.mpr c42
    clear c42
    by_cases c43 : t509 = true
    ·subst c43
     rw [if_pos rfl] at H
     obtain rfl := Option.some.inj H
     go_enter Tryz.func10, Tryz.ntmps10
     go_wp2_with (first | ((with_reducible refine gate_dst (N := 1) rfl ?_); refine be 1 #[.int .i64 a0_0, .int .i64 a0_1, .int .i64 a0_2, .int .i64 a0_3, .int .i64 a0_4, .int .i64 a0_5] 24 ?_; intro gb508 hg w44 hbox hb; have BK508 := Aside0.mk hbox; have GW508 := zW hg; replace HB := zS hb; have GE508 := GW508; clear hb hbox hg; obtain ⟨_, _, _, _, _, _, _, _, _, _, _, _⟩ := zc6 BK508) | ((with_reducible refine gate_callee (f := 19) rfl ?_); refine gl 7 Tryz.func19 #[.int .i64 a0_3, .int .i64 (-128), .int .i64 127] ?_; (with_reducible refine (impl_within.calls a0_3 (-128) 127 true _ A2.out).mono ?_); rintro e w' ⟨rfl, ⟨nd, rfl⟩⟩; refine ⟨_, rfl, ?_⟩) | ((with_reducible refine gate_callee (f := 20) rfl ?_); refine gl 12 Tryz.func20 #[.int .i64 a0_0] ?_; (with_reducible refine (impl_kind_reckons.calls a0_0 false _ A3.out).mono ?_); rintro e w' ⟨rfl, ⟨nd, rfl⟩⟩; refine ⟨_, rfl, ?_⟩) | ((with_reducible refine gate_callee (f := 23) rfl ?_); refine gl 32 Tryz.func23 #[.int .i64 a0_0] ?_; (with_reducible refine (impl_kind_asks.calls a0_0 false _ A23.out).mono ?_); rintro e w' ⟨rfl, ⟨nd, rfl⟩⟩; refine ⟨_, rfl, ?_⟩))
     go_ret
     exact ⟨zR, zB⟩
    ·replace c43 := Bool.eq_false_iff.mpr c43
     subst c43
     rw [if_neg (show ¬ (false = true) by decide)] at H
     obtain rfl := Option.some.inj H
     go_enter Tryz.func10, Tryz.ntmps10
     go_wp2_with (first | ((with_reducible refine gate_dst (N := 1) rfl ?_); refine be 1 #[.int .i64 a0_0, .int .i64 a0_1, .int .i64 a0_2, .int .i64 a0_3, .int .i64 a0_4, .int .i64 a0_5] 24 ?_; intro gb508 hg w46 hbox hb; have BK508 := Aside0.mk hbox; have GW508 := zW hg; replace HB := zS hb; have GE508 := GW508; clear hb hbox hg; obtain ⟨_, _, _, _, _, _, _, _, _, _, _, _⟩ := zc6 BK508) | ((with_reducible refine gate_callee (f := 19) rfl ?_); refine gl 7 Tryz.func19 #[.int .i64 a0_3, .int .i64 (-128), .int .i64 127] ?_; (with_reducible refine (impl_within.calls a0_3 (-128) 127 false _ A2.out).mono ?_); rintro e w' ⟨rfl, ⟨nd, rfl⟩⟩; refine ⟨_, rfl, ?_⟩) | ((with_reducible refine gate_callee (f := 20) rfl ?_); refine gl 12 Tryz.func20 #[.int .i64 a0_0] ?_; (with_reducible refine (impl_kind_reckons.calls a0_0 false _ A3.out).mono ?_); rintro e w' ⟨rfl, ⟨nd, rfl⟩⟩; refine ⟨_, rfl, ?_⟩) | ((with_reducible refine gate_callee (f := 23) rfl ?_); refine gl 32 Tryz.func23 #[.int .i64 a0_0] ?_; (with_reducible refine (impl_kind_asks.calls a0_0 false _ A23.out).mono ?_); rintro e w' ⟨rfl, ⟨nd, rfl⟩⟩; refine ⟨_, rfl, ?_⟩))
     go_ret
     exact ⟨zR, zB⟩
   ·rw [if_neg c42] at H
    have c42b0 : (a0_0 == 16) = false := beq_eq_false_iff_ne.mpr c42
    have c42b1 : (a0_0 != 16) = true := bne_iff_ne.mpr c42
    by_cases c48 : a0_0 = 17
    ·rw [if_pos c48] at H
     have c48b0 : (a0_0 == 17) = true := beq_iff_eq.mpr c48
     have c48b1 : (a0_0 != 17) = false := bne_eq_false_iff_eq.mpr c48
     clear c48
     replace H := oA H
     obtain ⟨t516, A49, H⟩ := H
     try dsimp only at H
     by_cases c50 : t516 = true
     ·subst c50
      rw [if_pos rfl] at H
      replace H := oA H
      obtain ⟨t517, A51, H⟩ := H
      try dsimp only at H
      by_cases c52 : t517 = true
      ·subst c52
       rw [if_pos rfl] at H
       by_cases c53 : a0_4 = 0
       ·rw [if_pos c53] at H
        have c53b0 : (a0_4 == 0) = true := beq_iff_eq.mpr c53
        have c53b1 : (a0_4 != 0) = false := bne_eq_false_iff_eq.mpr c53
        clear c53
        by_cases c54 : t509 = true
        ·subst c54
         rw [if_pos rfl] at H
         replace H := oA H
         obtain ⟨t518, A55, H⟩ := H
         try dsimp only at H
         obtain rfl := Option.some.inj H
         go_enter Tryz.func10, Tryz.ntmps10
         go_wp2_with (first | ((with_reducible refine gate_dst (N := 1) rfl ?_); refine be 1 #[.int .i64 a0_0, .int .i64 a0_1, .int .i64 a0_2, .int .i64 a0_3, .int .i64 a0_4, .int .i64 a0_5] 24 ?_; intro gb508 hg w56 hbox hb; have BK508 := Aside0.mk hbox; have GW508 := zW hg; replace HB := zS hb; have GE508 := GW508; clear hb hbox hg; obtain ⟨_, _, _, _, _, _, _, _, _, _, _, _⟩ := zc6 BK508) | ((with_reducible refine gate_callee (f := 19) rfl ?_); refine gl 7 Tryz.func19 #[.int .i64 a0_3, .int .i64 (-128), .int .i64 127] ?_; (with_reducible refine (impl_within.calls a0_3 (-128) 127 true _ A2.out).mono ?_); rintro e w' ⟨rfl, ⟨nd, rfl⟩⟩; refine ⟨_, rfl, ?_⟩) | ((with_reducible refine gate_callee (f := 20) rfl ?_); refine gl 12 Tryz.func20 #[.int .i64 a0_0] ?_; (with_reducible refine (impl_kind_reckons.calls a0_0 false _ A3.out).mono ?_); rintro e w' ⟨rfl, ⟨nd, rfl⟩⟩; refine ⟨_, rfl, ?_⟩) | ((with_reducible refine gate_callee (f := 23) rfl ?_); refine gl 32 Tryz.func23 #[.int .i64 a0_0] ?_; (with_reducible refine (impl_kind_asks.calls a0_0 false _ A23.out).mono ?_); rintro e w' ⟨rfl, ⟨nd, rfl⟩⟩; refine ⟨_, rfl, ?_⟩) | ((with_reducible refine gate_callee (f := 21) rfl ?_); refine gl 66 Tryz.func21 #[.int .i64 a0_1] ?_; (with_reducible refine (impl_regOk.calls a0_1 true _ A49.out).mono ?_); rintro e w' ⟨rfl, ⟨nd, rfl⟩⟩; refine ⟨_, rfl, ?_⟩) | (go_at_call 21; (with_reducible refine (impl_regOk.calls a0_2 true _ A51.out).mono ?_); rintro e w' ⟨rfl, ⟨nd, rfl⟩⟩) | (go_at_call 24; (with_reducible refine (impl_sizeOk.calls a0_5 t518 _ A55.out).mono ?_); rintro e w' ⟨rfl, ⟨nd, rfl⟩⟩))
         go_ret
         exact ⟨zR, zB⟩
        ·replace c54 := Bool.eq_false_iff.mpr c54
         subst c54
         rw [if_neg (show ¬ (false = true) by decide)] at H
         obtain rfl := Option.some.inj H
         go_enter Tryz.func10, Tryz.ntmps10
         go_wp2_with (first | ((with_reducible refine gate_dst (N := 1) rfl ?_); refine be 1 #[.int .i64 a0_0, .int .i64 a0_1, .int .i64 a0_2, .int .i64 a0_3, .int .i64 a0_4, .int .i64 a0_5] 24 ?_; intro gb508 hg w58 hbox hb; have BK508 := Aside0.mk hbox; have GW508 := zW hg; replace HB := zS hb; have GE508 := GW508; clear hb hbox hg; obtain ⟨_, _, _, _, _, _, _, _, _, _, _, _⟩ := zc6 BK508) | ((with_reducible refine gate_callee (f := 19) rfl ?_); refine gl 7 Tryz.func19 #[.int .i64 a0_3, .int .i64 (-128), .int .i64 127] ?_; (with_reducible refine (impl_within.calls a0_3 (-128) 127 false _ A2.out).mono ?_); rintro e w' ⟨rfl, ⟨nd, rfl⟩⟩; refine ⟨_, rfl, ?_⟩) | ((with_reducible refine gate_callee (f := 20) rfl ?_); refine gl 12 Tryz.func20 #[.int .i64 a0_0] ?_; (with_reducible refine (impl_kind_reckons.calls a0_0 false _ A3.out).mono ?_); rintro e w' ⟨rfl, ⟨nd, rfl⟩⟩; refine ⟨_, rfl, ?_⟩) | ((with_reducible refine gate_callee (f := 23) rfl ?_); refine gl 32 Tryz.func23 #[.int .i64 a0_0] ?_; (with_reducible refine (impl_kind_asks.calls a0_0 false _ A23.out).mono ?_); rintro e w' ⟨rfl, ⟨nd, rfl⟩⟩; refine ⟨_, rfl, ?_⟩) | ((with_reducible refine gate_callee (f := 21) rfl ?_); refine gl 66 Tryz.func21 #[.int .i64 a0_1] ?_; (with_reducible refine (impl_regOk.calls a0_1 true _ A49.out).mono ?_); rintro e w' ⟨rfl, ⟨nd, rfl⟩⟩; refine ⟨_, rfl, ?_⟩) | (go_at_call 21; (with_reducible refine (impl_regOk.calls a0_2 true _ A51.out).mono ?_); rintro e w' ⟨rfl, ⟨nd, rfl⟩⟩))
         go_ret
         exact ⟨zR, zB⟩
       ·rw [if_neg c53] at H
        have c53b0 : (a0_4 == 0) = false := beq_eq_false_iff_ne.mpr c53
        have c53b1 : (a0_4 != 0) = true := bne_iff_ne.mpr c53
        obtain rfl := Option.some.inj H
        go_enter Tryz.func10, Tryz.ntmps10
        go_wp2_with (first | ((with_reducible refine gate_dst (N := 1) rfl ?_); refine be 1 #[.int .i64 a0_0, .int .i64 a0_1, .int .i64 a0_2, .int .i64 a0_3, .int .i64 a0_4, .int .i64 a0_5] 24 ?_; intro gb508 hg w60 hbox hb; have BK508 := Aside0.mk hbox; have GW508 := zW hg; replace HB := zS hb; have GE508 := GW508; clear hb hbox hg; obtain ⟨_, _, _, _, _, _, _, _, _, _, _, _⟩ := zc6 BK508) | ((with_reducible refine gate_callee (f := 19) rfl ?_); refine gl 7 Tryz.func19 #[.int .i64 a0_3, .int .i64 (-128), .int .i64 127] ?_; (with_reducible refine (impl_within.calls a0_3 (-128) 127 t509 _ A2.out).mono ?_); rintro e w' ⟨rfl, ⟨nd, rfl⟩⟩; refine ⟨_, rfl, ?_⟩) | ((with_reducible refine gate_callee (f := 20) rfl ?_); refine gl 12 Tryz.func20 #[.int .i64 a0_0] ?_; (with_reducible refine (impl_kind_reckons.calls a0_0 false _ A3.out).mono ?_); rintro e w' ⟨rfl, ⟨nd, rfl⟩⟩; refine ⟨_, rfl, ?_⟩) | ((with_reducible refine gate_callee (f := 23) rfl ?_); refine gl 32 Tryz.func23 #[.int .i64 a0_0] ?_; (with_reducible refine (impl_kind_asks.calls a0_0 false _ A23.out).mono ?_); rintro e w' ⟨rfl, ⟨nd, rfl⟩⟩; refine ⟨_, rfl, ?_⟩) | ((with_reducible refine gate_callee (f := 21) rfl ?_); refine gl 66 Tryz.func21 #[.int .i64 a0_1] ?_; (with_reducible refine (impl_regOk.calls a0_1 true _ A49.out).mono ?_); rintro e w' ⟨rfl, ⟨nd, rfl⟩⟩; refine ⟨_, rfl, ?_⟩) | (go_at_call 21; (with_reducible refine (impl_regOk.calls a0_2 true _ A51.out).mono ?_); rintro e w' ⟨rfl, ⟨nd, rfl⟩⟩))
        go_ret
        exact ⟨zR, zB⟩
      ·replace c52 := Bool.eq_false_iff.mpr c52
       subst c52
       rw [if_neg (show ¬ (false = true) by decide)] at H
       obtain rfl := Option.some.inj H
       go_enter Tryz.func10, Tryz.ntmps10
       go_wp2_with (first | ((with_reducible refine gate_dst (N := 1) rfl ?_); refine be 1 #[.int .i64 a0_0, .int .i64 a0_1, .int .i64 a0_2, .int .i64 a0_3, .int .i64 a0_4, .int .i64 a0_5] 24 ?_; intro gb508 hg w62 hbox hb; have BK508 := Aside0.mk hbox; have GW508 := zW hg; replace HB := zS hb; have GE508 := GW508; clear hb hbox hg; obtain ⟨_, _, _, _, _, _, _, _, _, _, _, _⟩ := zc6 BK508) | ((with_reducible refine gate_callee (f := 19) rfl ?_); refine gl 7 Tryz.func19 #[.int .i64 a0_3, .int .i64 (-128), .int .i64 127] ?_; (with_reducible refine (impl_within.calls a0_3 (-128) 127 t509 _ A2.out).mono ?_); rintro e w' ⟨rfl, ⟨nd, rfl⟩⟩; refine ⟨_, rfl, ?_⟩) | ((with_reducible refine gate_callee (f := 20) rfl ?_); refine gl 12 Tryz.func20 #[.int .i64 a0_0] ?_; (with_reducible refine (impl_kind_reckons.calls a0_0 false _ A3.out).mono ?_); rintro e w' ⟨rfl, ⟨nd, rfl⟩⟩; refine ⟨_, rfl, ?_⟩) | ((with_reducible refine gate_callee (f := 23) rfl ?_); refine gl 32 Tryz.func23 #[.int .i64 a0_0] ?_; (with_reducible refine (impl_kind_asks.calls a0_0 false _ A23.out).mono ?_); rintro e w' ⟨rfl, ⟨nd, rfl⟩⟩; refine ⟨_, rfl, ?_⟩) | ((with_reducible refine gate_callee (f := 21) rfl ?_); refine gl 66 Tryz.func21 #[.int .i64 a0_1] ?_; (with_reducible refine (impl_regOk.calls a0_1 true _ A49.out).mono ?_); rintro e w' ⟨rfl, ⟨nd, rfl⟩⟩; refine ⟨_, rfl, ?_⟩) | (go_at_call 21; (with_reducible refine (impl_regOk.calls a0_2 false _ A51.out).mono ?_); rintro e w' ⟨rfl, ⟨nd, rfl⟩⟩))
       go_ret
       exact ⟨zR, zB⟩
     ·replace c50 := Bool.eq_false_iff.mpr c50
      subst c50
      rw [if_neg (show ¬ (false = true) by decide)] at H
      obtain rfl := Option.some.inj H
      go_enter Tryz.func10, Tryz.ntmps10
      go_wp2_with (first | ((with_reducible refine gate_dst (N := 1) rfl ?_); refine be 1 #[.int .i64 a0_0, .int .i64 a0_1, .int .i64 a0_2, .int .i64 a0_3, .int .i64 a0_4, .int .i64 a0_5] 24 ?_; intro gb508 hg w64 hbox hb; have BK508 := Aside0.mk hbox; have GW508 := zW hg; replace HB := zS hb; have GE508 := GW508; clear hb hbox hg; obtain ⟨_, _, _, _, _, _, _, _, _, _, _, _⟩ := zc6 BK508) | ((with_reducible refine gate_callee (f := 19) rfl ?_); refine gl 7 Tryz.func19 #[.int .i64 a0_3, .int .i64 (-128), .int .i64 127] ?_; (with_reducible refine (impl_within.calls a0_3 (-128) 127 t509 _ A2.out).mono ?_); rintro e w' ⟨rfl, ⟨nd, rfl⟩⟩; refine ⟨_, rfl, ?_⟩) | ((with_reducible refine gate_callee (f := 20) rfl ?_); refine gl 12 Tryz.func20 #[.int .i64 a0_0] ?_; (with_reducible refine (impl_kind_reckons.calls a0_0 false _ A3.out).mono ?_); rintro e w' ⟨rfl, ⟨nd, rfl⟩⟩; refine ⟨_, rfl, ?_⟩) | ((with_reducible refine gate_callee (f := 23) rfl ?_); refine gl 32 Tryz.func23 #[.int .i64 a0_0] ?_; (with_reducible refine (impl_kind_asks.calls a0_0 false _ A23.out).mono ?_); rintro e w' ⟨rfl, ⟨nd, rfl⟩⟩; refine ⟨_, rfl, ?_⟩) | ((with_reducible refine gate_callee (f := 21) rfl ?_); refine gl 66 Tryz.func21 #[.int .i64 a0_1] ?_; (with_reducible refine (impl_regOk.calls a0_1 false _ A49.out).mono ?_); rintro e w' ⟨rfl, ⟨nd, rfl⟩⟩; refine ⟨_, rfl, ?_⟩))
      go_ret
      exact ⟨zR, zB⟩
    ·rw [if_neg c48] at H
     have c48b0 : (a0_0 == 17) = false := beq_eq_false_iff_ne.mpr c48
     have c48b1 : (a0_0 != 17) = true := bne_iff_ne.mpr c48
     by_cases c66 : a0_0 = 18
     ·rw [if_pos c66] at H
      have c66b0 : (a0_0 == 18) = true := beq_iff_eq.mpr c66
      have c66b1 : (a0_0 != 18) = false := bne_eq_false_iff_eq.mpr c66
      clear c66
      replace H := oA H
      obtain ⟨t519, A67, H⟩ := H
      try dsimp only at H
      by_cases c68 : t519 = true
      ·subst c68
       rw [if_pos rfl] at H
       replace H := oA H
       obtain ⟨t520, A69, H⟩ := H
       try dsimp only at H
       by_cases c70 : t520 = true
       ·subst c70
        rw [if_pos rfl] at H
        by_cases c71 : t509 = true
        ·subst c71
         rw [if_pos rfl] at H
         replace H := oA H
         obtain ⟨t521, A72, H⟩ := H
         try dsimp only at H
         obtain rfl := Option.some.inj H
         go_enter Tryz.func10, Tryz.ntmps10
         go_wp2_with (first | ((with_reducible refine gate_dst (N := 1) rfl ?_); refine be 1 #[.int .i64 a0_0, .int .i64 a0_1, .int .i64 a0_2, .int .i64 a0_3, .int .i64 a0_4, .int .i64 a0_5] 24 ?_; intro gb508 hg w73 hbox hb; have BK508 := Aside0.mk hbox; have GW508 := zW hg; replace HB := zS hb; have GE508 := GW508; clear hb hbox hg; obtain ⟨_, _, _, _, _, _, _, _, _, _, _, _⟩ := zc6 BK508) | ((with_reducible refine gate_callee (f := 19) rfl ?_); refine gl 7 Tryz.func19 #[.int .i64 a0_3, .int .i64 (-128), .int .i64 127] ?_; (with_reducible refine (impl_within.calls a0_3 (-128) 127 true _ A2.out).mono ?_); rintro e w' ⟨rfl, ⟨nd, rfl⟩⟩; refine ⟨_, rfl, ?_⟩) | ((with_reducible refine gate_callee (f := 20) rfl ?_); refine gl 12 Tryz.func20 #[.int .i64 a0_0] ?_; (with_reducible refine (impl_kind_reckons.calls a0_0 false _ A3.out).mono ?_); rintro e w' ⟨rfl, ⟨nd, rfl⟩⟩; refine ⟨_, rfl, ?_⟩) | ((with_reducible refine gate_callee (f := 23) rfl ?_); refine gl 32 Tryz.func23 #[.int .i64 a0_0] ?_; (with_reducible refine (impl_kind_asks.calls a0_0 false _ A23.out).mono ?_); rintro e w' ⟨rfl, ⟨nd, rfl⟩⟩; refine ⟨_, rfl, ?_⟩) | ((with_reducible refine gate_callee (f := 21) rfl ?_); refine gl 91 Tryz.func21 #[.int .i64 a0_1] ?_; (with_reducible refine (impl_regOk.calls a0_1 true _ A67.out).mono ?_); rintro e w' ⟨rfl, ⟨nd, rfl⟩⟩; refine ⟨_, rfl, ?_⟩) | (go_at_call 22; (with_reducible refine (impl_Ins_either.calls a0_0 a0_1 a0_2 a0_3 a0_4 a0_5 true _ A69.out).mono ?_); rintro e w75 ⟨rfl, hb⟩; replace BK508 := zb BK508 hb rfl; replace HB := zS hb; try clear hb; obtain ⟨_, _, _, _, _, _, _, _, _, _, _, _⟩ := zc6 BK508) | (go_at_call 24; (with_reducible refine (impl_sizeOk.calls a0_5 t521 _ A72.out).mono ?_); rintro e w' ⟨rfl, ⟨nd, rfl⟩⟩))
         go_ret
         exact ⟨zR, zB⟩
        ·replace c71 := Bool.eq_false_iff.mpr c71
         subst c71
         rw [if_neg (show ¬ (false = true) by decide)] at H
         obtain rfl := Option.some.inj H
         go_enter Tryz.func10, Tryz.ntmps10
         go_wp2_with (first | ((with_reducible refine gate_dst (N := 1) rfl ?_); refine be 1 #[.int .i64 a0_0, .int .i64 a0_1, .int .i64 a0_2, .int .i64 a0_3, .int .i64 a0_4, .int .i64 a0_5] 24 ?_; intro gb508 hg w77 hbox hb; have BK508 := Aside0.mk hbox; have GW508 := zW hg; replace HB := zS hb; have GE508 := GW508; clear hb hbox hg; obtain ⟨_, _, _, _, _, _, _, _, _, _, _, _⟩ := zc6 BK508) | ((with_reducible refine gate_callee (f := 19) rfl ?_); refine gl 7 Tryz.func19 #[.int .i64 a0_3, .int .i64 (-128), .int .i64 127] ?_; (with_reducible refine (impl_within.calls a0_3 (-128) 127 false _ A2.out).mono ?_); rintro e w' ⟨rfl, ⟨nd, rfl⟩⟩; refine ⟨_, rfl, ?_⟩) | ((with_reducible refine gate_callee (f := 20) rfl ?_); refine gl 12 Tryz.func20 #[.int .i64 a0_0] ?_; (with_reducible refine (impl_kind_reckons.calls a0_0 false _ A3.out).mono ?_); rintro e w' ⟨rfl, ⟨nd, rfl⟩⟩; refine ⟨_, rfl, ?_⟩) | ((with_reducible refine gate_callee (f := 23) rfl ?_); refine gl 32 Tryz.func23 #[.int .i64 a0_0] ?_; (with_reducible refine (impl_kind_asks.calls a0_0 false _ A23.out).mono ?_); rintro e w' ⟨rfl, ⟨nd, rfl⟩⟩; refine ⟨_, rfl, ?_⟩) | ((with_reducible refine gate_callee (f := 21) rfl ?_); refine gl 91 Tryz.func21 #[.int .i64 a0_1] ?_; (with_reducible refine (impl_regOk.calls a0_1 true _ A67.out).mono ?_); rintro e w' ⟨rfl, ⟨nd, rfl⟩⟩; refine ⟨_, rfl, ?_⟩) | (go_at_call 22; (with_reducible refine (impl_Ins_either.calls a0_0 a0_1 a0_2 a0_3 a0_4 a0_5 true _ A69.out).mono ?_); rintro e w79 ⟨rfl, hb⟩; replace BK508 := zb BK508 hb rfl; replace HB := zS hb; try clear hb))
         go_ret
         exact ⟨zR, zB⟩
       ·replace c70 := Bool.eq_false_iff.mpr c70
        subst c70
        rw [if_neg (show ¬ (false = true) by decide)] at H
        obtain rfl := Option.some.inj H
        go_enter Tryz.func10, Tryz.ntmps10
        go_wp2_with (first | ((with_reducible refine gate_dst (N := 1) rfl ?_); refine be 1 #[.int .i64 a0_0, .int .i64 a0_1, .int .i64 a0_2, .int .i64 a0_3, .int .i64 a0_4, .int .i64 a0_5] 24 ?_; intro gb508 hg w80 hbox hb; have BK508 := Aside0.mk hbox; have GW508 := zW hg; replace HB := zS hb; have GE508 := GW508; clear hb hbox hg; obtain ⟨_, _, _, _, _, _, _, _, _, _, _, _⟩ := zc6 BK508) | ((with_reducible refine gate_callee (f := 19) rfl ?_); refine gl 7 Tryz.func19 #[.int .i64 a0_3, .int .i64 (-128), .int .i64 127] ?_; (with_reducible refine (impl_within.calls a0_3 (-128) 127 t509 _ A2.out).mono ?_); rintro e w' ⟨rfl, ⟨nd, rfl⟩⟩; refine ⟨_, rfl, ?_⟩) | ((with_reducible refine gate_callee (f := 20) rfl ?_); refine gl 12 Tryz.func20 #[.int .i64 a0_0] ?_; (with_reducible refine (impl_kind_reckons.calls a0_0 false _ A3.out).mono ?_); rintro e w' ⟨rfl, ⟨nd, rfl⟩⟩; refine ⟨_, rfl, ?_⟩) | ((with_reducible refine gate_callee (f := 23) rfl ?_); refine gl 32 Tryz.func23 #[.int .i64 a0_0] ?_; (with_reducible refine (impl_kind_asks.calls a0_0 false _ A23.out).mono ?_); rintro e w' ⟨rfl, ⟨nd, rfl⟩⟩; refine ⟨_, rfl, ?_⟩) | ((with_reducible refine gate_callee (f := 21) rfl ?_); refine gl 91 Tryz.func21 #[.int .i64 a0_1] ?_; (with_reducible refine (impl_regOk.calls a0_1 true _ A67.out).mono ?_); rintro e w' ⟨rfl, ⟨nd, rfl⟩⟩; refine ⟨_, rfl, ?_⟩) | (go_at_call 22; (with_reducible refine (impl_Ins_either.calls a0_0 a0_1 a0_2 a0_3 a0_4 a0_5 false _ A69.out).mono ?_); rintro e w82 ⟨rfl, hb⟩; replace BK508 := zb BK508 hb rfl; replace HB := zS hb; try clear hb))
        go_ret
        exact ⟨zR, zB⟩
      ·replace c68 := Bool.eq_false_iff.mpr c68
       subst c68
       rw [if_neg (show ¬ (false = true) by decide)] at H
       obtain rfl := Option.some.inj H
       go_enter Tryz.func10, Tryz.ntmps10
       go_wp2_with (first | ((with_reducible refine gate_dst (N := 1) rfl ?_); refine be 1 #[.int .i64 a0_0, .int .i64 a0_1, .int .i64 a0_2, .int .i64 a0_3, .int .i64 a0_4, .int .i64 a0_5] 24 ?_; intro gb508 hg w83 hbox hb; have BK508 := Aside0.mk hbox; have GW508 := zW hg; replace HB := zS hb; have GE508 := GW508; clear hb hbox hg; obtain ⟨_, _, _, _, _, _, _, _, _, _, _, _⟩ := zc6 BK508) | ((with_reducible refine gate_callee (f := 19) rfl ?_); refine gl 7 Tryz.func19 #[.int .i64 a0_3, .int .i64 (-128), .int .i64 127] ?_; (with_reducible refine (impl_within.calls a0_3 (-128) 127 t509 _ A2.out).mono ?_); rintro e w' ⟨rfl, ⟨nd, rfl⟩⟩; refine ⟨_, rfl, ?_⟩) | ((with_reducible refine gate_callee (f := 20) rfl ?_); refine gl 12 Tryz.func20 #[.int .i64 a0_0] ?_; (with_reducible refine (impl_kind_reckons.calls a0_0 false _ A3.out).mono ?_); rintro e w' ⟨rfl, ⟨nd, rfl⟩⟩; refine ⟨_, rfl, ?_⟩) | ((with_reducible refine gate_callee (f := 23) rfl ?_); refine gl 32 Tryz.func23 #[.int .i64 a0_0] ?_; (with_reducible refine (impl_kind_asks.calls a0_0 false _ A23.out).mono ?_); rintro e w' ⟨rfl, ⟨nd, rfl⟩⟩; refine ⟨_, rfl, ?_⟩) | ((with_reducible refine gate_callee (f := 21) rfl ?_); refine gl 91 Tryz.func21 #[.int .i64 a0_1] ?_; (with_reducible refine (impl_regOk.calls a0_1 false _ A67.out).mono ?_); rintro e w' ⟨rfl, ⟨nd, rfl⟩⟩; refine ⟨_, rfl, ?_⟩))
       go_ret
       exact ⟨zR, zB⟩
     ·rw [if_neg c66] at H
      have c66b0 : (a0_0 == 18) = false := beq_eq_false_iff_ne.mpr c66
      have c66b1 : (a0_0 != 18) = true := bne_iff_ne.mpr c66
      by_cases c85 : a0_0 = 19
      ·rw [if_pos c85] at H
       have c85b0 : (a0_0 == 19) = true := beq_iff_eq.mpr c85
       have c85b1 : (a0_0 != 19) = false := bne_eq_false_iff_eq.mpr c85
       clear c85
       replace H := oA H
       obtain ⟨t522, A86, H⟩ := H
       try dsimp only at H
       by_cases c87 : t522 = true
       ·subst c87
        rw [if_pos rfl] at H
        obtain rfl := Option.some.inj H
        go_enter Tryz.func10, Tryz.ntmps10
        go_wp2_with (first | ((with_reducible refine gate_dst (N := 1) rfl ?_); refine be 1 #[.int .i64 a0_0, .int .i64 a0_1, .int .i64 a0_2, .int .i64 a0_3, .int .i64 a0_4, .int .i64 a0_5] 24 ?_; intro gb508 hg w88 hbox hb; have BK508 := Aside0.mk hbox; have GW508 := zW hg; replace HB := zS hb; have GE508 := GW508; clear hb hbox hg; obtain ⟨_, _, _, _, _, _, _, _, _, _, _, _⟩ := zc6 BK508) | ((with_reducible refine gate_callee (f := 19) rfl ?_); refine gl 7 Tryz.func19 #[.int .i64 a0_3, .int .i64 (-128), .int .i64 127] ?_; (with_reducible refine (impl_within.calls a0_3 (-128) 127 t509 _ A2.out).mono ?_); rintro e w' ⟨rfl, ⟨nd, rfl⟩⟩; refine ⟨_, rfl, ?_⟩) | ((with_reducible refine gate_callee (f := 20) rfl ?_); refine gl 12 Tryz.func20 #[.int .i64 a0_0] ?_; (with_reducible refine (impl_kind_reckons.calls a0_0 false _ A3.out).mono ?_); rintro e w' ⟨rfl, ⟨nd, rfl⟩⟩; refine ⟨_, rfl, ?_⟩) | ((with_reducible refine gate_callee (f := 23) rfl ?_); refine gl 32 Tryz.func23 #[.int .i64 a0_0] ?_; (with_reducible refine (impl_kind_asks.calls a0_0 false _ A23.out).mono ?_); rintro e w' ⟨rfl, ⟨nd, rfl⟩⟩; refine ⟨_, rfl, ?_⟩) | ((with_reducible refine gate_callee (f := 19) rfl ?_); refine gl 110 Tryz.func19 #[.int .i64 a0_4, .int .i64 1, .int .i64 6] ?_; (with_reducible refine (impl_within.calls a0_4 1 6 true _ A86.out).mono ?_); rintro e w' ⟨rfl, ⟨nd, rfl⟩⟩; refine ⟨_, rfl, ?_⟩))
        go_ret
        exact ⟨zR, zB⟩
       ·replace c87 := Bool.eq_false_iff.mpr c87
        subst c87
        rw [if_neg (show ¬ (false = true) by decide)] at H
        obtain rfl := Option.some.inj H
        go_enter Tryz.func10, Tryz.ntmps10
        go_wp2_with (first | ((with_reducible refine gate_dst (N := 1) rfl ?_); refine be 1 #[.int .i64 a0_0, .int .i64 a0_1, .int .i64 a0_2, .int .i64 a0_3, .int .i64 a0_4, .int .i64 a0_5] 24 ?_; intro gb508 hg w90 hbox hb; have BK508 := Aside0.mk hbox; have GW508 := zW hg; replace HB := zS hb; have GE508 := GW508; clear hb hbox hg; obtain ⟨_, _, _, _, _, _, _, _, _, _, _, _⟩ := zc6 BK508) | ((with_reducible refine gate_callee (f := 19) rfl ?_); refine gl 7 Tryz.func19 #[.int .i64 a0_3, .int .i64 (-128), .int .i64 127] ?_; (with_reducible refine (impl_within.calls a0_3 (-128) 127 t509 _ A2.out).mono ?_); rintro e w' ⟨rfl, ⟨nd, rfl⟩⟩; refine ⟨_, rfl, ?_⟩) | ((with_reducible refine gate_callee (f := 20) rfl ?_); refine gl 12 Tryz.func20 #[.int .i64 a0_0] ?_; (with_reducible refine (impl_kind_reckons.calls a0_0 false _ A3.out).mono ?_); rintro e w' ⟨rfl, ⟨nd, rfl⟩⟩; refine ⟨_, rfl, ?_⟩) | ((with_reducible refine gate_callee (f := 23) rfl ?_); refine gl 32 Tryz.func23 #[.int .i64 a0_0] ?_; (with_reducible refine (impl_kind_asks.calls a0_0 false _ A23.out).mono ?_); rintro e w' ⟨rfl, ⟨nd, rfl⟩⟩; refine ⟨_, rfl, ?_⟩) | ((with_reducible refine gate_callee (f := 19) rfl ?_); refine gl 110 Tryz.func19 #[.int .i64 a0_4, .int .i64 1, .int .i64 6] ?_; (with_reducible refine (impl_within.calls a0_4 1 6 false _ A86.out).mono ?_); rintro e w' ⟨rfl, ⟨nd, rfl⟩⟩; refine ⟨_, rfl, ?_⟩))
        go_ret
        exact ⟨zR, zB⟩
      ·rw [if_neg c85] at H
       have c85b0 : (a0_0 == 19) = false := beq_eq_false_iff_ne.mpr c85
       have c85b1 : (a0_0 != 19) = true := bne_iff_ne.mpr c85
       obtain rfl := Option.some.inj H
       go_enter Tryz.func10, Tryz.ntmps10
       go_wp2_with (first | ((with_reducible refine gate_dst (N := 1) rfl ?_); refine be 1 #[.int .i64 a0_0, .int .i64 a0_1, .int .i64 a0_2, .int .i64 a0_3, .int .i64 a0_4, .int .i64 a0_5] 24 ?_; intro gb508 hg w92 hbox hb; have BK508 := Aside0.mk hbox; have GW508 := zW hg; replace HB := zS hb; have GE508 := GW508; clear hb hbox hg; obtain ⟨_, _, _, _, _, _, _, _, _, _, _, _⟩ := zc6 BK508) | ((with_reducible refine gate_callee (f := 19) rfl ?_); refine gl 7 Tryz.func19 #[.int .i64 a0_3, .int .i64 (-128), .int .i64 127] ?_; (with_reducible refine (impl_within.calls a0_3 (-128) 127 t509 _ A2.out).mono ?_); rintro e w' ⟨rfl, ⟨nd, rfl⟩⟩; refine ⟨_, rfl, ?_⟩) | ((with_reducible refine gate_callee (f := 20) rfl ?_); refine gl 12 Tryz.func20 #[.int .i64 a0_0] ?_; (with_reducible refine (impl_kind_reckons.calls a0_0 false _ A3.out).mono ?_); rintro e w' ⟨rfl, ⟨nd, rfl⟩⟩; refine ⟨_, rfl, ?_⟩) | ((with_reducible refine gate_callee (f := 23) rfl ?_); refine gl 32 Tryz.func23 #[.int .i64 a0_0] ?_; (with_reducible refine (impl_kind_asks.calls a0_0 false _ A23.out).mono ?_); rintro e w' ⟨rfl, ⟨nd, rfl⟩⟩; refine ⟨_, rfl, ?_⟩))
       go_ret
       exact ⟨zR, zB⟩
def strconv_Itoa.f (a0 : Int) : Option ByteArray := if -9223372036854775808 ≤ a0 then (if a0 ≤ 9223372036854775807 then some ⟨(Lib.itoa a0).toArray⟩ else none) else none
theorem strconv_Itoa.calls (a0 : Int) (r : ByteArray) (w : World) (h : strconv_Itoa.f a0 = some r) (zHT : Tryz.Tb w := by first | exact zHT | exact Tryz.tb_below zHT zB | exact Tryz.te_tb zHT | exact Tryz.tb_below (Tryz.te_tb zHT) zB) :
  Calls Tryz.prog 12 #[.int .i64 a0] w fun e w' => e = .returned (.string r) ∧ Below w.heap.size w w' := by
 unfold strconv_Itoa.f at h
 split at h
 ·split at h
  ·obtain rfl := Option.some.inj h
   exact Tryz.itoa a0 ‹_› ‹_› w zHT
  ·cases h
 ·cases h
def impl_opWords.L : List ByteArray := [⟨#[]⟩, ⟨#[109, 111, 118]⟩, ⟨#[97, 100, 100]⟩, ⟨#[115, 117, 98]⟩, ⟨#[109, 117, 108]⟩, ⟨#[97, 110, 100]⟩, ⟨#[111, 114]⟩, ⟨#[120, 111, 114]⟩, ⟨#[115, 104, 108]⟩, ⟨#[115, 104, 114]⟩, ⟨#[100, 105, 118]⟩, ⟨#[109, 111, 100]⟩, ⟨#[115, 97, 109, 101]⟩, ⟨#[111, 116, 104, 101, 114]⟩, ⟨#[108, 101, 115, 115]⟩, ⟨#[109, 111, 114, 101]⟩, ⟨#[103, 111]⟩, ⟨#[108, 111, 97, 100]⟩, ⟨#[115, 116, 111, 114, 101]⟩, ⟨#[99, 97, 108, 108]⟩, ⟨#[101, 120, 105, 116]⟩]
def impl_opWords.f : Option (List ByteArray) := some impl_opWords.L
set_option maxRecDepth 100000 in
theorem impl_opWords.idx (j : Int) (p : 0 ≤ j) (q : j < 21) (w : World) : (Instr.index 48 (awV impl_opWords.L) (.int .i64 j)).run Tryz.prog w = .ok (.string (rdOf ByteArray.empty impl_opWords.L j)) w := by
 have hc : j = 0 ∨ j = 1 ∨ j = 2 ∨ j = 3 ∨ j = 4 ∨ j = 5 ∨ j = 6 ∨ j = 7 ∨ j = 8 ∨ j = 9 ∨ j = 10 ∨ j = 11 ∨ j = 12 ∨ j = 13 ∨ j = 14 ∨ j = 15 ∨ j = 16 ∨ j = 17 ∨ j = 18 ∨ j = 19 ∨ j = 20 := by omega
 rcases hc with e|e|e|e|e|e|e|e|e|e|e|e|e|e|e|e|e|e|e|e|e <;> (rw [e]; rfl)
theorem impl_opWords.V : awV impl_opWords.L = .agg #[.string ⟨#[]⟩, .string ⟨#[109, 111, 118]⟩, .string ⟨#[97, 100, 100]⟩, .string ⟨#[115, 117, 98]⟩, .string ⟨#[109, 117, 108]⟩, .string ⟨#[97, 110, 100]⟩, .string ⟨#[111, 114]⟩, .string ⟨#[120, 111, 114]⟩, .string ⟨#[115, 104, 108]⟩, .string ⟨#[115, 104, 114]⟩, .string ⟨#[100, 105, 118]⟩, .string ⟨#[109, 111, 100]⟩, .string ⟨#[115, 97, 109, 101]⟩, .string ⟨#[111, 116, 104, 101, 114]⟩, .string ⟨#[108, 101, 115, 115]⟩, .string ⟨#[109, 111, 114, 101]⟩, .string ⟨#[103, 111]⟩, .string ⟨#[108, 111, 97, 100]⟩, .string ⟨#[115, 116, 111, 114, 101]⟩, .string ⟨#[99, 97, 108, 108]⟩, .string ⟨#[101, 120, 105, 116]⟩] := rfl
theorem impl_opWords.reps {w : World} {base : Nat} {ok : Nat → Prop} : ∀ l : List ByteArray, Reps (Kd.string.M w base ok) Kd.string.sz l (l.map Value.string)
 | [] => Reps.none _ _
 | x :: l => Reps.one (show Kd.M Kd.string _ _ _ x [.string x] from rfl) (impl_opWords.reps l)
set_option maxRecDepth 100000 in
/-- The words in a variable of their own. -/
theorem impl_opWords.var {ops : Array Oper} {rest : List Oper} {o o2 : Oper} {a : Act} {Q : Exit → Act → World → Prop} {W w0 : World} (base : Nat) {N M : Tmp} (hgd : o.guard = none) (hd : o.dst = some N) (ho : o.op = .alloc 48)
  (hgd2 : o2.guard = none) (hd2 : o2.dst = none) (ho2 : o2.op = .store 48 (.tmp N) (.tmp M)) (hx : ∀ v, (a.put (some N) v).eval (.tmp N) = v) (hM : ∀ v, (a.put (some N) v).eval (.tmp M) = awV impl_opWords.L) (HB : Below base w0 W) (hbase : base ≤ W.heap.size)
  (h : ∀ g v1 w1, (∀ w : World, (Instr.sliceAt 48 (.pointer (some ⟨g, 0, none⟩)) none none none).run Tryz.prog w = .ok v1 w) → Kd.string.R 48 w1 base (fun _ => True) v1 impl_opWords.L → Below base w0 w1 → W.grownBy w1 none → (∃ b, v1.ownBlock = some b ∧ W.heap.size ≤ b) → wpList Tryz.prog ops Q rest (a.put (some N) (.pointer (some ⟨g, 0, none⟩))) w1) :
  wpList Tryz.prog ops Q (o :: o2 :: rest) a W := by
 refine Kd.event_run hgd (v := .pointer (some ⟨W.heap.size, 0, none⟩)) (w1 := W.alloc (.cells (List.replicate 21 (.string ⟨#[]⟩)).toArray 48)) (by unfold execOp; rw [ho]; go_simp) ?_
 rw [hd]
 refine wpList_store_row hgd2 48 (.tmp N) (.tmp M) ho2 W.heap.size (impl_opWords.L.map Value.string).toArray (hx _) (hM _) 48 _ (heap_alloc_last _ _) (by kernel_rfl) rfl (by kernel_rfl) ?_
 rw [World.setRow_alloc_new, hd2]
 refine h W.heap.size (.slice (some ⟨W.heap.size, 0, none⟩) 21 21) _ (fun w => by go_simp) ⟨fun _ _ => trivial, impl_opWords.L.map Value.string, ?_, impl_opWords.reps _⟩ (HB.alloc hbase _) (World.grownBy_alloc W _ none) ⟨W.heap.size, by simp [Value.ownBlock], Nat.le_refl _⟩
 have h2 := World.ownsRow_lit (base := base) (e := 48) (size := 1) W (impl_opWords.L.map Value.string).toArray 21 hbase (by simp [maxLen]) (by rfl)
 exact h2
set_option maxRecDepth 100000 in
theorem impl_opWords.calls (r : List ByteArray) (w : World) (h : impl_opWords.f = some r) :
  Calls Tryz.prog 25 #[] w fun e w' => e = .returned (awV r) ∧ Below w.heap.size w w' := by
 obtain rfl := Option.some.inj h
 rw [impl_opWords.V]
 have HB := Aside0.mk (Below.refl w.heap.size w)
 go_enter Tryz.func25, Tryz.ntmps25
 go_upto_region 1 with (fail)
 rename_i hK
 apply wp_region_lit
 refine wpList_buildTo rfl 48 _ rfl (some 1) rfl #[.string ⟨#[]⟩, .string ⟨#[109, 111, 118]⟩, .string ⟨#[97, 100, 100]⟩, .string ⟨#[115, 117, 98]⟩, .string ⟨#[109, 117, 108]⟩, .string ⟨#[97, 110, 100]⟩, .string ⟨#[111, 114]⟩, .string ⟨#[120, 111, 114]⟩, .string ⟨#[115, 104, 108]⟩, .string ⟨#[115, 104, 114]⟩, .string ⟨#[100, 105, 118]⟩, .string ⟨#[109, 111, 100]⟩, .string ⟨#[115, 97, 109, 101]⟩, .string ⟨#[111, 116, 104, 101, 114]⟩, .string ⟨#[108, 101, 115, 115]⟩, .string ⟨#[109, 111, 114, 101]⟩, .string ⟨#[103, 111]⟩, .string ⟨#[108, 111, 97, 100]⟩, .string ⟨#[115, 116, 111, 114, 101]⟩, .string ⟨#[99, 97, 108, 108]⟩, .string ⟨#[101, 120, 105, 116]⟩] (by kernel_rfl) ?_
 refine wpList_store_row rfl 48 _ _ rfl w.heap.size #[.string ⟨#[]⟩, .string ⟨#[109, 111, 118]⟩, .string ⟨#[97, 100, 100]⟩, .string ⟨#[115, 117, 98]⟩, .string ⟨#[109, 117, 108]⟩, .string ⟨#[97, 110, 100]⟩, .string ⟨#[111, 114]⟩, .string ⟨#[120, 111, 114]⟩, .string ⟨#[115, 104, 108]⟩, .string ⟨#[115, 104, 114]⟩, .string ⟨#[100, 105, 118]⟩, .string ⟨#[109, 111, 100]⟩, .string ⟨#[115, 97, 109, 101]⟩, .string ⟨#[111, 116, 104, 101, 114]⟩, .string ⟨#[108, 101, 115, 115]⟩, .string ⟨#[109, 111, 114, 101]⟩, .string ⟨#[103, 111]⟩, .string ⟨#[108, 111, 97, 100]⟩, .string ⟨#[115, 116, 111, 114, 101]⟩, .string ⟨#[99, 97, 108, 108]⟩, .string ⟨#[101, 120, 105, 116]⟩] rfl rfl 48 _ (heap_alloc_last _ _) (by kernel_rfl) rfl (by kernel_rfl) ?_
 rw [World.setRow_alloc_new]
 apply wpList_nil
 refine hK _ _ ?_
 go_wp2
 refine bodyPost_ret (results_cell_row rfl _ _ w.heap.size 48 _ (0, 0) _ rfl (heap_alloc_new _ _) Tryz.underlying48 rfl (by kernel_rfl)) rfl ?_
 exact ⟨rfl, zB⟩
def impl_reg.f (a0 : Int) : Option (ByteArray) := (strconv_Itoa.f a0).bind fun t523 => (if 1 + t523.size ≤ 9223372036854775807 then (some ((⟨#[114]⟩ : ByteArray) ++ t523)) else (none))
set_option maxHeartbeats 8000000 in
set_option maxRecDepth 100000 in
theorem impl_reg.calls (a0 : Int) (r : ByteArray) (w : World) (h : impl_reg.f a0 = some r) (zHT : Tryz.Tb w := by first | exact zHT | exact Tryz.tb_below zHT zB | exact Tryz.te_tb zHT | exact Tryz.tb_below (Tryz.te_tb zHT) zB) :
  Calls Tryz.prog 26 #[.int .i64 a0] w fun e w' => e = .returned (.string r) ∧ Below w.heap.size w w' := by
 have HB := Aside0.mk (Below.refl w.heap.size w)
 have H := h
 clear h
 unfold impl_reg.f at H
 replace H := oA H
 obtain ⟨t523, A2, H⟩ := H
 try dsimp only at H
 by_cases c3 : 1 + t523.size ≤ 9223372036854775807
 ·rw [if_pos c3] at H
  have c3b0 := eq_true c3
  have c3b1 : decide (1 + t523.size ≤ 9223372036854775807) = true := decide_eq_true c3
  try have c3b2 : (9223372036854775807 < 1 + t523.size) = False := eq_false (Nat.not_lt.2 c3)
  obtain rfl := Option.some.inj H
  go_enter Tryz.func26, Tryz.ntmps26
  go_wp2_with (first | ((with_reducible refine gate_callee (f := 12) rfl ?_); refine gl 4 Tryz.func12 #[.int .i64 a0] ?_; (with_reducible refine (strconv_Itoa.calls a0 t523 _ A2.out).mono ?_); rintro e w4 ⟨rfl, hb⟩; refine ⟨_, rfl, ?_⟩; replace HB := zS hb; try clear hb))
  go_ret
  exact ⟨zR, zB⟩
 ·exact absurd H (nN c3)
def impl_Ins_value.f (a0_0 a0_1 : Int) (a0_2 a0_3 : Int) (a0_4 a0_5 : Int) : Option (ByteArray) := if a0_2 = (-1) then ((strconv_Itoa.f a0_4).bind fun t525 => (some t525)) else ((impl_reg.f a0_2).bind fun t526 => (some t526))
set_option maxHeartbeats 8000000 in
set_option maxRecDepth 100000 in
theorem impl_Ins_value.calls (a0_0 a0_1 : Int) (a0_2 a0_3 : Int) (a0_4 a0_5 : Int) (r : ByteArray) (w : World) (h : impl_Ins_value.f a0_0 a0_1 a0_2 a0_3 a0_4 a0_5 = some r) (zHT : Tryz.Tb w := by first | exact zHT | exact Tryz.tb_below zHT zB | exact Tryz.te_tb zHT | exact Tryz.tb_below (Tryz.te_tb zHT) zB) :
  Calls Tryz.prog 27 #[.agg #[.int .i64 a0_0, .int .i64 a0_1, .int .i64 a0_2, .int .i64 a0_3, .int .i64 a0_4, .int .i64 a0_5]] w fun e w' => e = .returned (.string r) ∧ Below w.heap.size w w' := by
 have hu24 := Tryz.underlying24
 have HB := Aside0.mk (Below.refl w.heap.size w)
 have H := h
 clear h
 unfold impl_Ins_value.f at H
 by_cases c2 : a0_2 = (-1)
 ·rw [if_pos c2] at H
  have c2b0 : (a0_2 == (-1)) = true := beq_iff_eq.mpr c2
  have c2b1 : (a0_2 != (-1)) = false := bne_eq_false_iff_eq.mpr c2
  clear c2
  replace H := oA H
  obtain ⟨t525, A3, H⟩ := H
  try dsimp only at H
  obtain rfl := Option.some.inj H
  go_enter Tryz.func27, Tryz.ntmps27
  go_wp2_with (first | ((with_reducible refine gate_dst (N := 1) rfl ?_); refine be 1 #[.int .i64 a0_0, .int .i64 a0_1, .int .i64 a0_2, .int .i64 a0_3, .int .i64 a0_4, .int .i64 a0_5] 24 ?_; intro gb524 hg w4 hbox hb; have BK524 := Aside0.mk hbox; have GW524 := zW hg; replace HB := zS hb; have GE524 := GW524; clear hb hbox hg; obtain ⟨_, _, _, _, _, _, _, _, _, _, _, _⟩ := zc6 BK524) | ((with_reducible refine gate_callee (f := 12) rfl ?_); refine gl 8 Tryz.func12 #[.int .i64 a0_4] ?_; (with_reducible refine (strconv_Itoa.calls a0_4 t525 _ A3.out).mono ?_); rintro e w6 ⟨rfl, hb⟩; refine ⟨_, rfl, ?_⟩; replace BK524 := zb BK524 hb rfl; replace HB := zS hb; try clear hb))
  go_ret
  exact ⟨zR, zB⟩
 ·rw [if_neg c2] at H
  have c2b0 : (a0_2 == (-1)) = false := beq_eq_false_iff_ne.mpr c2
  have c2b1 : (a0_2 != (-1)) = true := bne_iff_ne.mpr c2
  replace H := oA H
  obtain ⟨t526, A7, H⟩ := H
  try dsimp only at H
  obtain rfl := Option.some.inj H
  go_enter Tryz.func27, Tryz.ntmps27
  go_wp2_with (first | ((with_reducible refine gate_dst (N := 1) rfl ?_); refine be 1 #[.int .i64 a0_0, .int .i64 a0_1, .int .i64 a0_2, .int .i64 a0_3, .int .i64 a0_4, .int .i64 a0_5] 24 ?_; intro gb524 hg w8 hbox hb; have BK524 := Aside0.mk hbox; have GW524 := zW hg; replace HB := zS hb; have GE524 := GW524; clear hb hbox hg; obtain ⟨_, _, _, _, _, _, _, _, _, _, _, _⟩ := zc6 BK524) | ((with_reducible refine gate_callee (f := 26) rfl ?_); refine gl 11 Tryz.func26 #[.int .i64 a0_2] ?_; (with_reducible refine (impl_reg.calls a0_2 t526 _ A7.out).mono ?_); rintro e w10 ⟨rfl, hb⟩; refine ⟨_, rfl, ?_⟩; replace BK524 := zb BK524 hb rfl; replace HB := zS hb; try clear hb))
  go_ret
  exact ⟨zR, zB⟩
end Go.Proofs.YtllmbooicobmkaaGreatDoor.Q
