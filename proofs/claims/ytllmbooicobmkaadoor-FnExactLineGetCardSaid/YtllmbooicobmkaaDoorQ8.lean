/- The machine's side of this seat's laws: Go functions as Lean functions, and their contracts. By a program of this work over the kit's print. -/
import Derived.Test.YtllmbooicobmkaaDoorQ0
import Derived.Test.YtllmbooicobmkaaDoorQ1
import Derived.Test.YtllmbooicobmkaaDoorQ7
namespace Go.Proofs.YtllmbooicobmkaaDoor.Q
open Go.RowKit Go.Proofs.YtllmbooicobmkaaDoorW.PrintWords Go.Proofs.YtllmbooicobmkaaDoorW.PrintLast Go.Proofs.YtllmbooicobmkaaDoorW.PrintMore
attribute [local go_sem] max2_int min2_int max_two min_two max_three min_three max_four min_four Go.Proofs.YtllmbooicobmkaaDoorN.not_i64 Go.Proofs.YtllmbooicobmkaaDoorN.isSome_setCell   -- for this text's walks alone
set_option linter.unusedVariables false
set_option linter.unusedSimpArgs false

attribute [local go_sem high] eqA23
/-! ### impl_InsOk: function 17 -/
def impl_InsOk.f (a0_0 : Int) (a0_1 : Int) (a0_2 : Int) (a0_3 : Int) (a0_4 : Int) (a0_5 : Int) : Option (Bool) := (impl_within.f a0_3 (-128) 127).bind fun t238 => ((impl_kind_reckons.f a0_0).bind fun t239 => (if t239 = true then ((impl_regOk.f a0_1).bind fun t240 => (if t240 = true then ((impl_Ins_either.f a0_0 a0_1 a0_2 a0_3 a0_4 a0_5).bind fun t241 => (if t241 = true then (if a0_3 = 0 then (some (a0_5 == 0)) else (some false)) else (some false))) else (some false))) else ((impl_kind_asks.f a0_0).bind fun t242 => (if t242 = true then ((impl_regOk.f a0_1).bind fun t243 => (if t243 = true then ((impl_Ins_either.f a0_0 a0_1 a0_2 a0_3 a0_4 a0_5).bind fun t244 => (if t244 = true then (if t238 = true then (some (a0_5 == 0)) else (some false)) else (some false))) else (some false))) else (if a0_0 = 16 then (if t238 = true then (some (a0_0 == 16 && (a0_1 == 0 && (a0_2 == (-1) && (a0_4 == 0 && (a0_5 == 0)))))) else (some false)) else (if a0_0 = 17 then ((impl_regOk.f a0_1).bind fun t245 => (if t245 = true then ((impl_regOk.f a0_2).bind fun t246 => (if t246 = true then (if a0_4 = 0 then (if t238 = true then ((impl_sizeOk.f a0_5).bind fun t247 => (some t247)) else (some false)) else (some false)) else (some false))) else (some false))) else (if a0_0 = 18 then ((impl_regOk.f a0_1).bind fun t248 => (if t248 = true then ((impl_Ins_either.f a0_0 a0_1 a0_2 a0_3 a0_4 a0_5).bind fun t249 => (if t249 = true then (if t238 = true then ((impl_sizeOk.f a0_5).bind fun t250 => (some t250)) else (some false)) else (some false))) else (some false))) else (if a0_0 = 19 then ((impl_within.f a0_4 1 6).bind fun t251 => (if t251 = true then (some (a0_0 == 19 && (a0_1 == 0 && (a0_2 == (-1) && (a0_3 == 0 && (a0_5 == 0)))))) else (some false))) else (some (a0_0 == 20 && (a0_1 == 0 && (a0_2 == (-1) && (a0_3 == 0 && (a0_4 == 0 && (a0_5 == 0)))))))))))))))
set_option maxHeartbeats 8000000 in
set_option maxRecDepth 100000 in
theorem impl_InsOk.calls (a0_0 : Int) (a0_1 : Int) (a0_2 : Int) (a0_3 : Int) (a0_4 : Int) (a0_5 : Int) (r : Bool) (w : World) (h : impl_InsOk.f a0_0 a0_1 a0_2 a0_3 a0_4 a0_5 = some r) :
  Calls Tryd.prog 17 #[.agg #[.int .i64 a0_0, .int .i64 a0_1, .int .i64 a0_2, .int .i64 a0_3, .int .i64 a0_4, .int .i64 a0_5]] w fun e w' => e = .returned (.bool r) ∧ Below w.heap.size w w' := by
 have hu23 := Tryd.underlying23
 have HB := Aside0.mk (Below.refl w.heap.size w)
 have H : ((impl_within.f a0_3 (-128) 127).bind fun t238 => ((impl_kind_reckons.f a0_0).bind fun t239 => (if t239 = true then ((impl_regOk.f a0_1).bind fun t240 => (if t240 = true then ((impl_Ins_either.f a0_0 a0_1 a0_2 a0_3 a0_4 a0_5).bind fun t241 => (if t241 = true then (if a0_3 = 0 then (some (a0_5 == 0)) else (some false)) else (some false))) else (some false))) else ((impl_kind_asks.f a0_0).bind fun t242 => (if t242 = true then ((impl_regOk.f a0_1).bind fun t243 => (if t243 = true then ((impl_Ins_either.f a0_0 a0_1 a0_2 a0_3 a0_4 a0_5).bind fun t244 => (if t244 = true then (if t238 = true then (some (a0_5 == 0)) else (some false)) else (some false))) else (some false))) else (if a0_0 = 16 then (if t238 = true then (some (a0_0 == 16 && (a0_1 == 0 && (a0_2 == (-1) && (a0_4 == 0 && (a0_5 == 0)))))) else (some false)) else (if a0_0 = 17 then ((impl_regOk.f a0_1).bind fun t245 => (if t245 = true then ((impl_regOk.f a0_2).bind fun t246 => (if t246 = true then (if a0_4 = 0 then (if t238 = true then ((impl_sizeOk.f a0_5).bind fun t247 => (some t247)) else (some false)) else (some false)) else (some false))) else (some false))) else (if a0_0 = 18 then ((impl_regOk.f a0_1).bind fun t248 => (if t248 = true then ((impl_Ins_either.f a0_0 a0_1 a0_2 a0_3 a0_4 a0_5).bind fun t249 => (if t249 = true then (if t238 = true then ((impl_sizeOk.f a0_5).bind fun t250 => (some t250)) else (some false)) else (some false))) else (some false))) else (if a0_0 = 19 then ((impl_within.f a0_4 1 6).bind fun t251 => (if t251 = true then (some (a0_0 == 19 && (a0_1 == 0 && (a0_2 == (-1) && (a0_3 == 0 && (a0_5 == 0)))))) else (some false))) else (some (a0_0 == 20 && (a0_1 == 0 && (a0_2 == (-1) && (a0_3 == 0 && (a0_4 == 0 && (a0_5 == 0)))))))))))))))) = some r := h
 clear h
 replace H := Option.bind_eq_some_iff.mp H
 obtain ⟨t238, A20, H⟩ := H
 try dsimp only at H
 have A2 := Aside0.mk A20
 clear A20
 replace H := Option.bind_eq_some_iff.mp H
 obtain ⟨t239, A30, H⟩ := H
 try dsimp only at H
 have A3 := Aside0.mk A30
 clear A30
 by_cases c4 : t239 = true
 ·subst c4
  rw [if_pos rfl] at H
  replace H := Option.bind_eq_some_iff.mp H
  obtain ⟨t240, A50, H⟩ := H
  try dsimp only at H
  have A5 := Aside0.mk A50
  clear A50
  by_cases c6 : t240 = true
  ·subst c6
   rw [if_pos rfl] at H
   replace H := Option.bind_eq_some_iff.mp H
   obtain ⟨t241, A70, H⟩ := H
   try dsimp only at H
   have A7 := Aside0.mk A70
   clear A70
   by_cases c8 : t241 = true
   ·subst c8
    rw [if_pos rfl] at H
    by_cases c9 : a0_3 = 0
    ·rw [if_pos c9] at H
     have c9b0 : (a0_3 == 0) = true := beq_iff_eq.mpr c9
     have c9b1 : (a0_3 != 0) = false := bne_eq_false_iff_eq.mpr c9
     clear c9
     obtain rfl := Option.some.inj H
     go_enter Tryd.func17, Tryd.ntmps17
     go_wp2_with (first | ((with_reducible refine gate_dst (N := 1) rfl ?_); refine be 1 #[.int .i64 a0_0, .int .i64 a0_1, .int .i64 a0_2, .int .i64 a0_3, .int .i64 a0_4, .int .i64 a0_5] 23 ?_; intro gb237 hg w10 hbox hb; have BK237 := Aside0.mk hbox; have GW237 := zW hg; replace HB := zS hb; have GE237 := GW237; clear hb hbox hg; obtain ⟨hcz11_0, hcz11_1, hcz11_2, hcz11_3, hcz11_4, hcz11_5, hfz11_0, hfz11_1, hfz11_2, hfz11_3, hfz11_4, hfz11_5⟩ := zc6 BK237) | ((with_reducible refine gate_callee (f := 40) rfl ?_); refine gl 7 Tryd.func40 #[.int .i64 a0_3, .int .i64 (-128), .int .i64 127] ?_; (with_reducible refine (impl_within.calls a0_3 (-128) 127 t238 _ A2.out).mono ?_); rintro e w' ⟨rfl, ⟨nd, rfl⟩⟩; refine ⟨_, rfl, ?_⟩) | ((with_reducible refine gate_callee (f := 33) rfl ?_); refine gl 12 Tryd.func33 #[.int .i64 a0_0] ?_; (with_reducible refine (impl_kind_reckons.calls a0_0 true _ A3.out).mono ?_); rintro e w' ⟨rfl, ⟨nd, rfl⟩⟩; refine ⟨_, rfl, ?_⟩) | ((with_reducible refine gate_callee (f := 41) rfl ?_); refine gl 15 Tryd.func41 #[.int .i64 a0_1] ?_; (with_reducible refine (impl_regOk.calls a0_1 true _ A5.out).mono ?_); rintro e w' ⟨rfl, ⟨nd, rfl⟩⟩; refine ⟨_, rfl, ?_⟩) | (go_at_call 42; (with_reducible refine (impl_Ins_either.calls a0_0 a0_1 a0_2 a0_3 a0_4 a0_5 true _ A7.out).mono ?_); rintro e w12 ⟨rfl, hb⟩; replace BK237 := zb BK237 hb rfl; replace HB := zS hb; try clear hb; obtain ⟨hcz13_0, hcz13_1, hcz13_2, hcz13_3, hcz13_4, hcz13_5, hfz13_0, hfz13_1, hfz13_2, hfz13_3, hfz13_4, hfz13_5⟩ := zc6 BK237))
     go_ret
     exact ⟨zR, zB⟩
    ·rw [if_neg c9] at H
     have c9b0 : (a0_3 == 0) = false := beq_eq_false_iff_ne.mpr c9
     have c9b1 : (a0_3 != 0) = true := bne_iff_ne.mpr c9
     obtain rfl := Option.some.inj H
     go_enter Tryd.func17, Tryd.ntmps17
     go_wp2_with (first | ((with_reducible refine gate_dst (N := 1) rfl ?_); refine be 1 #[.int .i64 a0_0, .int .i64 a0_1, .int .i64 a0_2, .int .i64 a0_3, .int .i64 a0_4, .int .i64 a0_5] 23 ?_; intro gb237 hg w14 hbox hb; have BK237 := Aside0.mk hbox; have GW237 := zW hg; replace HB := zS hb; have GE237 := GW237; clear hb hbox hg; obtain ⟨hcz15_0, hcz15_1, hcz15_2, hcz15_3, hcz15_4, hcz15_5, hfz15_0, hfz15_1, hfz15_2, hfz15_3, hfz15_4, hfz15_5⟩ := zc6 BK237) | ((with_reducible refine gate_callee (f := 40) rfl ?_); refine gl 7 Tryd.func40 #[.int .i64 a0_3, .int .i64 (-128), .int .i64 127] ?_; (with_reducible refine (impl_within.calls a0_3 (-128) 127 t238 _ A2.out).mono ?_); rintro e w' ⟨rfl, ⟨nd, rfl⟩⟩; refine ⟨_, rfl, ?_⟩) | ((with_reducible refine gate_callee (f := 33) rfl ?_); refine gl 12 Tryd.func33 #[.int .i64 a0_0] ?_; (with_reducible refine (impl_kind_reckons.calls a0_0 true _ A3.out).mono ?_); rintro e w' ⟨rfl, ⟨nd, rfl⟩⟩; refine ⟨_, rfl, ?_⟩) | ((with_reducible refine gate_callee (f := 41) rfl ?_); refine gl 15 Tryd.func41 #[.int .i64 a0_1] ?_; (with_reducible refine (impl_regOk.calls a0_1 true _ A5.out).mono ?_); rintro e w' ⟨rfl, ⟨nd, rfl⟩⟩; refine ⟨_, rfl, ?_⟩) | (go_at_call 42; (with_reducible refine (impl_Ins_either.calls a0_0 a0_1 a0_2 a0_3 a0_4 a0_5 true _ A7.out).mono ?_); rintro e w16 ⟨rfl, hb⟩; replace BK237 := zb BK237 hb rfl; replace HB := zS hb; try clear hb; obtain ⟨hcz17_0, hcz17_1, hcz17_2, hcz17_3, hcz17_4, hcz17_5, hfz17_0, hfz17_1, hfz17_2, hfz17_3, hfz17_4, hfz17_5⟩ := zc6 BK237))
     go_ret
     exact ⟨zR, zB⟩
   ·replace c8 := Bool.eq_false_iff.mpr c8
    subst c8
    rw [if_neg (show ¬ (false = true) by decide)] at H
    obtain rfl := Option.some.inj H
    go_enter Tryd.func17, Tryd.ntmps17
    go_wp2_with (first | ((with_reducible refine gate_dst (N := 1) rfl ?_); refine be 1 #[.int .i64 a0_0, .int .i64 a0_1, .int .i64 a0_2, .int .i64 a0_3, .int .i64 a0_4, .int .i64 a0_5] 23 ?_; intro gb237 hg w18 hbox hb; have BK237 := Aside0.mk hbox; have GW237 := zW hg; replace HB := zS hb; have GE237 := GW237; clear hb hbox hg; obtain ⟨hcz19_0, hcz19_1, hcz19_2, hcz19_3, hcz19_4, hcz19_5, hfz19_0, hfz19_1, hfz19_2, hfz19_3, hfz19_4, hfz19_5⟩ := zc6 BK237) | ((with_reducible refine gate_callee (f := 40) rfl ?_); refine gl 7 Tryd.func40 #[.int .i64 a0_3, .int .i64 (-128), .int .i64 127] ?_; (with_reducible refine (impl_within.calls a0_3 (-128) 127 t238 _ A2.out).mono ?_); rintro e w' ⟨rfl, ⟨nd, rfl⟩⟩; refine ⟨_, rfl, ?_⟩) | ((with_reducible refine gate_callee (f := 33) rfl ?_); refine gl 12 Tryd.func33 #[.int .i64 a0_0] ?_; (with_reducible refine (impl_kind_reckons.calls a0_0 true _ A3.out).mono ?_); rintro e w' ⟨rfl, ⟨nd, rfl⟩⟩; refine ⟨_, rfl, ?_⟩) | ((with_reducible refine gate_callee (f := 41) rfl ?_); refine gl 15 Tryd.func41 #[.int .i64 a0_1] ?_; (with_reducible refine (impl_regOk.calls a0_1 true _ A5.out).mono ?_); rintro e w' ⟨rfl, ⟨nd, rfl⟩⟩; refine ⟨_, rfl, ?_⟩) | (go_at_call 42; (with_reducible refine (impl_Ins_either.calls a0_0 a0_1 a0_2 a0_3 a0_4 a0_5 false _ A7.out).mono ?_); rintro e w20 ⟨rfl, hb⟩; replace BK237 := zb BK237 hb rfl; replace HB := zS hb; try clear hb))
    go_ret
    exact ⟨zR, zB⟩
  ·replace c6 := Bool.eq_false_iff.mpr c6
   subst c6
   rw [if_neg (show ¬ (false = true) by decide)] at H
   obtain rfl := Option.some.inj H
   go_enter Tryd.func17, Tryd.ntmps17
   go_wp2_with (first | ((with_reducible refine gate_dst (N := 1) rfl ?_); refine be 1 #[.int .i64 a0_0, .int .i64 a0_1, .int .i64 a0_2, .int .i64 a0_3, .int .i64 a0_4, .int .i64 a0_5] 23 ?_; intro gb237 hg w21 hbox hb; have BK237 := Aside0.mk hbox; have GW237 := zW hg; replace HB := zS hb; have GE237 := GW237; clear hb hbox hg; obtain ⟨hcz22_0, hcz22_1, hcz22_2, hcz22_3, hcz22_4, hcz22_5, hfz22_0, hfz22_1, hfz22_2, hfz22_3, hfz22_4, hfz22_5⟩ := zc6 BK237) | ((with_reducible refine gate_callee (f := 40) rfl ?_); refine gl 7 Tryd.func40 #[.int .i64 a0_3, .int .i64 (-128), .int .i64 127] ?_; (with_reducible refine (impl_within.calls a0_3 (-128) 127 t238 _ A2.out).mono ?_); rintro e w' ⟨rfl, ⟨nd, rfl⟩⟩; refine ⟨_, rfl, ?_⟩) | ((with_reducible refine gate_callee (f := 33) rfl ?_); refine gl 12 Tryd.func33 #[.int .i64 a0_0] ?_; (with_reducible refine (impl_kind_reckons.calls a0_0 true _ A3.out).mono ?_); rintro e w' ⟨rfl, ⟨nd, rfl⟩⟩; refine ⟨_, rfl, ?_⟩) | ((with_reducible refine gate_callee (f := 41) rfl ?_); refine gl 15 Tryd.func41 #[.int .i64 a0_1] ?_; (with_reducible refine (impl_regOk.calls a0_1 false _ A5.out).mono ?_); rintro e w' ⟨rfl, ⟨nd, rfl⟩⟩; refine ⟨_, rfl, ?_⟩))
   go_ret
   exact ⟨zR, zB⟩
 ·replace c4 := Bool.eq_false_iff.mpr c4
  subst c4
  rw [if_neg (show ¬ (false = true) by decide)] at H
  replace H := Option.bind_eq_some_iff.mp H
  obtain ⟨t242, A230, H⟩ := H
  try dsimp only at H
  have A23 := Aside0.mk A230
  clear A230
  by_cases c24 : t242 = true
  ·subst c24
   rw [if_pos rfl] at H
   replace H := Option.bind_eq_some_iff.mp H
   obtain ⟨t243, A250, H⟩ := H
   try dsimp only at H
   have A25 := Aside0.mk A250
   clear A250
   by_cases c26 : t243 = true
   ·subst c26
    rw [if_pos rfl] at H
    replace H := Option.bind_eq_some_iff.mp H
    obtain ⟨t244, A270, H⟩ := H
    try dsimp only at H
    have A27 := Aside0.mk A270
    clear A270
    by_cases c28 : t244 = true
    ·subst c28
     rw [if_pos rfl] at H
     by_cases c29 : t238 = true
     ·subst c29
      rw [if_pos rfl] at H
      obtain rfl := Option.some.inj H
      go_enter Tryd.func17, Tryd.ntmps17
      go_wp2_with (first | ((with_reducible refine gate_dst (N := 1) rfl ?_); refine be 1 #[.int .i64 a0_0, .int .i64 a0_1, .int .i64 a0_2, .int .i64 a0_3, .int .i64 a0_4, .int .i64 a0_5] 23 ?_; intro gb237 hg w30 hbox hb; have BK237 := Aside0.mk hbox; have GW237 := zW hg; replace HB := zS hb; have GE237 := GW237; clear hb hbox hg; obtain ⟨hcz31_0, hcz31_1, hcz31_2, hcz31_3, hcz31_4, hcz31_5, hfz31_0, hfz31_1, hfz31_2, hfz31_3, hfz31_4, hfz31_5⟩ := zc6 BK237) | ((with_reducible refine gate_callee (f := 40) rfl ?_); refine gl 7 Tryd.func40 #[.int .i64 a0_3, .int .i64 (-128), .int .i64 127] ?_; (with_reducible refine (impl_within.calls a0_3 (-128) 127 true _ A2.out).mono ?_); rintro e w' ⟨rfl, ⟨nd, rfl⟩⟩; refine ⟨_, rfl, ?_⟩) | ((with_reducible refine gate_callee (f := 33) rfl ?_); refine gl 12 Tryd.func33 #[.int .i64 a0_0] ?_; (with_reducible refine (impl_kind_reckons.calls a0_0 false _ A3.out).mono ?_); rintro e w' ⟨rfl, ⟨nd, rfl⟩⟩; refine ⟨_, rfl, ?_⟩) | ((with_reducible refine gate_callee (f := 34) rfl ?_); refine gl 32 Tryd.func34 #[.int .i64 a0_0] ?_; (with_reducible refine (impl_kind_asks.calls a0_0 true _ A23.out).mono ?_); rintro e w' ⟨rfl, ⟨nd, rfl⟩⟩; refine ⟨_, rfl, ?_⟩) | ((with_reducible refine gate_callee (f := 41) rfl ?_); refine gl 35 Tryd.func41 #[.int .i64 a0_1] ?_; (with_reducible refine (impl_regOk.calls a0_1 true _ A25.out).mono ?_); rintro e w' ⟨rfl, ⟨nd, rfl⟩⟩; refine ⟨_, rfl, ?_⟩) | (go_at_call 42; (with_reducible refine (impl_Ins_either.calls a0_0 a0_1 a0_2 a0_3 a0_4 a0_5 true _ A27.out).mono ?_); rintro e w32 ⟨rfl, hb⟩; replace BK237 := zb BK237 hb rfl; replace HB := zS hb; try clear hb; obtain ⟨hcz33_0, hcz33_1, hcz33_2, hcz33_3, hcz33_4, hcz33_5, hfz33_0, hfz33_1, hfz33_2, hfz33_3, hfz33_4, hfz33_5⟩ := zc6 BK237))
      go_ret
      exact ⟨zR, zB⟩
     ·replace c29 := Bool.eq_false_iff.mpr c29
      subst c29
      rw [if_neg (show ¬ (false = true) by decide)] at H
      obtain rfl := Option.some.inj H
      go_enter Tryd.func17, Tryd.ntmps17
      go_wp2_with (first | ((with_reducible refine gate_dst (N := 1) rfl ?_); refine be 1 #[.int .i64 a0_0, .int .i64 a0_1, .int .i64 a0_2, .int .i64 a0_3, .int .i64 a0_4, .int .i64 a0_5] 23 ?_; intro gb237 hg w34 hbox hb; have BK237 := Aside0.mk hbox; have GW237 := zW hg; replace HB := zS hb; have GE237 := GW237; clear hb hbox hg; obtain ⟨hcz35_0, hcz35_1, hcz35_2, hcz35_3, hcz35_4, hcz35_5, hfz35_0, hfz35_1, hfz35_2, hfz35_3, hfz35_4, hfz35_5⟩ := zc6 BK237) | ((with_reducible refine gate_callee (f := 40) rfl ?_); refine gl 7 Tryd.func40 #[.int .i64 a0_3, .int .i64 (-128), .int .i64 127] ?_; (with_reducible refine (impl_within.calls a0_3 (-128) 127 false _ A2.out).mono ?_); rintro e w' ⟨rfl, ⟨nd, rfl⟩⟩; refine ⟨_, rfl, ?_⟩) | ((with_reducible refine gate_callee (f := 33) rfl ?_); refine gl 12 Tryd.func33 #[.int .i64 a0_0] ?_; (with_reducible refine (impl_kind_reckons.calls a0_0 false _ A3.out).mono ?_); rintro e w' ⟨rfl, ⟨nd, rfl⟩⟩; refine ⟨_, rfl, ?_⟩) | ((with_reducible refine gate_callee (f := 34) rfl ?_); refine gl 32 Tryd.func34 #[.int .i64 a0_0] ?_; (with_reducible refine (impl_kind_asks.calls a0_0 true _ A23.out).mono ?_); rintro e w' ⟨rfl, ⟨nd, rfl⟩⟩; refine ⟨_, rfl, ?_⟩) | ((with_reducible refine gate_callee (f := 41) rfl ?_); refine gl 35 Tryd.func41 #[.int .i64 a0_1] ?_; (with_reducible refine (impl_regOk.calls a0_1 true _ A25.out).mono ?_); rintro e w' ⟨rfl, ⟨nd, rfl⟩⟩; refine ⟨_, rfl, ?_⟩) | (go_at_call 42; (with_reducible refine (impl_Ins_either.calls a0_0 a0_1 a0_2 a0_3 a0_4 a0_5 true _ A27.out).mono ?_); rintro e w36 ⟨rfl, hb⟩; replace BK237 := zb BK237 hb rfl; replace HB := zS hb; try clear hb))
      go_ret
      exact ⟨zR, zB⟩
    ·replace c28 := Bool.eq_false_iff.mpr c28
     subst c28
     rw [if_neg (show ¬ (false = true) by decide)] at H
     obtain rfl := Option.some.inj H
     go_enter Tryd.func17, Tryd.ntmps17
     go_wp2_with (first | ((with_reducible refine gate_dst (N := 1) rfl ?_); refine be 1 #[.int .i64 a0_0, .int .i64 a0_1, .int .i64 a0_2, .int .i64 a0_3, .int .i64 a0_4, .int .i64 a0_5] 23 ?_; intro gb237 hg w37 hbox hb; have BK237 := Aside0.mk hbox; have GW237 := zW hg; replace HB := zS hb; have GE237 := GW237; clear hb hbox hg; obtain ⟨hcz38_0, hcz38_1, hcz38_2, hcz38_3, hcz38_4, hcz38_5, hfz38_0, hfz38_1, hfz38_2, hfz38_3, hfz38_4, hfz38_5⟩ := zc6 BK237) | ((with_reducible refine gate_callee (f := 40) rfl ?_); refine gl 7 Tryd.func40 #[.int .i64 a0_3, .int .i64 (-128), .int .i64 127] ?_; (with_reducible refine (impl_within.calls a0_3 (-128) 127 t238 _ A2.out).mono ?_); rintro e w' ⟨rfl, ⟨nd, rfl⟩⟩; refine ⟨_, rfl, ?_⟩) | ((with_reducible refine gate_callee (f := 33) rfl ?_); refine gl 12 Tryd.func33 #[.int .i64 a0_0] ?_; (with_reducible refine (impl_kind_reckons.calls a0_0 false _ A3.out).mono ?_); rintro e w' ⟨rfl, ⟨nd, rfl⟩⟩; refine ⟨_, rfl, ?_⟩) | ((with_reducible refine gate_callee (f := 34) rfl ?_); refine gl 32 Tryd.func34 #[.int .i64 a0_0] ?_; (with_reducible refine (impl_kind_asks.calls a0_0 true _ A23.out).mono ?_); rintro e w' ⟨rfl, ⟨nd, rfl⟩⟩; refine ⟨_, rfl, ?_⟩) | ((with_reducible refine gate_callee (f := 41) rfl ?_); refine gl 35 Tryd.func41 #[.int .i64 a0_1] ?_; (with_reducible refine (impl_regOk.calls a0_1 true _ A25.out).mono ?_); rintro e w' ⟨rfl, ⟨nd, rfl⟩⟩; refine ⟨_, rfl, ?_⟩) | (go_at_call 42; (with_reducible refine (impl_Ins_either.calls a0_0 a0_1 a0_2 a0_3 a0_4 a0_5 false _ A27.out).mono ?_); rintro e w39 ⟨rfl, hb⟩; replace BK237 := zb BK237 hb rfl; replace HB := zS hb; try clear hb))
     go_ret
     exact ⟨zR, zB⟩
   ·replace c26 := Bool.eq_false_iff.mpr c26
    subst c26
    rw [if_neg (show ¬ (false = true) by decide)] at H
    obtain rfl := Option.some.inj H
    go_enter Tryd.func17, Tryd.ntmps17
    go_wp2_with (first | ((with_reducible refine gate_dst (N := 1) rfl ?_); refine be 1 #[.int .i64 a0_0, .int .i64 a0_1, .int .i64 a0_2, .int .i64 a0_3, .int .i64 a0_4, .int .i64 a0_5] 23 ?_; intro gb237 hg w40 hbox hb; have BK237 := Aside0.mk hbox; have GW237 := zW hg; replace HB := zS hb; have GE237 := GW237; clear hb hbox hg; obtain ⟨hcz41_0, hcz41_1, hcz41_2, hcz41_3, hcz41_4, hcz41_5, hfz41_0, hfz41_1, hfz41_2, hfz41_3, hfz41_4, hfz41_5⟩ := zc6 BK237) | ((with_reducible refine gate_callee (f := 40) rfl ?_); refine gl 7 Tryd.func40 #[.int .i64 a0_3, .int .i64 (-128), .int .i64 127] ?_; (with_reducible refine (impl_within.calls a0_3 (-128) 127 t238 _ A2.out).mono ?_); rintro e w' ⟨rfl, ⟨nd, rfl⟩⟩; refine ⟨_, rfl, ?_⟩) | ((with_reducible refine gate_callee (f := 33) rfl ?_); refine gl 12 Tryd.func33 #[.int .i64 a0_0] ?_; (with_reducible refine (impl_kind_reckons.calls a0_0 false _ A3.out).mono ?_); rintro e w' ⟨rfl, ⟨nd, rfl⟩⟩; refine ⟨_, rfl, ?_⟩) | ((with_reducible refine gate_callee (f := 34) rfl ?_); refine gl 32 Tryd.func34 #[.int .i64 a0_0] ?_; (with_reducible refine (impl_kind_asks.calls a0_0 true _ A23.out).mono ?_); rintro e w' ⟨rfl, ⟨nd, rfl⟩⟩; refine ⟨_, rfl, ?_⟩) | ((with_reducible refine gate_callee (f := 41) rfl ?_); refine gl 35 Tryd.func41 #[.int .i64 a0_1] ?_; (with_reducible refine (impl_regOk.calls a0_1 false _ A25.out).mono ?_); rintro e w' ⟨rfl, ⟨nd, rfl⟩⟩; refine ⟨_, rfl, ?_⟩))
    go_ret
    exact ⟨zR, zB⟩
  ·replace c24 := Bool.eq_false_iff.mpr c24
   subst c24
   rw [if_neg (show ¬ (false = true) by decide)] at H
   by_cases c42 : a0_0 = 16
   ·rw [if_pos c42] at H
    have c42b0 : (a0_0 == 16) = true := beq_iff_eq.mpr c42
    have c42b1 : (a0_0 != 16) = false := bne_eq_false_iff_eq.mpr c42
    clear c42
    by_cases c43 : t238 = true
    ·subst c43
     rw [if_pos rfl] at H
     obtain rfl := Option.some.inj H
     go_enter Tryd.func17, Tryd.ntmps17
     go_wp2_with (first | ((with_reducible refine gate_dst (N := 1) rfl ?_); refine be 1 #[.int .i64 a0_0, .int .i64 a0_1, .int .i64 a0_2, .int .i64 a0_3, .int .i64 a0_4, .int .i64 a0_5] 23 ?_; intro gb237 hg w44 hbox hb; have BK237 := Aside0.mk hbox; have GW237 := zW hg; replace HB := zS hb; have GE237 := GW237; clear hb hbox hg; obtain ⟨hcz45_0, hcz45_1, hcz45_2, hcz45_3, hcz45_4, hcz45_5, hfz45_0, hfz45_1, hfz45_2, hfz45_3, hfz45_4, hfz45_5⟩ := zc6 BK237) | ((with_reducible refine gate_callee (f := 40) rfl ?_); refine gl 7 Tryd.func40 #[.int .i64 a0_3, .int .i64 (-128), .int .i64 127] ?_; (with_reducible refine (impl_within.calls a0_3 (-128) 127 true _ A2.out).mono ?_); rintro e w' ⟨rfl, ⟨nd, rfl⟩⟩; refine ⟨_, rfl, ?_⟩) | ((with_reducible refine gate_callee (f := 33) rfl ?_); refine gl 12 Tryd.func33 #[.int .i64 a0_0] ?_; (with_reducible refine (impl_kind_reckons.calls a0_0 false _ A3.out).mono ?_); rintro e w' ⟨rfl, ⟨nd, rfl⟩⟩; refine ⟨_, rfl, ?_⟩) | ((with_reducible refine gate_callee (f := 34) rfl ?_); refine gl 32 Tryd.func34 #[.int .i64 a0_0] ?_; (with_reducible refine (impl_kind_asks.calls a0_0 false _ A23.out).mono ?_); rintro e w' ⟨rfl, ⟨nd, rfl⟩⟩; refine ⟨_, rfl, ?_⟩))
     go_ret
     exact ⟨zR, zB⟩
    ·replace c43 := Bool.eq_false_iff.mpr c43
     subst c43
     rw [if_neg (show ¬ (false = true) by decide)] at H
     obtain rfl := Option.some.inj H
     go_enter Tryd.func17, Tryd.ntmps17
     go_wp2_with (first | ((with_reducible refine gate_dst (N := 1) rfl ?_); refine be 1 #[.int .i64 a0_0, .int .i64 a0_1, .int .i64 a0_2, .int .i64 a0_3, .int .i64 a0_4, .int .i64 a0_5] 23 ?_; intro gb237 hg w46 hbox hb; have BK237 := Aside0.mk hbox; have GW237 := zW hg; replace HB := zS hb; have GE237 := GW237; clear hb hbox hg; obtain ⟨hcz47_0, hcz47_1, hcz47_2, hcz47_3, hcz47_4, hcz47_5, hfz47_0, hfz47_1, hfz47_2, hfz47_3, hfz47_4, hfz47_5⟩ := zc6 BK237) | ((with_reducible refine gate_callee (f := 40) rfl ?_); refine gl 7 Tryd.func40 #[.int .i64 a0_3, .int .i64 (-128), .int .i64 127] ?_; (with_reducible refine (impl_within.calls a0_3 (-128) 127 false _ A2.out).mono ?_); rintro e w' ⟨rfl, ⟨nd, rfl⟩⟩; refine ⟨_, rfl, ?_⟩) | ((with_reducible refine gate_callee (f := 33) rfl ?_); refine gl 12 Tryd.func33 #[.int .i64 a0_0] ?_; (with_reducible refine (impl_kind_reckons.calls a0_0 false _ A3.out).mono ?_); rintro e w' ⟨rfl, ⟨nd, rfl⟩⟩; refine ⟨_, rfl, ?_⟩) | ((with_reducible refine gate_callee (f := 34) rfl ?_); refine gl 32 Tryd.func34 #[.int .i64 a0_0] ?_; (with_reducible refine (impl_kind_asks.calls a0_0 false _ A23.out).mono ?_); rintro e w' ⟨rfl, ⟨nd, rfl⟩⟩; refine ⟨_, rfl, ?_⟩))
     go_ret
     exact ⟨zR, zB⟩
   ·rw [if_neg c42] at H
    have c42b0 : (a0_0 == 16) = false := beq_eq_false_iff_ne.mpr c42
    have c42b1 : (a0_0 != 16) = true := bne_iff_ne.mpr c42
    by_cases c48 : a0_0 = 17
    ·rw [if_pos c48] at H
     have c48b0 : (a0_0 == 17) = true := beq_iff_eq.mpr c48
     have c48b1 : (a0_0 != 17) = false := bne_eq_false_iff_eq.mpr c48
     clear c48
     replace H := Option.bind_eq_some_iff.mp H
     obtain ⟨t245, A490, H⟩ := H
     try dsimp only at H
     have A49 := Aside0.mk A490
     clear A490
     by_cases c50 : t245 = true
     ·subst c50
      rw [if_pos rfl] at H
      replace H := Option.bind_eq_some_iff.mp H
      obtain ⟨t246, A510, H⟩ := H
      try dsimp only at H
      have A51 := Aside0.mk A510
      clear A510
      by_cases c52 : t246 = true
      ·subst c52
       rw [if_pos rfl] at H
       by_cases c53 : a0_4 = 0
       ·rw [if_pos c53] at H
        have c53b0 : (a0_4 == 0) = true := beq_iff_eq.mpr c53
        have c53b1 : (a0_4 != 0) = false := bne_eq_false_iff_eq.mpr c53
        clear c53
        by_cases c54 : t238 = true
        ·subst c54
         rw [if_pos rfl] at H
         replace H := Option.bind_eq_some_iff.mp H
         obtain ⟨t247, A550, H⟩ := H
         try dsimp only at H
         have A55 := Aside0.mk A550
         clear A550
         obtain rfl := Option.some.inj H
         go_enter Tryd.func17, Tryd.ntmps17
         go_wp2_with (first | ((with_reducible refine gate_dst (N := 1) rfl ?_); refine be 1 #[.int .i64 a0_0, .int .i64 a0_1, .int .i64 a0_2, .int .i64 a0_3, .int .i64 a0_4, .int .i64 a0_5] 23 ?_; intro gb237 hg w56 hbox hb; have BK237 := Aside0.mk hbox; have GW237 := zW hg; replace HB := zS hb; have GE237 := GW237; clear hb hbox hg; obtain ⟨hcz57_0, hcz57_1, hcz57_2, hcz57_3, hcz57_4, hcz57_5, hfz57_0, hfz57_1, hfz57_2, hfz57_3, hfz57_4, hfz57_5⟩ := zc6 BK237) | ((with_reducible refine gate_callee (f := 40) rfl ?_); refine gl 7 Tryd.func40 #[.int .i64 a0_3, .int .i64 (-128), .int .i64 127] ?_; (with_reducible refine (impl_within.calls a0_3 (-128) 127 true _ A2.out).mono ?_); rintro e w' ⟨rfl, ⟨nd, rfl⟩⟩; refine ⟨_, rfl, ?_⟩) | ((with_reducible refine gate_callee (f := 33) rfl ?_); refine gl 12 Tryd.func33 #[.int .i64 a0_0] ?_; (with_reducible refine (impl_kind_reckons.calls a0_0 false _ A3.out).mono ?_); rintro e w' ⟨rfl, ⟨nd, rfl⟩⟩; refine ⟨_, rfl, ?_⟩) | ((with_reducible refine gate_callee (f := 34) rfl ?_); refine gl 32 Tryd.func34 #[.int .i64 a0_0] ?_; (with_reducible refine (impl_kind_asks.calls a0_0 false _ A23.out).mono ?_); rintro e w' ⟨rfl, ⟨nd, rfl⟩⟩; refine ⟨_, rfl, ?_⟩) | ((with_reducible refine gate_callee (f := 41) rfl ?_); refine gl 66 Tryd.func41 #[.int .i64 a0_1] ?_; (with_reducible refine (impl_regOk.calls a0_1 true _ A49.out).mono ?_); rintro e w' ⟨rfl, ⟨nd, rfl⟩⟩; refine ⟨_, rfl, ?_⟩) | (go_at_call 41; (with_reducible refine (impl_regOk.calls a0_2 true _ A51.out).mono ?_); rintro e w' ⟨rfl, ⟨nd, rfl⟩⟩) | (go_at_call 43; (with_reducible refine (impl_sizeOk.calls a0_5 t247 _ A55.out).mono ?_); rintro e w' ⟨rfl, ⟨nd, rfl⟩⟩))
         go_ret
         exact ⟨zR, zB⟩
        ·replace c54 := Bool.eq_false_iff.mpr c54
         subst c54
         rw [if_neg (show ¬ (false = true) by decide)] at H
         obtain rfl := Option.some.inj H
         go_enter Tryd.func17, Tryd.ntmps17
         go_wp2_with (first | ((with_reducible refine gate_dst (N := 1) rfl ?_); refine be 1 #[.int .i64 a0_0, .int .i64 a0_1, .int .i64 a0_2, .int .i64 a0_3, .int .i64 a0_4, .int .i64 a0_5] 23 ?_; intro gb237 hg w58 hbox hb; have BK237 := Aside0.mk hbox; have GW237 := zW hg; replace HB := zS hb; have GE237 := GW237; clear hb hbox hg; obtain ⟨hcz59_0, hcz59_1, hcz59_2, hcz59_3, hcz59_4, hcz59_5, hfz59_0, hfz59_1, hfz59_2, hfz59_3, hfz59_4, hfz59_5⟩ := zc6 BK237) | ((with_reducible refine gate_callee (f := 40) rfl ?_); refine gl 7 Tryd.func40 #[.int .i64 a0_3, .int .i64 (-128), .int .i64 127] ?_; (with_reducible refine (impl_within.calls a0_3 (-128) 127 false _ A2.out).mono ?_); rintro e w' ⟨rfl, ⟨nd, rfl⟩⟩; refine ⟨_, rfl, ?_⟩) | ((with_reducible refine gate_callee (f := 33) rfl ?_); refine gl 12 Tryd.func33 #[.int .i64 a0_0] ?_; (with_reducible refine (impl_kind_reckons.calls a0_0 false _ A3.out).mono ?_); rintro e w' ⟨rfl, ⟨nd, rfl⟩⟩; refine ⟨_, rfl, ?_⟩) | ((with_reducible refine gate_callee (f := 34) rfl ?_); refine gl 32 Tryd.func34 #[.int .i64 a0_0] ?_; (with_reducible refine (impl_kind_asks.calls a0_0 false _ A23.out).mono ?_); rintro e w' ⟨rfl, ⟨nd, rfl⟩⟩; refine ⟨_, rfl, ?_⟩) | ((with_reducible refine gate_callee (f := 41) rfl ?_); refine gl 66 Tryd.func41 #[.int .i64 a0_1] ?_; (with_reducible refine (impl_regOk.calls a0_1 true _ A49.out).mono ?_); rintro e w' ⟨rfl, ⟨nd, rfl⟩⟩; refine ⟨_, rfl, ?_⟩) | (go_at_call 41; (with_reducible refine (impl_regOk.calls a0_2 true _ A51.out).mono ?_); rintro e w' ⟨rfl, ⟨nd, rfl⟩⟩))
         go_ret
         exact ⟨zR, zB⟩
       ·rw [if_neg c53] at H
        have c53b0 : (a0_4 == 0) = false := beq_eq_false_iff_ne.mpr c53
        have c53b1 : (a0_4 != 0) = true := bne_iff_ne.mpr c53
        obtain rfl := Option.some.inj H
        go_enter Tryd.func17, Tryd.ntmps17
        go_wp2_with (first | ((with_reducible refine gate_dst (N := 1) rfl ?_); refine be 1 #[.int .i64 a0_0, .int .i64 a0_1, .int .i64 a0_2, .int .i64 a0_3, .int .i64 a0_4, .int .i64 a0_5] 23 ?_; intro gb237 hg w60 hbox hb; have BK237 := Aside0.mk hbox; have GW237 := zW hg; replace HB := zS hb; have GE237 := GW237; clear hb hbox hg; obtain ⟨hcz61_0, hcz61_1, hcz61_2, hcz61_3, hcz61_4, hcz61_5, hfz61_0, hfz61_1, hfz61_2, hfz61_3, hfz61_4, hfz61_5⟩ := zc6 BK237) | ((with_reducible refine gate_callee (f := 40) rfl ?_); refine gl 7 Tryd.func40 #[.int .i64 a0_3, .int .i64 (-128), .int .i64 127] ?_; (with_reducible refine (impl_within.calls a0_3 (-128) 127 t238 _ A2.out).mono ?_); rintro e w' ⟨rfl, ⟨nd, rfl⟩⟩; refine ⟨_, rfl, ?_⟩) | ((with_reducible refine gate_callee (f := 33) rfl ?_); refine gl 12 Tryd.func33 #[.int .i64 a0_0] ?_; (with_reducible refine (impl_kind_reckons.calls a0_0 false _ A3.out).mono ?_); rintro e w' ⟨rfl, ⟨nd, rfl⟩⟩; refine ⟨_, rfl, ?_⟩) | ((with_reducible refine gate_callee (f := 34) rfl ?_); refine gl 32 Tryd.func34 #[.int .i64 a0_0] ?_; (with_reducible refine (impl_kind_asks.calls a0_0 false _ A23.out).mono ?_); rintro e w' ⟨rfl, ⟨nd, rfl⟩⟩; refine ⟨_, rfl, ?_⟩) | ((with_reducible refine gate_callee (f := 41) rfl ?_); refine gl 66 Tryd.func41 #[.int .i64 a0_1] ?_; (with_reducible refine (impl_regOk.calls a0_1 true _ A49.out).mono ?_); rintro e w' ⟨rfl, ⟨nd, rfl⟩⟩; refine ⟨_, rfl, ?_⟩) | (go_at_call 41; (with_reducible refine (impl_regOk.calls a0_2 true _ A51.out).mono ?_); rintro e w' ⟨rfl, ⟨nd, rfl⟩⟩))
        go_ret
        exact ⟨zR, zB⟩
      ·replace c52 := Bool.eq_false_iff.mpr c52
       subst c52
       rw [if_neg (show ¬ (false = true) by decide)] at H
       obtain rfl := Option.some.inj H
       go_enter Tryd.func17, Tryd.ntmps17
       go_wp2_with (first | ((with_reducible refine gate_dst (N := 1) rfl ?_); refine be 1 #[.int .i64 a0_0, .int .i64 a0_1, .int .i64 a0_2, .int .i64 a0_3, .int .i64 a0_4, .int .i64 a0_5] 23 ?_; intro gb237 hg w62 hbox hb; have BK237 := Aside0.mk hbox; have GW237 := zW hg; replace HB := zS hb; have GE237 := GW237; clear hb hbox hg; obtain ⟨hcz63_0, hcz63_1, hcz63_2, hcz63_3, hcz63_4, hcz63_5, hfz63_0, hfz63_1, hfz63_2, hfz63_3, hfz63_4, hfz63_5⟩ := zc6 BK237) | ((with_reducible refine gate_callee (f := 40) rfl ?_); refine gl 7 Tryd.func40 #[.int .i64 a0_3, .int .i64 (-128), .int .i64 127] ?_; (with_reducible refine (impl_within.calls a0_3 (-128) 127 t238 _ A2.out).mono ?_); rintro e w' ⟨rfl, ⟨nd, rfl⟩⟩; refine ⟨_, rfl, ?_⟩) | ((with_reducible refine gate_callee (f := 33) rfl ?_); refine gl 12 Tryd.func33 #[.int .i64 a0_0] ?_; (with_reducible refine (impl_kind_reckons.calls a0_0 false _ A3.out).mono ?_); rintro e w' ⟨rfl, ⟨nd, rfl⟩⟩; refine ⟨_, rfl, ?_⟩) | ((with_reducible refine gate_callee (f := 34) rfl ?_); refine gl 32 Tryd.func34 #[.int .i64 a0_0] ?_; (with_reducible refine (impl_kind_asks.calls a0_0 false _ A23.out).mono ?_); rintro e w' ⟨rfl, ⟨nd, rfl⟩⟩; refine ⟨_, rfl, ?_⟩) | ((with_reducible refine gate_callee (f := 41) rfl ?_); refine gl 66 Tryd.func41 #[.int .i64 a0_1] ?_; (with_reducible refine (impl_regOk.calls a0_1 true _ A49.out).mono ?_); rintro e w' ⟨rfl, ⟨nd, rfl⟩⟩; refine ⟨_, rfl, ?_⟩) | (go_at_call 41; (with_reducible refine (impl_regOk.calls a0_2 false _ A51.out).mono ?_); rintro e w' ⟨rfl, ⟨nd, rfl⟩⟩))
       go_ret
       exact ⟨zR, zB⟩
     ·replace c50 := Bool.eq_false_iff.mpr c50
      subst c50
      rw [if_neg (show ¬ (false = true) by decide)] at H
      obtain rfl := Option.some.inj H
      go_enter Tryd.func17, Tryd.ntmps17
      go_wp2_with (first | ((with_reducible refine gate_dst (N := 1) rfl ?_); refine be 1 #[.int .i64 a0_0, .int .i64 a0_1, .int .i64 a0_2, .int .i64 a0_3, .int .i64 a0_4, .int .i64 a0_5] 23 ?_; intro gb237 hg w64 hbox hb; have BK237 := Aside0.mk hbox; have GW237 := zW hg; replace HB := zS hb; have GE237 := GW237; clear hb hbox hg; obtain ⟨hcz65_0, hcz65_1, hcz65_2, hcz65_3, hcz65_4, hcz65_5, hfz65_0, hfz65_1, hfz65_2, hfz65_3, hfz65_4, hfz65_5⟩ := zc6 BK237) | ((with_reducible refine gate_callee (f := 40) rfl ?_); refine gl 7 Tryd.func40 #[.int .i64 a0_3, .int .i64 (-128), .int .i64 127] ?_; (with_reducible refine (impl_within.calls a0_3 (-128) 127 t238 _ A2.out).mono ?_); rintro e w' ⟨rfl, ⟨nd, rfl⟩⟩; refine ⟨_, rfl, ?_⟩) | ((with_reducible refine gate_callee (f := 33) rfl ?_); refine gl 12 Tryd.func33 #[.int .i64 a0_0] ?_; (with_reducible refine (impl_kind_reckons.calls a0_0 false _ A3.out).mono ?_); rintro e w' ⟨rfl, ⟨nd, rfl⟩⟩; refine ⟨_, rfl, ?_⟩) | ((with_reducible refine gate_callee (f := 34) rfl ?_); refine gl 32 Tryd.func34 #[.int .i64 a0_0] ?_; (with_reducible refine (impl_kind_asks.calls a0_0 false _ A23.out).mono ?_); rintro e w' ⟨rfl, ⟨nd, rfl⟩⟩; refine ⟨_, rfl, ?_⟩) | ((with_reducible refine gate_callee (f := 41) rfl ?_); refine gl 66 Tryd.func41 #[.int .i64 a0_1] ?_; (with_reducible refine (impl_regOk.calls a0_1 false _ A49.out).mono ?_); rintro e w' ⟨rfl, ⟨nd, rfl⟩⟩; refine ⟨_, rfl, ?_⟩))
      go_ret
      exact ⟨zR, zB⟩
    ·rw [if_neg c48] at H
     have c48b0 : (a0_0 == 17) = false := beq_eq_false_iff_ne.mpr c48
     have c48b1 : (a0_0 != 17) = true := bne_iff_ne.mpr c48
     by_cases c66 : a0_0 = 18
     ·rw [if_pos c66] at H
      have c66b0 : (a0_0 == 18) = true := beq_iff_eq.mpr c66
      have c66b1 : (a0_0 != 18) = false := bne_eq_false_iff_eq.mpr c66
      clear c66
      replace H := Option.bind_eq_some_iff.mp H
      obtain ⟨t248, A670, H⟩ := H
      try dsimp only at H
      have A67 := Aside0.mk A670
      clear A670
      by_cases c68 : t248 = true
      ·subst c68
       rw [if_pos rfl] at H
       replace H := Option.bind_eq_some_iff.mp H
       obtain ⟨t249, A690, H⟩ := H
       try dsimp only at H
       have A69 := Aside0.mk A690
       clear A690
       by_cases c70 : t249 = true
       ·subst c70
        rw [if_pos rfl] at H
        by_cases c71 : t238 = true
        ·subst c71
         rw [if_pos rfl] at H
         replace H := Option.bind_eq_some_iff.mp H
         obtain ⟨t250, A720, H⟩ := H
         try dsimp only at H
         have A72 := Aside0.mk A720
         clear A720
         obtain rfl := Option.some.inj H
         go_enter Tryd.func17, Tryd.ntmps17
         go_wp2_with (first | ((with_reducible refine gate_dst (N := 1) rfl ?_); refine be 1 #[.int .i64 a0_0, .int .i64 a0_1, .int .i64 a0_2, .int .i64 a0_3, .int .i64 a0_4, .int .i64 a0_5] 23 ?_; intro gb237 hg w73 hbox hb; have BK237 := Aside0.mk hbox; have GW237 := zW hg; replace HB := zS hb; have GE237 := GW237; clear hb hbox hg; obtain ⟨hcz74_0, hcz74_1, hcz74_2, hcz74_3, hcz74_4, hcz74_5, hfz74_0, hfz74_1, hfz74_2, hfz74_3, hfz74_4, hfz74_5⟩ := zc6 BK237) | ((with_reducible refine gate_callee (f := 40) rfl ?_); refine gl 7 Tryd.func40 #[.int .i64 a0_3, .int .i64 (-128), .int .i64 127] ?_; (with_reducible refine (impl_within.calls a0_3 (-128) 127 true _ A2.out).mono ?_); rintro e w' ⟨rfl, ⟨nd, rfl⟩⟩; refine ⟨_, rfl, ?_⟩) | ((with_reducible refine gate_callee (f := 33) rfl ?_); refine gl 12 Tryd.func33 #[.int .i64 a0_0] ?_; (with_reducible refine (impl_kind_reckons.calls a0_0 false _ A3.out).mono ?_); rintro e w' ⟨rfl, ⟨nd, rfl⟩⟩; refine ⟨_, rfl, ?_⟩) | ((with_reducible refine gate_callee (f := 34) rfl ?_); refine gl 32 Tryd.func34 #[.int .i64 a0_0] ?_; (with_reducible refine (impl_kind_asks.calls a0_0 false _ A23.out).mono ?_); rintro e w' ⟨rfl, ⟨nd, rfl⟩⟩; refine ⟨_, rfl, ?_⟩) | ((with_reducible refine gate_callee (f := 41) rfl ?_); refine gl 91 Tryd.func41 #[.int .i64 a0_1] ?_; (with_reducible refine (impl_regOk.calls a0_1 true _ A67.out).mono ?_); rintro e w' ⟨rfl, ⟨nd, rfl⟩⟩; refine ⟨_, rfl, ?_⟩) | (go_at_call 42; (with_reducible refine (impl_Ins_either.calls a0_0 a0_1 a0_2 a0_3 a0_4 a0_5 true _ A69.out).mono ?_); rintro e w75 ⟨rfl, hb⟩; replace BK237 := zb BK237 hb rfl; replace HB := zS hb; try clear hb; obtain ⟨hcz76_0, hcz76_1, hcz76_2, hcz76_3, hcz76_4, hcz76_5, hfz76_0, hfz76_1, hfz76_2, hfz76_3, hfz76_4, hfz76_5⟩ := zc6 BK237) | (go_at_call 43; (with_reducible refine (impl_sizeOk.calls a0_5 t250 _ A72.out).mono ?_); rintro e w' ⟨rfl, ⟨nd, rfl⟩⟩))
         go_ret
         exact ⟨zR, zB⟩
        ·replace c71 := Bool.eq_false_iff.mpr c71
         subst c71
         rw [if_neg (show ¬ (false = true) by decide)] at H
         obtain rfl := Option.some.inj H
         go_enter Tryd.func17, Tryd.ntmps17
         go_wp2_with (first | ((with_reducible refine gate_dst (N := 1) rfl ?_); refine be 1 #[.int .i64 a0_0, .int .i64 a0_1, .int .i64 a0_2, .int .i64 a0_3, .int .i64 a0_4, .int .i64 a0_5] 23 ?_; intro gb237 hg w77 hbox hb; have BK237 := Aside0.mk hbox; have GW237 := zW hg; replace HB := zS hb; have GE237 := GW237; clear hb hbox hg; obtain ⟨hcz78_0, hcz78_1, hcz78_2, hcz78_3, hcz78_4, hcz78_5, hfz78_0, hfz78_1, hfz78_2, hfz78_3, hfz78_4, hfz78_5⟩ := zc6 BK237) | ((with_reducible refine gate_callee (f := 40) rfl ?_); refine gl 7 Tryd.func40 #[.int .i64 a0_3, .int .i64 (-128), .int .i64 127] ?_; (with_reducible refine (impl_within.calls a0_3 (-128) 127 false _ A2.out).mono ?_); rintro e w' ⟨rfl, ⟨nd, rfl⟩⟩; refine ⟨_, rfl, ?_⟩) | ((with_reducible refine gate_callee (f := 33) rfl ?_); refine gl 12 Tryd.func33 #[.int .i64 a0_0] ?_; (with_reducible refine (impl_kind_reckons.calls a0_0 false _ A3.out).mono ?_); rintro e w' ⟨rfl, ⟨nd, rfl⟩⟩; refine ⟨_, rfl, ?_⟩) | ((with_reducible refine gate_callee (f := 34) rfl ?_); refine gl 32 Tryd.func34 #[.int .i64 a0_0] ?_; (with_reducible refine (impl_kind_asks.calls a0_0 false _ A23.out).mono ?_); rintro e w' ⟨rfl, ⟨nd, rfl⟩⟩; refine ⟨_, rfl, ?_⟩) | ((with_reducible refine gate_callee (f := 41) rfl ?_); refine gl 91 Tryd.func41 #[.int .i64 a0_1] ?_; (with_reducible refine (impl_regOk.calls a0_1 true _ A67.out).mono ?_); rintro e w' ⟨rfl, ⟨nd, rfl⟩⟩; refine ⟨_, rfl, ?_⟩) | (go_at_call 42; (with_reducible refine (impl_Ins_either.calls a0_0 a0_1 a0_2 a0_3 a0_4 a0_5 true _ A69.out).mono ?_); rintro e w79 ⟨rfl, hb⟩; replace BK237 := zb BK237 hb rfl; replace HB := zS hb; try clear hb))
         go_ret
         exact ⟨zR, zB⟩
       ·replace c70 := Bool.eq_false_iff.mpr c70
        subst c70
        rw [if_neg (show ¬ (false = true) by decide)] at H
        obtain rfl := Option.some.inj H
        go_enter Tryd.func17, Tryd.ntmps17
        go_wp2_with (first | ((with_reducible refine gate_dst (N := 1) rfl ?_); refine be 1 #[.int .i64 a0_0, .int .i64 a0_1, .int .i64 a0_2, .int .i64 a0_3, .int .i64 a0_4, .int .i64 a0_5] 23 ?_; intro gb237 hg w80 hbox hb; have BK237 := Aside0.mk hbox; have GW237 := zW hg; replace HB := zS hb; have GE237 := GW237; clear hb hbox hg; obtain ⟨hcz81_0, hcz81_1, hcz81_2, hcz81_3, hcz81_4, hcz81_5, hfz81_0, hfz81_1, hfz81_2, hfz81_3, hfz81_4, hfz81_5⟩ := zc6 BK237) | ((with_reducible refine gate_callee (f := 40) rfl ?_); refine gl 7 Tryd.func40 #[.int .i64 a0_3, .int .i64 (-128), .int .i64 127] ?_; (with_reducible refine (impl_within.calls a0_3 (-128) 127 t238 _ A2.out).mono ?_); rintro e w' ⟨rfl, ⟨nd, rfl⟩⟩; refine ⟨_, rfl, ?_⟩) | ((with_reducible refine gate_callee (f := 33) rfl ?_); refine gl 12 Tryd.func33 #[.int .i64 a0_0] ?_; (with_reducible refine (impl_kind_reckons.calls a0_0 false _ A3.out).mono ?_); rintro e w' ⟨rfl, ⟨nd, rfl⟩⟩; refine ⟨_, rfl, ?_⟩) | ((with_reducible refine gate_callee (f := 34) rfl ?_); refine gl 32 Tryd.func34 #[.int .i64 a0_0] ?_; (with_reducible refine (impl_kind_asks.calls a0_0 false _ A23.out).mono ?_); rintro e w' ⟨rfl, ⟨nd, rfl⟩⟩; refine ⟨_, rfl, ?_⟩) | ((with_reducible refine gate_callee (f := 41) rfl ?_); refine gl 91 Tryd.func41 #[.int .i64 a0_1] ?_; (with_reducible refine (impl_regOk.calls a0_1 true _ A67.out).mono ?_); rintro e w' ⟨rfl, ⟨nd, rfl⟩⟩; refine ⟨_, rfl, ?_⟩) | (go_at_call 42; (with_reducible refine (impl_Ins_either.calls a0_0 a0_1 a0_2 a0_3 a0_4 a0_5 false _ A69.out).mono ?_); rintro e w82 ⟨rfl, hb⟩; replace BK237 := zb BK237 hb rfl; replace HB := zS hb; try clear hb))
        go_ret
        exact ⟨zR, zB⟩
      ·replace c68 := Bool.eq_false_iff.mpr c68
       subst c68
       rw [if_neg (show ¬ (false = true) by decide)] at H
       obtain rfl := Option.some.inj H
       go_enter Tryd.func17, Tryd.ntmps17
       go_wp2_with (first | ((with_reducible refine gate_dst (N := 1) rfl ?_); refine be 1 #[.int .i64 a0_0, .int .i64 a0_1, .int .i64 a0_2, .int .i64 a0_3, .int .i64 a0_4, .int .i64 a0_5] 23 ?_; intro gb237 hg w83 hbox hb; have BK237 := Aside0.mk hbox; have GW237 := zW hg; replace HB := zS hb; have GE237 := GW237; clear hb hbox hg; obtain ⟨hcz84_0, hcz84_1, hcz84_2, hcz84_3, hcz84_4, hcz84_5, hfz84_0, hfz84_1, hfz84_2, hfz84_3, hfz84_4, hfz84_5⟩ := zc6 BK237) | ((with_reducible refine gate_callee (f := 40) rfl ?_); refine gl 7 Tryd.func40 #[.int .i64 a0_3, .int .i64 (-128), .int .i64 127] ?_; (with_reducible refine (impl_within.calls a0_3 (-128) 127 t238 _ A2.out).mono ?_); rintro e w' ⟨rfl, ⟨nd, rfl⟩⟩; refine ⟨_, rfl, ?_⟩) | ((with_reducible refine gate_callee (f := 33) rfl ?_); refine gl 12 Tryd.func33 #[.int .i64 a0_0] ?_; (with_reducible refine (impl_kind_reckons.calls a0_0 false _ A3.out).mono ?_); rintro e w' ⟨rfl, ⟨nd, rfl⟩⟩; refine ⟨_, rfl, ?_⟩) | ((with_reducible refine gate_callee (f := 34) rfl ?_); refine gl 32 Tryd.func34 #[.int .i64 a0_0] ?_; (with_reducible refine (impl_kind_asks.calls a0_0 false _ A23.out).mono ?_); rintro e w' ⟨rfl, ⟨nd, rfl⟩⟩; refine ⟨_, rfl, ?_⟩) | ((with_reducible refine gate_callee (f := 41) rfl ?_); refine gl 91 Tryd.func41 #[.int .i64 a0_1] ?_; (with_reducible refine (impl_regOk.calls a0_1 false _ A67.out).mono ?_); rintro e w' ⟨rfl, ⟨nd, rfl⟩⟩; refine ⟨_, rfl, ?_⟩))
       go_ret
       exact ⟨zR, zB⟩
     ·rw [if_neg c66] at H
      have c66b0 : (a0_0 == 18) = false := beq_eq_false_iff_ne.mpr c66
      have c66b1 : (a0_0 != 18) = true := bne_iff_ne.mpr c66
      by_cases c85 : a0_0 = 19
      ·rw [if_pos c85] at H
       have c85b0 : (a0_0 == 19) = true := beq_iff_eq.mpr c85
       have c85b1 : (a0_0 != 19) = false := bne_eq_false_iff_eq.mpr c85
       clear c85
       replace H := Option.bind_eq_some_iff.mp H
       obtain ⟨t251, A860, H⟩ := H
       try dsimp only at H
       have A86 := Aside0.mk A860
       clear A860
       by_cases c87 : t251 = true
       ·subst c87
        rw [if_pos rfl] at H
        obtain rfl := Option.some.inj H
        go_enter Tryd.func17, Tryd.ntmps17
        go_wp2_with (first | ((with_reducible refine gate_dst (N := 1) rfl ?_); refine be 1 #[.int .i64 a0_0, .int .i64 a0_1, .int .i64 a0_2, .int .i64 a0_3, .int .i64 a0_4, .int .i64 a0_5] 23 ?_; intro gb237 hg w88 hbox hb; have BK237 := Aside0.mk hbox; have GW237 := zW hg; replace HB := zS hb; have GE237 := GW237; clear hb hbox hg; obtain ⟨hcz89_0, hcz89_1, hcz89_2, hcz89_3, hcz89_4, hcz89_5, hfz89_0, hfz89_1, hfz89_2, hfz89_3, hfz89_4, hfz89_5⟩ := zc6 BK237) | ((with_reducible refine gate_callee (f := 40) rfl ?_); refine gl 7 Tryd.func40 #[.int .i64 a0_3, .int .i64 (-128), .int .i64 127] ?_; (with_reducible refine (impl_within.calls a0_3 (-128) 127 t238 _ A2.out).mono ?_); rintro e w' ⟨rfl, ⟨nd, rfl⟩⟩; refine ⟨_, rfl, ?_⟩) | ((with_reducible refine gate_callee (f := 33) rfl ?_); refine gl 12 Tryd.func33 #[.int .i64 a0_0] ?_; (with_reducible refine (impl_kind_reckons.calls a0_0 false _ A3.out).mono ?_); rintro e w' ⟨rfl, ⟨nd, rfl⟩⟩; refine ⟨_, rfl, ?_⟩) | ((with_reducible refine gate_callee (f := 34) rfl ?_); refine gl 32 Tryd.func34 #[.int .i64 a0_0] ?_; (with_reducible refine (impl_kind_asks.calls a0_0 false _ A23.out).mono ?_); rintro e w' ⟨rfl, ⟨nd, rfl⟩⟩; refine ⟨_, rfl, ?_⟩) | ((with_reducible refine gate_callee (f := 40) rfl ?_); refine gl 110 Tryd.func40 #[.int .i64 a0_4, .int .i64 1, .int .i64 6] ?_; (with_reducible refine (impl_within.calls a0_4 1 6 true _ A86.out).mono ?_); rintro e w' ⟨rfl, ⟨nd, rfl⟩⟩; refine ⟨_, rfl, ?_⟩))
        go_ret
        exact ⟨zR, zB⟩
       ·replace c87 := Bool.eq_false_iff.mpr c87
        subst c87
        rw [if_neg (show ¬ (false = true) by decide)] at H
        obtain rfl := Option.some.inj H
        go_enter Tryd.func17, Tryd.ntmps17
        go_wp2_with (first | ((with_reducible refine gate_dst (N := 1) rfl ?_); refine be 1 #[.int .i64 a0_0, .int .i64 a0_1, .int .i64 a0_2, .int .i64 a0_3, .int .i64 a0_4, .int .i64 a0_5] 23 ?_; intro gb237 hg w90 hbox hb; have BK237 := Aside0.mk hbox; have GW237 := zW hg; replace HB := zS hb; have GE237 := GW237; clear hb hbox hg; obtain ⟨hcz91_0, hcz91_1, hcz91_2, hcz91_3, hcz91_4, hcz91_5, hfz91_0, hfz91_1, hfz91_2, hfz91_3, hfz91_4, hfz91_5⟩ := zc6 BK237) | ((with_reducible refine gate_callee (f := 40) rfl ?_); refine gl 7 Tryd.func40 #[.int .i64 a0_3, .int .i64 (-128), .int .i64 127] ?_; (with_reducible refine (impl_within.calls a0_3 (-128) 127 t238 _ A2.out).mono ?_); rintro e w' ⟨rfl, ⟨nd, rfl⟩⟩; refine ⟨_, rfl, ?_⟩) | ((with_reducible refine gate_callee (f := 33) rfl ?_); refine gl 12 Tryd.func33 #[.int .i64 a0_0] ?_; (with_reducible refine (impl_kind_reckons.calls a0_0 false _ A3.out).mono ?_); rintro e w' ⟨rfl, ⟨nd, rfl⟩⟩; refine ⟨_, rfl, ?_⟩) | ((with_reducible refine gate_callee (f := 34) rfl ?_); refine gl 32 Tryd.func34 #[.int .i64 a0_0] ?_; (with_reducible refine (impl_kind_asks.calls a0_0 false _ A23.out).mono ?_); rintro e w' ⟨rfl, ⟨nd, rfl⟩⟩; refine ⟨_, rfl, ?_⟩) | ((with_reducible refine gate_callee (f := 40) rfl ?_); refine gl 110 Tryd.func40 #[.int .i64 a0_4, .int .i64 1, .int .i64 6] ?_; (with_reducible refine (impl_within.calls a0_4 1 6 false _ A86.out).mono ?_); rintro e w' ⟨rfl, ⟨nd, rfl⟩⟩; refine ⟨_, rfl, ?_⟩))
        go_ret
        exact ⟨zR, zB⟩
      ·rw [if_neg c85] at H
       have c85b0 : (a0_0 == 19) = false := beq_eq_false_iff_ne.mpr c85
       have c85b1 : (a0_0 != 19) = true := bne_iff_ne.mpr c85
       obtain rfl := Option.some.inj H
       go_enter Tryd.func17, Tryd.ntmps17
       go_wp2_with (first | ((with_reducible refine gate_dst (N := 1) rfl ?_); refine be 1 #[.int .i64 a0_0, .int .i64 a0_1, .int .i64 a0_2, .int .i64 a0_3, .int .i64 a0_4, .int .i64 a0_5] 23 ?_; intro gb237 hg w92 hbox hb; have BK237 := Aside0.mk hbox; have GW237 := zW hg; replace HB := zS hb; have GE237 := GW237; clear hb hbox hg; obtain ⟨hcz93_0, hcz93_1, hcz93_2, hcz93_3, hcz93_4, hcz93_5, hfz93_0, hfz93_1, hfz93_2, hfz93_3, hfz93_4, hfz93_5⟩ := zc6 BK237) | ((with_reducible refine gate_callee (f := 40) rfl ?_); refine gl 7 Tryd.func40 #[.int .i64 a0_3, .int .i64 (-128), .int .i64 127] ?_; (with_reducible refine (impl_within.calls a0_3 (-128) 127 t238 _ A2.out).mono ?_); rintro e w' ⟨rfl, ⟨nd, rfl⟩⟩; refine ⟨_, rfl, ?_⟩) | ((with_reducible refine gate_callee (f := 33) rfl ?_); refine gl 12 Tryd.func33 #[.int .i64 a0_0] ?_; (with_reducible refine (impl_kind_reckons.calls a0_0 false _ A3.out).mono ?_); rintro e w' ⟨rfl, ⟨nd, rfl⟩⟩; refine ⟨_, rfl, ?_⟩) | ((with_reducible refine gate_callee (f := 34) rfl ?_); refine gl 32 Tryd.func34 #[.int .i64 a0_0] ?_; (with_reducible refine (impl_kind_asks.calls a0_0 false _ A23.out).mono ?_); rintro e w' ⟨rfl, ⟨nd, rfl⟩⟩; refine ⟨_, rfl, ?_⟩))
       go_ret
       exact ⟨zR, zB⟩

/-! ### strconv_Itoa: function 19 -/
def strconv_Itoa.f (a0 : Int) : Option ByteArray := if -9223372036854775808 ≤ a0 then (if a0 ≤ 9223372036854775807 then some ⟨(Lib.itoa a0).toArray⟩ else none) else none
theorem strconv_Itoa.calls (a0 : Int) (r : ByteArray) (w : World) (h : strconv_Itoa.f a0 = some r) (zHT : Tryd.Tb w := by first | exact zHT | exact Tryd.tb_below zHT zB | exact Tryd.te_tb zHT | exact Tryd.tb_below (Tryd.te_tb zHT) zB) :
  Calls Tryd.prog 19 #[.int .i64 a0] w fun e w' => e = .returned (.string r) ∧ Below w.heap.size w w' := by
 unfold strconv_Itoa.f at h
 split at h
 ·split at h
  ·obtain rfl := Option.some.inj h
   exact Tryd.itoa a0 ‹_› ‹_› w zHT
  ·cases h
 ·cases h


/-! ### impl_opWords: function 31 -/
def impl_opWords.L : List ByteArray := [⟨#[]⟩, ⟨#[109, 111, 118]⟩, ⟨#[97, 100, 100]⟩, ⟨#[115, 117, 98]⟩, ⟨#[109, 117, 108]⟩, ⟨#[97, 110, 100]⟩, ⟨#[111, 114]⟩, ⟨#[120, 111, 114]⟩, ⟨#[115, 104, 108]⟩, ⟨#[115, 104, 114]⟩, ⟨#[100, 105, 118]⟩, ⟨#[109, 111, 100]⟩, ⟨#[115, 97, 109, 101]⟩, ⟨#[111, 116, 104, 101, 114]⟩, ⟨#[108, 101, 115, 115]⟩, ⟨#[109, 111, 114, 101]⟩, ⟨#[103, 111]⟩, ⟨#[108, 111, 97, 100]⟩, ⟨#[115, 116, 111, 114, 101]⟩, ⟨#[99, 97, 108, 108]⟩, ⟨#[101, 120, 105, 116]⟩]
def impl_opWords.f : Option (List ByteArray) := some impl_opWords.L
set_option maxRecDepth 100000 in
theorem impl_opWords.idx (j : Int) (p : 0 ≤ j) (q : j < 21) (w : World) : (Instr.index 48 (awV impl_opWords.L) (.int .i64 j)).run Tryd.prog w = .ok (.string (rdOf ByteArray.empty impl_opWords.L j)) w := by
 have hc : j = 0 ∨ j = 1 ∨ j = 2 ∨ j = 3 ∨ j = 4 ∨ j = 5 ∨ j = 6 ∨ j = 7 ∨ j = 8 ∨ j = 9 ∨ j = 10 ∨ j = 11 ∨ j = 12 ∨ j = 13 ∨ j = 14 ∨ j = 15 ∨ j = 16 ∨ j = 17 ∨ j = 18 ∨ j = 19 ∨ j = 20 := by omega
 rcases hc with e|e|e|e|e|e|e|e|e|e|e|e|e|e|e|e|e|e|e|e|e <;> (rw [e]; rfl)
theorem impl_opWords.V : awV impl_opWords.L = .agg #[.string ⟨#[]⟩, .string ⟨#[109, 111, 118]⟩, .string ⟨#[97, 100, 100]⟩, .string ⟨#[115, 117, 98]⟩, .string ⟨#[109, 117, 108]⟩, .string ⟨#[97, 110, 100]⟩, .string ⟨#[111, 114]⟩, .string ⟨#[120, 111, 114]⟩, .string ⟨#[115, 104, 108]⟩, .string ⟨#[115, 104, 114]⟩, .string ⟨#[100, 105, 118]⟩, .string ⟨#[109, 111, 100]⟩, .string ⟨#[115, 97, 109, 101]⟩, .string ⟨#[111, 116, 104, 101, 114]⟩, .string ⟨#[108, 101, 115, 115]⟩, .string ⟨#[109, 111, 114, 101]⟩, .string ⟨#[103, 111]⟩, .string ⟨#[108, 111, 97, 100]⟩, .string ⟨#[115, 116, 111, 114, 101]⟩, .string ⟨#[99, 97, 108, 108]⟩, .string ⟨#[101, 120, 105, 116]⟩] := rfl
theorem impl_opWords.reps {w : World} {base : Nat} {ok : Nat → Prop} : ∀ l : List ByteArray, Reps (Kd.string.M w base ok) Kd.string.sz l (l.map Value.string)
 | [] => Reps.none _ _
 | x :: l => Reps.one (show Kd.M Kd.string _ _ _ x [.string x] from rfl) (impl_opWords.reps l)
set_option maxRecDepth 100000 in
/-- The words in a variable of their own. -/
theorem impl_opWords.var {ops : Array Oper} {rest : List Oper} {o o2 : Oper} {a : Act} {Q : Exit → Act → World → Prop} {W w0 : World} (base : Nat) {N M : Tmp} (hgd : o.guard = none) (hd : o.dst = some N) (ho : o.op = .alloc 48)
  (hgd2 : o2.guard = none) (hd2 : o2.dst = none) (ho2 : o2.op = .store 48 (.tmp N) (.tmp M)) (hx : ∀ v, (a.put (some N) v).eval (.tmp N) = v) (hM : ∀ v, (a.put (some N) v).eval (.tmp M) = awV impl_opWords.L) (HB : Below base w0 W) (hbase : base ≤ W.heap.size)
  (h : ∀ g v1 w1, (∀ w : World, (Instr.sliceAt 48 (.pointer (some ⟨g, 0, none⟩)) none none none).run Tryd.prog w = .ok v1 w) → Kd.string.R 48 w1 base (fun _ => True) v1 impl_opWords.L → Below base w0 w1 → W.grownBy w1 none → (∃ b, v1.ownBlock = some b ∧ W.heap.size ≤ b) → wpList Tryd.prog ops Q rest (a.put (some N) (.pointer (some ⟨g, 0, none⟩))) w1) :
  wpList Tryd.prog ops Q (o :: o2 :: rest) a W := by
 refine Kd.event_run hgd (v := .pointer (some ⟨W.heap.size, 0, none⟩)) (w1 := W.alloc (.cells (List.replicate 21 (.string ⟨#[]⟩)).toArray 48)) (by unfold execOp; rw [ho]; go_simp) ?_
 rw [hd]
 refine wpList_store_row hgd2 48 (.tmp N) (.tmp M) ho2 W.heap.size (impl_opWords.L.map Value.string).toArray (hx _) (hM _) 48 _ (heap_alloc_last _ _) (by kernel_rfl) rfl (by kernel_rfl) ?_
 rw [World.setRow_alloc_new, hd2]
 refine h W.heap.size (.slice (some ⟨W.heap.size, 0, none⟩) 21 21) _ (fun w => by go_simp) ⟨fun _ _ => trivial, impl_opWords.L.map Value.string, ?_, impl_opWords.reps _⟩ (HB.alloc hbase _) (World.grownBy_alloc W _ none) ⟨W.heap.size, by simp [Value.ownBlock], Nat.le_refl _⟩
 have h2 := World.ownsRow_lit (base := base) (e := 48) (size := 1) W (impl_opWords.L.map Value.string).toArray 21 hbase (by simp [maxLen]) (by rfl)
 exact h2
set_option maxRecDepth 100000 in
theorem impl_opWords.calls (r : List ByteArray) (w : World) (h : impl_opWords.f = some r) :
  Calls Tryd.prog 31 #[] w fun e w' => e = .returned (awV r) ∧ Below w.heap.size w w' := by
 obtain rfl := Option.some.inj h
 rw [impl_opWords.V]
 have HB := Aside0.mk (Below.refl w.heap.size w)
 go_enter Tryd.func31, Tryd.ntmps31
 go_upto_region 1 with (fail)
 rename_i hK
 apply wp_region_lit
 refine wpList_buildTo rfl 48 _ rfl (some 1) rfl #[.string ⟨#[]⟩, .string ⟨#[109, 111, 118]⟩, .string ⟨#[97, 100, 100]⟩, .string ⟨#[115, 117, 98]⟩, .string ⟨#[109, 117, 108]⟩, .string ⟨#[97, 110, 100]⟩, .string ⟨#[111, 114]⟩, .string ⟨#[120, 111, 114]⟩, .string ⟨#[115, 104, 108]⟩, .string ⟨#[115, 104, 114]⟩, .string ⟨#[100, 105, 118]⟩, .string ⟨#[109, 111, 100]⟩, .string ⟨#[115, 97, 109, 101]⟩, .string ⟨#[111, 116, 104, 101, 114]⟩, .string ⟨#[108, 101, 115, 115]⟩, .string ⟨#[109, 111, 114, 101]⟩, .string ⟨#[103, 111]⟩, .string ⟨#[108, 111, 97, 100]⟩, .string ⟨#[115, 116, 111, 114, 101]⟩, .string ⟨#[99, 97, 108, 108]⟩, .string ⟨#[101, 120, 105, 116]⟩] (by kernel_rfl) ?_
 refine wpList_store_row rfl 48 _ _ rfl w.heap.size #[.string ⟨#[]⟩, .string ⟨#[109, 111, 118]⟩, .string ⟨#[97, 100, 100]⟩, .string ⟨#[115, 117, 98]⟩, .string ⟨#[109, 117, 108]⟩, .string ⟨#[97, 110, 100]⟩, .string ⟨#[111, 114]⟩, .string ⟨#[120, 111, 114]⟩, .string ⟨#[115, 104, 108]⟩, .string ⟨#[115, 104, 114]⟩, .string ⟨#[100, 105, 118]⟩, .string ⟨#[109, 111, 100]⟩, .string ⟨#[115, 97, 109, 101]⟩, .string ⟨#[111, 116, 104, 101, 114]⟩, .string ⟨#[108, 101, 115, 115]⟩, .string ⟨#[109, 111, 114, 101]⟩, .string ⟨#[103, 111]⟩, .string ⟨#[108, 111, 97, 100]⟩, .string ⟨#[115, 116, 111, 114, 101]⟩, .string ⟨#[99, 97, 108, 108]⟩, .string ⟨#[101, 120, 105, 116]⟩] rfl rfl 48 _ (heap_alloc_last _ _) (by kernel_rfl) rfl (by kernel_rfl) ?_
 rw [World.setRow_alloc_new]
 apply wpList_nil
 refine hK _ _ ?_
 go_wp2
 refine bodyPost_ret (results_cell_row rfl _ _ w.heap.size 48 _ (0, 0) _ rfl (heap_alloc_new _ _) Tryd.underlying48 rfl (by kernel_rfl)) rfl ?_
 exact ⟨rfl, zB⟩


/-! ### impl_callWords: function 38 -/
def impl_callWords.L : List ByteArray := [⟨#[]⟩, ⟨#[108, 111, 111, 107]⟩, ⟨#[112, 117, 116]⟩, ⟨#[102, 105, 110, 100]⟩, ⟨#[100, 114, 111, 112]⟩, ⟨#[114, 97, 110, 100]⟩, ⟨#[115, 101, 110, 100]⟩]
def impl_callWords.f : Option (List ByteArray) := some impl_callWords.L
set_option maxRecDepth 100000 in
theorem impl_callWords.idx (j : Int) (p : 0 ≤ j) (q : j < 7) (w : World) : (Instr.index 53 (awV impl_callWords.L) (.int .i64 j)).run Tryd.prog w = .ok (.string (rdOf ByteArray.empty impl_callWords.L j)) w := by
 have hc : j = 0 ∨ j = 1 ∨ j = 2 ∨ j = 3 ∨ j = 4 ∨ j = 5 ∨ j = 6 := by omega
 rcases hc with e|e|e|e|e|e|e <;> (rw [e]; rfl)
theorem impl_callWords.V : awV impl_callWords.L = .agg #[.string ⟨#[]⟩, .string ⟨#[108, 111, 111, 107]⟩, .string ⟨#[112, 117, 116]⟩, .string ⟨#[102, 105, 110, 100]⟩, .string ⟨#[100, 114, 111, 112]⟩, .string ⟨#[114, 97, 110, 100]⟩, .string ⟨#[115, 101, 110, 100]⟩] := rfl
theorem impl_callWords.reps {w : World} {base : Nat} {ok : Nat → Prop} : ∀ l : List ByteArray, Reps (Kd.string.M w base ok) Kd.string.sz l (l.map Value.string)
 | [] => Reps.none _ _
 | x :: l => Reps.one (show Kd.M Kd.string _ _ _ x [.string x] from rfl) (impl_callWords.reps l)
set_option maxRecDepth 100000 in
/-- The words in a variable of their own. -/
theorem impl_callWords.var {ops : Array Oper} {rest : List Oper} {o o2 : Oper} {a : Act} {Q : Exit → Act → World → Prop} {W w0 : World} (base : Nat) {N M : Tmp} (hgd : o.guard = none) (hd : o.dst = some N) (ho : o.op = .alloc 53)
  (hgd2 : o2.guard = none) (hd2 : o2.dst = none) (ho2 : o2.op = .store 53 (.tmp N) (.tmp M)) (hx : ∀ v, (a.put (some N) v).eval (.tmp N) = v) (hM : ∀ v, (a.put (some N) v).eval (.tmp M) = awV impl_callWords.L) (HB : Below base w0 W) (hbase : base ≤ W.heap.size)
  (h : ∀ g v1 w1, (∀ w : World, (Instr.sliceAt 53 (.pointer (some ⟨g, 0, none⟩)) none none none).run Tryd.prog w = .ok v1 w) → Kd.string.R 53 w1 base (fun _ => True) v1 impl_callWords.L → Below base w0 w1 → W.grownBy w1 none → (∃ b, v1.ownBlock = some b ∧ W.heap.size ≤ b) → wpList Tryd.prog ops Q rest (a.put (some N) (.pointer (some ⟨g, 0, none⟩))) w1) :
  wpList Tryd.prog ops Q (o :: o2 :: rest) a W := by
 refine Kd.event_run hgd (v := .pointer (some ⟨W.heap.size, 0, none⟩)) (w1 := W.alloc (.cells (List.replicate 7 (.string ⟨#[]⟩)).toArray 53)) (by unfold execOp; rw [ho]; go_simp) ?_
 rw [hd]
 refine wpList_store_row hgd2 53 (.tmp N) (.tmp M) ho2 W.heap.size (impl_callWords.L.map Value.string).toArray (hx _) (hM _) 53 _ (heap_alloc_last _ _) (by kernel_rfl) rfl (by kernel_rfl) ?_
 rw [World.setRow_alloc_new, hd2]
 refine h W.heap.size (.slice (some ⟨W.heap.size, 0, none⟩) 7 7) _ (fun w => by go_simp) ⟨fun _ _ => trivial, impl_callWords.L.map Value.string, ?_, impl_callWords.reps _⟩ (HB.alloc hbase _) (World.grownBy_alloc W _ none) ⟨W.heap.size, by simp [Value.ownBlock], Nat.le_refl _⟩
 have h2 := World.ownsRow_lit (base := base) (e := 53) (size := 1) W (impl_callWords.L.map Value.string).toArray 7 hbase (by simp [maxLen]) (by rfl)
 exact h2
set_option maxRecDepth 100000 in
theorem impl_callWords.calls (r : List ByteArray) (w : World) (h : impl_callWords.f = some r) :
  Calls Tryd.prog 38 #[] w fun e w' => e = .returned (awV r) ∧ Below w.heap.size w w' := by
 obtain rfl := Option.some.inj h
 rw [impl_callWords.V]
 have HB := Aside0.mk (Below.refl w.heap.size w)
 go_enter Tryd.func38, Tryd.ntmps38
 go_upto_region 1 with (fail)
 rename_i hK
 apply wp_region_lit
 refine wpList_buildTo rfl 53 _ rfl (some 1) rfl #[.string ⟨#[]⟩, .string ⟨#[108, 111, 111, 107]⟩, .string ⟨#[112, 117, 116]⟩, .string ⟨#[102, 105, 110, 100]⟩, .string ⟨#[100, 114, 111, 112]⟩, .string ⟨#[114, 97, 110, 100]⟩, .string ⟨#[115, 101, 110, 100]⟩] (by kernel_rfl) ?_
 refine wpList_store_row rfl 53 _ _ rfl w.heap.size #[.string ⟨#[]⟩, .string ⟨#[108, 111, 111, 107]⟩, .string ⟨#[112, 117, 116]⟩, .string ⟨#[102, 105, 110, 100]⟩, .string ⟨#[100, 114, 111, 112]⟩, .string ⟨#[114, 97, 110, 100]⟩, .string ⟨#[115, 101, 110, 100]⟩] rfl rfl 53 _ (heap_alloc_last _ _) (by kernel_rfl) rfl (by kernel_rfl) ?_
 rw [World.setRow_alloc_new]
 apply wpList_nil
 refine hK _ _ ?_
 go_wp2
 refine bodyPost_ret (results_cell_row rfl _ _ w.heap.size 53 _ (0, 0) _ rfl (heap_alloc_new _ _) Tryd.underlying53 rfl (by kernel_rfl)) rfl ?_
 exact ⟨rfl, zB⟩


/-! ### impl_reg: function 44 -/
def impl_reg.f (a0 : Int) : Option (ByteArray) := (strconv_Itoa.f a0).bind fun t252 => (if 1 + t252.size ≤ 9223372036854775807 then (some ((⟨#[114]⟩ : ByteArray) ++ t252)) else (none))
set_option maxHeartbeats 8000000 in
set_option maxRecDepth 100000 in
theorem impl_reg.calls (a0 : Int) (r : ByteArray) (w : World) (h : impl_reg.f a0 = some r) (zHT : Tryd.Tb w := by first | exact zHT | exact Tryd.tb_below zHT zB | exact Tryd.te_tb zHT | exact Tryd.tb_below (Tryd.te_tb zHT) zB) :
  Calls Tryd.prog 44 #[.int .i64 a0] w fun e w' => e = .returned (.string r) ∧ Below w.heap.size w w' := by
 have HB := Aside0.mk (Below.refl w.heap.size w)
 have H : ((strconv_Itoa.f a0).bind fun t252 => (if 1 + t252.size ≤ 9223372036854775807 then (some ((⟨#[114]⟩ : ByteArray) ++ t252)) else (none))) = some r := h
 clear h
 replace H := Option.bind_eq_some_iff.mp H
 obtain ⟨t252, A20, H⟩ := H
 try dsimp only at H
 have A2 := Aside0.mk A20
 clear A20
 by_cases c3 : 1 + t252.size ≤ 9223372036854775807
 ·rw [if_pos c3] at H
  have c3b0 := eq_true c3
  have c3b1 : decide (1 + t252.size ≤ 9223372036854775807) = true := decide_eq_true c3
  try have c3b2 : (9223372036854775807 < 1 + t252.size) = False := eq_false (Nat.not_lt.2 c3)
  obtain rfl := Option.some.inj H
  go_enter Tryd.func44, Tryd.ntmps44
  go_wp2_with (first | ((with_reducible refine gate_callee (f := 19) rfl ?_); refine gl 4 Tryd.func19 #[.int .i64 a0] ?_; (with_reducible refine (strconv_Itoa.calls a0 t252 _ A2.out).mono ?_); rintro e w4 ⟨rfl, hb⟩; refine ⟨_, rfl, ?_⟩; replace HB := zS hb; try clear hb))
  go_ret
  exact ⟨zR, zB⟩
 ·rw [if_neg c3] at H
  exact absurd H (by simp)

end Go.Proofs.YtllmbooicobmkaaDoor.Q
