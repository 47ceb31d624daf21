/- The machine's side of this seat's laws: Go functions as Lean functions, and their contracts. By a program of this work over the kit's print. -/
import Derived.Test.YtllmbooicobmkaaDoorQ0
import Derived.Test.YtllmbooicobmkaaDoorQ2
import Derived.Test.YtllmbooicobmkaaDoorQ4
namespace Go.Proofs.YtllmbooicobmkaaDoor.Q
open Go.RowKit Go.Proofs.YtllmbooicobmkaaDoorW.PrintWords Go.Proofs.YtllmbooicobmkaaDoorW.PrintLast Go.Proofs.YtllmbooicobmkaaDoorW.PrintMore
attribute [local go_sem] max2_int min2_int max_two min_two max_three min_three max_four min_four Go.Proofs.YtllmbooicobmkaaDoorN.not_i64 Go.Proofs.YtllmbooicobmkaaDoorN.isSome_setCell   -- for this text's walks alone
set_option linter.unusedVariables false
set_option linter.unusedSimpArgs false

/-! ### spec_l1InsOk: function 13 -/
def spec_l1InsOk.f (a0_0 : Int) (a0_1 : Int) (a0_2 : Int) (a0_3 : Int) (a0_4 : Int) (a0_5 : Int) : Option (Bool) := (spec_l1In.f a0_1 0 10).bind fun t187 => (if t187 = true then ((spec_l1In.f a0_2 (-1) 10).bind fun t188 => (if t188 = true then ((spec_l1In.f a0_3 (-128) 127).bind fun t189 => (if t189 = true then ((spec_l1In.f a0_4 0 4294967295).bind fun t190 => (if t190 = true then ((spec_l1Bare.f a0_0 a0_1 a0_2 a0_3 a0_4 a0_5).bind fun t191 => (some t191)) else (some false))) else (some false))) else (some false))) else (some false))
set_option maxHeartbeats 8000000 in
set_option maxRecDepth 100000 in
theorem spec_l1InsOk.calls (a0_0 : Int) (a0_1 : Int) (a0_2 : Int) (a0_3 : Int) (a0_4 : Int) (a0_5 : Int) (r : Bool) (w : World) (h : spec_l1InsOk.f a0_0 a0_1 a0_2 a0_3 a0_4 a0_5 = some r) :
  Calls Tryd.prog 13 #[.agg #[.int .i64 a0_0, .int .i64 a0_1, .int .i64 a0_2, .int .i64 a0_3, .int .i64 a0_4, .int .i64 a0_5]] w fun e w' => e = .returned (.bool r) ∧ Below w.heap.size w w' := by
 have hu23 := Tryd.underlying23
 have HB := Aside0.mk (Below.refl w.heap.size w)
 have H : ((spec_l1In.f a0_1 0 10).bind fun t187 => (if t187 = true then ((spec_l1In.f a0_2 (-1) 10).bind fun t188 => (if t188 = true then ((spec_l1In.f a0_3 (-128) 127).bind fun t189 => (if t189 = true then ((spec_l1In.f a0_4 0 4294967295).bind fun t190 => (if t190 = true then ((spec_l1Bare.f a0_0 a0_1 a0_2 a0_3 a0_4 a0_5).bind fun t191 => (some t191)) else (some false))) else (some false))) else (some false))) else (some false))) = some r := h
 clear h
 replace H := Option.bind_eq_some_iff.mp H
 obtain ⟨t187, A20, H⟩ := H
 try dsimp only at H
 have A2 := Aside0.mk A20
 clear A20
 by_cases c3 : t187 = true
 ·subst c3
  rw [if_pos rfl] at H
  replace H := Option.bind_eq_some_iff.mp H
  obtain ⟨t188, A40, H⟩ := H
  try dsimp only at H
  have A4 := Aside0.mk A40
  clear A40
  by_cases c5 : t188 = true
  ·subst c5
   rw [if_pos rfl] at H
   replace H := Option.bind_eq_some_iff.mp H
   obtain ⟨t189, A60, H⟩ := H
   try dsimp only at H
   have A6 := Aside0.mk A60
   clear A60
   by_cases c7 : t189 = true
   ·subst c7
    rw [if_pos rfl] at H
    replace H := Option.bind_eq_some_iff.mp H
    obtain ⟨t190, A80, H⟩ := H
    try dsimp only at H
    have A8 := Aside0.mk A80
    clear A80
    by_cases c9 : t190 = true
    ·subst c9
     rw [if_pos rfl] at H
     replace H := Option.bind_eq_some_iff.mp H
     obtain ⟨t191, A100, H⟩ := H
     try dsimp only at H
     have A10 := Aside0.mk A100
     clear A100
     obtain rfl := Option.some.inj H
     go_enter Tryd.func13, Tryd.ntmps13
     go_wp2_with (first | ((with_reducible refine gate_dst (N := 1) rfl ?_); refine be 1 #[.int .i64 a0_0, .int .i64 a0_1, .int .i64 a0_2, .int .i64 a0_3, .int .i64 a0_4, .int .i64 a0_5] 23 ?_; intro gb186 hg w11 hbox hb; have BK186 := Aside0.mk hbox; have GW186 := zW hg; replace HB := zS hb; have GE186 := GW186; clear hb hbox hg; obtain ⟨hcz12_0, hcz12_1, hcz12_2, hcz12_3, hcz12_4, hcz12_5, hfz12_0, hfz12_1, hfz12_2, hfz12_3, hfz12_4, hfz12_5⟩ := zc6 BK186) | ((with_reducible refine gate_callee (f := 28) rfl ?_); refine gl 5 Tryd.func28 #[.int .i64 a0_1, .int .i64 0, .int .i64 10] ?_; (with_reducible refine (spec_l1In.calls a0_1 0 10 true _ A2.out).mono ?_); rintro e w' ⟨rfl, ⟨nd, rfl⟩⟩; refine ⟨_, rfl, ?_⟩) | (go_at_call 28; (with_reducible refine (spec_l1In.calls a0_2 (-1) 10 true _ A4.out).mono ?_); rintro e w' ⟨rfl, ⟨nd, rfl⟩⟩) | (go_at_call 28; (with_reducible refine (spec_l1In.calls a0_3 (-128) 127 true _ A6.out).mono ?_); rintro e w' ⟨rfl, ⟨nd, rfl⟩⟩) | (go_at_call 28; (with_reducible refine (spec_l1In.calls a0_4 0 4294967295 true _ A8.out).mono ?_); rintro e w' ⟨rfl, ⟨nd, rfl⟩⟩) | (go_at_call 29; (with_reducible refine (spec_l1Bare.calls a0_0 a0_1 a0_2 a0_3 a0_4 a0_5 t191 _ A10.out).mono ?_); rintro e w13 ⟨rfl, hb⟩; replace BK186 := zb BK186 hb rfl; replace HB := zS hb; try clear hb))
     go_ret
     exact ⟨zR, zB⟩
    ·replace c9 := Bool.eq_false_iff.mpr c9
     subst c9
     rw [if_neg (show ¬ (false = true) by decide)] at H
     obtain rfl := Option.some.inj H
     go_enter Tryd.func13, Tryd.ntmps13
     go_wp2_with (first | ((with_reducible refine gate_dst (N := 1) rfl ?_); refine be 1 #[.int .i64 a0_0, .int .i64 a0_1, .int .i64 a0_2, .int .i64 a0_3, .int .i64 a0_4, .int .i64 a0_5] 23 ?_; intro gb186 hg w14 hbox hb; have BK186 := Aside0.mk hbox; have GW186 := zW hg; replace HB := zS hb; have GE186 := GW186; clear hb hbox hg; obtain ⟨hcz15_0, hcz15_1, hcz15_2, hcz15_3, hcz15_4, hcz15_5, hfz15_0, hfz15_1, hfz15_2, hfz15_3, hfz15_4, hfz15_5⟩ := zc6 BK186) | ((with_reducible refine gate_callee (f := 28) rfl ?_); refine gl 5 Tryd.func28 #[.int .i64 a0_1, .int .i64 0, .int .i64 10] ?_; (with_reducible refine (spec_l1In.calls a0_1 0 10 true _ A2.out).mono ?_); rintro e w' ⟨rfl, ⟨nd, rfl⟩⟩; refine ⟨_, rfl, ?_⟩) | (go_at_call 28; (with_reducible refine (spec_l1In.calls a0_2 (-1) 10 true _ A4.out).mono ?_); rintro e w' ⟨rfl, ⟨nd, rfl⟩⟩) | (go_at_call 28; (with_reducible refine (spec_l1In.calls a0_3 (-128) 127 true _ A6.out).mono ?_); rintro e w' ⟨rfl, ⟨nd, rfl⟩⟩) | (go_at_call 28; (with_reducible refine (spec_l1In.calls a0_4 0 4294967295 false _ A8.out).mono ?_); rintro e w' ⟨rfl, ⟨nd, rfl⟩⟩))
     go_ret
     exact ⟨zR, zB⟩
   ·replace c7 := Bool.eq_false_iff.mpr c7
    subst c7
    rw [if_neg (show ¬ (false = true) by decide)] at H
    obtain rfl := Option.some.inj H
    go_enter Tryd.func13, Tryd.ntmps13
    go_wp2_with (first | ((with_reducible refine gate_dst (N := 1) rfl ?_); refine be 1 #[.int .i64 a0_0, .int .i64 a0_1, .int .i64 a0_2, .int .i64 a0_3, .int .i64 a0_4, .int .i64 a0_5] 23 ?_; intro gb186 hg w16 hbox hb; have BK186 := Aside0.mk hbox; have GW186 := zW hg; replace HB := zS hb; have GE186 := GW186; clear hb hbox hg; obtain ⟨hcz17_0, hcz17_1, hcz17_2, hcz17_3, hcz17_4, hcz17_5, hfz17_0, hfz17_1, hfz17_2, hfz17_3, hfz17_4, hfz17_5⟩ := zc6 BK186) | ((with_reducible refine gate_callee (f := 28) rfl ?_); refine gl 5 Tryd.func28 #[.int .i64 a0_1, .int .i64 0, .int .i64 10] ?_; (with_reducible refine (spec_l1In.calls a0_1 0 10 true _ A2.out).mono ?_); rintro e w' ⟨rfl, ⟨nd, rfl⟩⟩; refine ⟨_, rfl, ?_⟩) | (go_at_call 28; (with_reducible refine (spec_l1In.calls a0_2 (-1) 10 true _ A4.out).mono ?_); rintro e w' ⟨rfl, ⟨nd, rfl⟩⟩) | (go_at_call 28; (with_reducible refine (spec_l1In.calls a0_3 (-128) 127 false _ A6.out).mono ?_); rintro e w' ⟨rfl, ⟨nd, rfl⟩⟩))
    go_ret
    exact ⟨zR, zB⟩
  ·replace c5 := Bool.eq_false_iff.mpr c5
   subst c5
   rw [if_neg (show ¬ (false = true) by decide)] at H
   obtain rfl := Option.some.inj H
   go_enter Tryd.func13, Tryd.ntmps13
   go_wp2_with (first | ((with_reducible refine gate_dst (N := 1) rfl ?_); refine be 1 #[.int .i64 a0_0, .int .i64 a0_1, .int .i64 a0_2, .int .i64 a0_3, .int .i64 a0_4, .int .i64 a0_5] 23 ?_; intro gb186 hg w18 hbox hb; have BK186 := Aside0.mk hbox; have GW186 := zW hg; replace HB := zS hb; have GE186 := GW186; clear hb hbox hg; obtain ⟨hcz19_0, hcz19_1, hcz19_2, hcz19_3, hcz19_4, hcz19_5, hfz19_0, hfz19_1, hfz19_2, hfz19_3, hfz19_4, hfz19_5⟩ := zc6 BK186) | ((with_reducible refine gate_callee (f := 28) rfl ?_); refine gl 5 Tryd.func28 #[.int .i64 a0_1, .int .i64 0, .int .i64 10] ?_; (with_reducible refine (spec_l1In.calls a0_1 0 10 true _ A2.out).mono ?_); rintro e w' ⟨rfl, ⟨nd, rfl⟩⟩; refine ⟨_, rfl, ?_⟩) | (go_at_call 28; (with_reducible refine (spec_l1In.calls a0_2 (-1) 10 false _ A4.out).mono ?_); rintro e w' ⟨rfl, ⟨nd, rfl⟩⟩))
   go_ret
   exact ⟨zR, zB⟩
 ·replace c3 := Bool.eq_false_iff.mpr c3
  subst c3
  rw [if_neg (show ¬ (false = true) by decide)] at H
  obtain rfl := Option.some.inj H
  go_enter Tryd.func13, Tryd.ntmps13
  go_wp2_with (first | ((with_reducible refine gate_dst (N := 1) rfl ?_); refine be 1 #[.int .i64 a0_0, .int .i64 a0_1, .int .i64 a0_2, .int .i64 a0_3, .int .i64 a0_4, .int .i64 a0_5] 23 ?_; intro gb186 hg w20 hbox hb; have BK186 := Aside0.mk hbox; have GW186 := zW hg; replace HB := zS hb; have GE186 := GW186; clear hb hbox hg; obtain ⟨hcz21_0, hcz21_1, hcz21_2, hcz21_3, hcz21_4, hcz21_5, hfz21_0, hfz21_1, hfz21_2, hfz21_3, hfz21_4, hfz21_5⟩ := zc6 BK186) | ((with_reducible refine gate_callee (f := 28) rfl ?_); refine gl 5 Tryd.func28 #[.int .i64 a0_1, .int .i64 0, .int .i64 10] ?_; (with_reducible refine (spec_l1In.calls a0_1 0 10 false _ A2.out).mono ?_); rintro e w' ⟨rfl, ⟨nd, rfl⟩⟩; refine ⟨_, rfl, ?_⟩))
  go_ret
  exact ⟨zR, zB⟩

/-! ### spec_l1Reg: function 30 -/
def spec_l1Reg.f (k : Nat) (a0 : Int) (a1 : Int) : Option (ByteArray) := if a0 ≥ 0 then ((spec_l1Dec.f k a0).bind fun t192 => (if 1 + t192.size ≤ 9223372036854775807 then (some ((⟨#[114]⟩ : ByteArray) ++ t192)) else (none))) else ((spec_l1Dec.f k a1).bind fun t193 => (some t193))

set_option maxHeartbeats 8000000 in
set_option maxRecDepth 100000 in
theorem spec_l1Reg.calls (k : Nat) (a0 : Int) (a1 : Int) (r : ByteArray) (w : World) (h : spec_l1Reg.f k a0 a1 = some r) :
  Calls Tryd.prog 30 #[.int .i64 a0, .int .i64 a1] w fun e w' => e = .returned (.string r) ∧ Below w.heap.size w w' := by
 have HB := Aside0.mk (Below.refl w.heap.size w)
 have H : (if a0 ≥ 0 then ((spec_l1Dec.f k a0).bind fun t192 => (if 1 + t192.size ≤ 9223372036854775807 then (some ((⟨#[114]⟩ : ByteArray) ++ t192)) else (none))) else ((spec_l1Dec.f k a1).bind fun t193 => (some t193))) = some r := h
 clear h
 by_cases c3 : a0 ≥ 0
 ·rw [if_pos c3] at H
  have c3b0 : decide (0 ≤ a0) = true := decide_eq_true c3
  clear c3
  replace H := Option.bind_eq_some_iff.mp H
  obtain ⟨t192, A40, H⟩ := H
  try dsimp only at H
  have A4 := Aside0.mk A40
  clear A40
  by_cases c5 : 1 + t192.size ≤ 9223372036854775807
  ·rw [if_pos c5] at H
   have c5b0 := eq_true c5
   have c5b1 : decide (1 + t192.size ≤ 9223372036854775807) = true := decide_eq_true c5
   try have c5b2 : (9223372036854775807 < 1 + t192.size) = False := eq_false (Nat.not_lt.2 c5)
   obtain rfl := Option.some.inj H
   go_enter Tryd.func30, Tryd.ntmps30
   go_wp2_with (first | ((with_reducible refine gate_callee (f := 22) rfl ?_); refine gl 8 Tryd.func22 #[.int .i64 a0] ?_; (with_reducible refine (spec_l1Dec.calls k a0 t192 _ A4.out).mono ?_); rintro e w6 ⟨rfl, hb⟩; refine ⟨_, rfl, ?_⟩; replace HB := zS hb; try clear hb))
   go_ret
   exact ⟨zR, zB⟩
  ·rw [if_neg c5] at H
   exact absurd H (by simp)
 ·rw [if_neg c3] at H
  have c3b0 : decide (0 ≤ a0) = false := decide_eq_false c3
  clear c3
  replace H := Option.bind_eq_some_iff.mp H
  obtain ⟨t193, A70, H⟩ := H
  try dsimp only at H
  have A7 := Aside0.mk A70
  clear A70
  obtain rfl := Option.some.inj H
  go_enter Tryd.func30, Tryd.ntmps30
  go_wp2_with (first | ((with_reducible refine gate_callee (f := 22) rfl ?_); refine gl 11 Tryd.func22 #[.int .i64 a1] ?_; (with_reducible refine (spec_l1Dec.calls k a1 t193 _ A7.out).mono ?_); rintro e w8 ⟨rfl, hb⟩; refine ⟨_, rfl, ?_⟩; replace HB := zS hb; try clear hb))
  go_ret
  exact ⟨zR, zB⟩

end Go.Proofs.YtllmbooicobmkaaDoor.Q
