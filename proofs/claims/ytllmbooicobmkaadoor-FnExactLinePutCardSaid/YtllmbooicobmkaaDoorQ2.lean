/- The machine's side of this seat's laws: Go functions as Lean functions, and their contracts. By a program of this work over the kit's print. -/
import Derived.Test.YtllmbooicobmkaaDoorQ0
import Derived.Test.YtllmbooicobmkaaDoorQ1
namespace Go.Proofs.YtllmbooicobmkaaDoor.Q
open Go.RowKit Go.Proofs.YtllmbooicobmkaaDoorW.PrintWords Go.Proofs.YtllmbooicobmkaaDoorW.PrintLast Go.Proofs.YtllmbooicobmkaaDoorW.PrintMore
attribute [local go_sem] max2_int min2_int max_two min_two max_three min_three max_four min_four Go.Proofs.YtllmbooicobmkaaDoorN.not_i64 Go.Proofs.YtllmbooicobmkaaDoorN.isSome_setCell   -- for this text's walks alone
set_option linter.unusedVariables false
set_option linter.unusedSimpArgs false

attribute [local go_sem high] eqA23
/-! ### spec_l1In: function 28 -/
def spec_l1In.f (a0 : Int) (a1 : Int) (a2 : Int) : Option (Bool) := if a0 ≥ a1 then (some (decide (a0 ≤ a2))) else (some false)
set_option maxHeartbeats 8000000 in
set_option maxRecDepth 100000 in
theorem spec_l1In.calls (a0 : Int) (a1 : Int) (a2 : Int) (r : Bool) (w : World) (h : spec_l1In.f a0 a1 a2 = some r) :
  Calls Tryd.prog 28 #[.int .i64 a0, .int .i64 a1, .int .i64 a2] w fun e w' => e = .returned (.bool r) ∧ Drawn0 w w' := by
 have H : (if a0 ≥ a1 then (some (decide (a0 ≤ a2))) else (some false)) = some r := h
 clear h
 by_cases c4 : a0 ≥ a1
 ·rw [if_pos c4] at H
  have c4b0 : decide (a1 ≤ a0) = true := decide_eq_true c4
  clear c4
  obtain rfl := Option.some.inj H
  go_enter Tryd.func28, Tryd.ntmps28
  go_wp2
  go_ret
  exact ⟨by first | rfl | (simp; done) | (simp [*]; done), by repeat (first | exact Drawn0.refl _ | apply Drawn0.step)⟩
 ·rw [if_neg c4] at H
  have c4b0 : decide (a1 ≤ a0) = false := decide_eq_false c4
  clear c4
  obtain rfl := Option.some.inj H
  go_enter Tryd.func28, Tryd.ntmps28
  go_wp2
  go_ret
  exact ⟨by first | rfl | (simp; done) | (simp [*]; done), by repeat (first | exact Drawn0.refl _ | apply Drawn0.step)⟩

/-! ### spec_l1Alu: function 23 -/
def spec_l1Alu.f (a0 : Int) : Option (Bool) := (spec_l1In.f a0 1 11).bind fun t101 => (some t101)
set_option maxHeartbeats 8000000 in
set_option maxRecDepth 100000 in
theorem spec_l1Alu.calls (a0 : Int) (r : Bool) (w : World) (h : spec_l1Alu.f a0 = some r) :
  Calls Tryd.prog 23 #[.int .i64 a0] w fun e w' => e = .returned (.bool r) ∧ Drawn0 w w' := by
 have H : ((spec_l1In.f a0 1 11).bind fun t101 => (some t101)) = some r := h
 clear h
 replace H := Option.bind_eq_some_iff.mp H
 obtain ⟨t101, A20, H⟩ := H
 try dsimp only at H
 have A2 := Aside0.mk A20
 clear A20
 obtain rfl := Option.some.inj H
 go_enter Tryd.func23, Tryd.ntmps23
 go_wp2_with (first | ((with_reducible refine gate_callee (f := 28) rfl ?_); refine gl 4 Tryd.func28 #[.int .i64 a0, .int .i64 1, .int .i64 11] ?_; (with_reducible refine (spec_l1In.calls a0 1 11 t101 _ A2.out).mono ?_); rintro e w' ⟨rfl, ⟨nd, rfl⟩⟩; refine ⟨_, rfl, ?_⟩))
 go_ret
 exact ⟨by first | rfl | (simp; done) | (simp [*]; done), by repeat (first | exact Drawn0.refl _ | apply Drawn0.step)⟩

/-! ### spec_l1Jump: function 24 -/
def spec_l1Jump.f (a0 : Int) : Option (Bool) := (spec_l1In.f a0 12 15).bind fun t102 => (some t102)
set_option maxHeartbeats 8000000 in
set_option maxRecDepth 100000 in
theorem spec_l1Jump.calls (a0 : Int) (r : Bool) (w : World) (h : spec_l1Jump.f a0 = some r) :
  Calls Tryd.prog 24 #[.int .i64 a0] w fun e w' => e = .returned (.bool r) ∧ Drawn0 w w' := by
 have H : ((spec_l1In.f a0 12 15).bind fun t102 => (some t102)) = some r := h
 clear h
 replace H := Option.bind_eq_some_iff.mp H
 obtain ⟨t102, A20, H⟩ := H
 try dsimp only at H
 have A2 := Aside0.mk A20
 clear A20
 obtain rfl := Option.some.inj H
 go_enter Tryd.func24, Tryd.ntmps24
 go_wp2_with (first | ((with_reducible refine gate_callee (f := 28) rfl ?_); refine gl 4 Tryd.func28 #[.int .i64 a0, .int .i64 12, .int .i64 15] ?_; (with_reducible refine (spec_l1In.calls a0 12 15 t102 _ A2.out).mono ?_); rintro e w' ⟨rfl, ⟨nd, rfl⟩⟩; refine ⟨_, rfl, ?_⟩))
 go_ret
 exact ⟨by first | rfl | (simp; done) | (simp [*]; done), by repeat (first | exact Drawn0.refl _ | apply Drawn0.step)⟩

/-! ### spec_l1Bare: function 29 -/
def spec_l1Bare.f (a0_0 : Int) (a0_1 : Int) (a0_2 : Int) (a0_3 : Int) (a0_4 : Int) (a0_5 : Int) : Option (Bool) := (spec_l1Alu.f a0_0).bind fun t104 => (if t104 = true then (if a0_3 = 0 then (if a0_5 = 0 then (if a0_2 < 0 then (some true) else (some (a0_4 == 0))) else (some false)) else (some false)) else ((spec_l1Jump.f a0_0).bind fun t105 => (if t105 = true then (if a0_5 = 0 then (if a0_2 < 0 then (some true) else (some (a0_4 == 0))) else (some false)) else (if a0_0 = 16 then (if a0_1 = 0 then (if a0_2 = (-1) then (if a0_4 = 0 then (some (a0_5 == 0)) else (some false)) else (some false)) else (some false)) else (if a0_0 = 17 then (if a0_2 ≥ 0 then (if a0_4 = 0 then (if a0_5 = 1 then (some true) else (if a0_5 = 2 then (some true) else (some (a0_5 == 4)))) else (some false)) else (some false)) else (if a0_0 = 18 then (if a0_2 < 0 then (if a0_5 = 1 then (some true) else (if a0_5 = 2 then (some true) else (some (a0_5 == 4)))) else (if a0_4 = 0 then (if a0_5 = 1 then (some true) else (if a0_5 = 2 then (some true) else (some (a0_5 == 4)))) else (some false))) else (if a0_0 = 19 then (if a0_1 = 0 then (if a0_2 = (-1) then (if a0_3 = 0 then (if a0_5 = 0 then ((spec_l1In.f a0_4 1 6).bind fun t106 => (some t106)) else (some false)) else (some false)) else (some false)) else (some false)) else (if a0_0 = 20 then (some (a0_0 == 20 && (a0_1 == 0 && (a0_2 == (-1) && (a0_3 == 0 && (a0_4 == 0 && (a0_5 == 0))))))) else (some false)))))))))
set_option maxHeartbeats 8000000 in
set_option maxRecDepth 100000 in
theorem spec_l1Bare.calls (a0_0 : Int) (a0_1 : Int) (a0_2 : Int) (a0_3 : Int) (a0_4 : Int) (a0_5 : Int) (r : Bool) (w : World) (h : spec_l1Bare.f a0_0 a0_1 a0_2 a0_3 a0_4 a0_5 = some r) :
  Calls Tryd.prog 29 #[.agg #[.int .i64 a0_0, .int .i64 a0_1, .int .i64 a0_2, .int .i64 a0_3, .int .i64 a0_4, .int .i64 a0_5]] w fun e w' => e = .returned (.bool r) ∧ Below w.heap.size w w' := by
 have hu23 := Tryd.underlying23
 have HB := Aside0.mk (Below.refl w.heap.size w)
 have H : ((spec_l1Alu.f a0_0).bind fun t104 => (if t104 = true then (if a0_3 = 0 then (if a0_5 = 0 then (if a0_2 < 0 then (some true) else (some (a0_4 == 0))) else (some false)) else (some false)) else ((spec_l1Jump.f a0_0).bind fun t105 => (if t105 = true then (if a0_5 = 0 then (if a0_2 < 0 then (some true) else (some (a0_4 == 0))) else (some false)) else (if a0_0 = 16 then (if a0_1 = 0 then (if a0_2 = (-1) then (if a0_4 = 0 then (some (a0_5 == 0)) else (some false)) else (some false)) else (some false)) else (if a0_0 = 17 then (if a0_2 ≥ 0 then (if a0_4 = 0 then (if a0_5 = 1 then (some true) else (if a0_5 = 2 then (some true) else (some (a0_5 == 4)))) else (some false)) else (some false)) else (if a0_0 = 18 then (if a0_2 < 0 then (if a0_5 = 1 then (some true) else (if a0_5 = 2 then (some true) else (some (a0_5 == 4)))) else (if a0_4 = 0 then (if a0_5 = 1 then (some true) else (if a0_5 = 2 then (some true) else (some (a0_5 == 4)))) else (some false))) else (if a0_0 = 19 then (if a0_1 = 0 then (if a0_2 = (-1) then (if a0_3 = 0 then (if a0_5 = 0 then ((spec_l1In.f a0_4 1 6).bind fun t106 => (some t106)) else (some false)) else (some false)) else (some false)) else (some false)) else (if a0_0 = 20 then (some (a0_0 == 20 && (a0_1 == 0 && (a0_2 == (-1) && (a0_3 == 0 && (a0_4 == 0 && (a0_5 == 0))))))) else (some false)))))))))) = some r := h
 clear h
 replace H := Option.bind_eq_some_iff.mp H
 obtain ⟨t104, A20, H⟩ := H
 try dsimp only at H
 have A2 := Aside0.mk A20
 clear A20
 by_cases c3 : t104 = true
 ·subst c3
  rw [if_pos rfl] at H
  by_cases c4 : a0_3 = 0
  ·rw [if_pos c4] at H
   have c4b0 : (a0_3 == 0) = true := beq_iff_eq.mpr c4
   have c4b1 : (a0_3 != 0) = false := bne_eq_false_iff_eq.mpr c4
   clear c4
   by_cases c5 : a0_5 = 0
   ·rw [if_pos c5] at H
    have c5b0 : (a0_5 == 0) = true := beq_iff_eq.mpr c5
    have c5b1 : (a0_5 != 0) = false := bne_eq_false_iff_eq.mpr c5
    clear c5
    by_cases c6 : a0_2 < 0
    ·rw [if_pos c6] at H
     have c6b0 : decide (a0_2 < 0) = true := decide_eq_true c6
     clear c6
     obtain rfl := Option.some.inj H
     go_enter Tryd.func29, Tryd.ntmps29
     go_wp2_with (first | ((with_reducible refine gate_dst (N := 1) rfl ?_); refine be 1 #[.int .i64 a0_0, .int .i64 a0_1, .int .i64 a0_2, .int .i64 a0_3, .int .i64 a0_4, .int .i64 a0_5] 23 ?_; intro gb103 hg w7 hbox hb; have BK103 := Aside0.mk hbox; have GW103 := zW hg; replace HB := zS hb; have GE103 := GW103; clear hb hbox hg; obtain ⟨hcz8_0, hcz8_1, hcz8_2, hcz8_3, hcz8_4, hcz8_5, hfz8_0, hfz8_1, hfz8_2, hfz8_3, hfz8_4, hfz8_5⟩ := zc6 BK103) | ((with_reducible refine gate_callee (f := 23) rfl ?_); refine gl 6 Tryd.func23 #[.int .i64 a0_0] ?_; (with_reducible refine (spec_l1Alu.calls a0_0 true _ A2.out).mono ?_); rintro e w' ⟨rfl, ⟨nd, rfl⟩⟩; refine ⟨_, rfl, ?_⟩))
     go_ret
     exact ⟨zR, zB⟩
    ·rw [if_neg c6] at H
     have c6b0 : decide (a0_2 < 0) = false := decide_eq_false c6
     clear c6
     obtain rfl := Option.some.inj H
     go_enter Tryd.func29, Tryd.ntmps29
     go_wp2_with (first | ((with_reducible refine gate_dst (N := 1) rfl ?_); refine be 1 #[.int .i64 a0_0, .int .i64 a0_1, .int .i64 a0_2, .int .i64 a0_3, .int .i64 a0_4, .int .i64 a0_5] 23 ?_; intro gb103 hg w9 hbox hb; have BK103 := Aside0.mk hbox; have GW103 := zW hg; replace HB := zS hb; have GE103 := GW103; clear hb hbox hg; obtain ⟨hcz10_0, hcz10_1, hcz10_2, hcz10_3, hcz10_4, hcz10_5, hfz10_0, hfz10_1, hfz10_2, hfz10_3, hfz10_4, hfz10_5⟩ := zc6 BK103) | ((with_reducible refine gate_callee (f := 23) rfl ?_); refine gl 6 Tryd.func23 #[.int .i64 a0_0] ?_; (with_reducible refine (spec_l1Alu.calls a0_0 true _ A2.out).mono ?_); rintro e w' ⟨rfl, ⟨nd, rfl⟩⟩; refine ⟨_, rfl, ?_⟩))
     go_ret
     exact ⟨zR, zB⟩
   ·rw [if_neg c5] at H
    have c5b0 : (a0_5 == 0) = false := beq_eq_false_iff_ne.mpr c5
    have c5b1 : (a0_5 != 0) = true := bne_iff_ne.mpr c5
    obtain rfl := Option.some.inj H
    go_enter Tryd.func29, Tryd.ntmps29
    go_wp2_with (first | ((with_reducible refine gate_dst (N := 1) rfl ?_); refine be 1 #[.int .i64 a0_0, .int .i64 a0_1, .int .i64 a0_2, .int .i64 a0_3, .int .i64 a0_4, .int .i64 a0_5] 23 ?_; intro gb103 hg w11 hbox hb; have BK103 := Aside0.mk hbox; have GW103 := zW hg; replace HB := zS hb; have GE103 := GW103; clear hb hbox hg; obtain ⟨hcz12_0, hcz12_1, hcz12_2, hcz12_3, hcz12_4, hcz12_5, hfz12_0, hfz12_1, hfz12_2, hfz12_3, hfz12_4, hfz12_5⟩ := zc6 BK103) | ((with_reducible refine gate_callee (f := 23) rfl ?_); refine gl 6 Tryd.func23 #[.int .i64 a0_0] ?_; (with_reducible refine (spec_l1Alu.calls a0_0 true _ A2.out).mono ?_); rintro e w' ⟨rfl, ⟨nd, rfl⟩⟩; refine ⟨_, rfl, ?_⟩))
    go_ret
    exact ⟨zR, zB⟩
  ·rw [if_neg c4] at H
   have c4b0 : (a0_3 == 0) = false := beq_eq_false_iff_ne.mpr c4
   have c4b1 : (a0_3 != 0) = true := bne_iff_ne.mpr c4
   obtain rfl := Option.some.inj H
   go_enter Tryd.func29, Tryd.ntmps29
   go_wp2_with (first | ((with_reducible refine gate_dst (N := 1) rfl ?_); refine be 1 #[.int .i64 a0_0, .int .i64 a0_1, .int .i64 a0_2, .int .i64 a0_3, .int .i64 a0_4, .int .i64 a0_5] 23 ?_; intro gb103 hg w13 hbox hb; have BK103 := Aside0.mk hbox; have GW103 := zW hg; replace HB := zS hb; have GE103 := GW103; clear hb hbox hg; obtain ⟨hcz14_0, hcz14_1, hcz14_2, hcz14_3, hcz14_4, hcz14_5, hfz14_0, hfz14_1, hfz14_2, hfz14_3, hfz14_4, hfz14_5⟩ := zc6 BK103) | ((with_reducible refine gate_callee (f := 23) rfl ?_); refine gl 6 Tryd.func23 #[.int .i64 a0_0] ?_; (with_reducible refine (spec_l1Alu.calls a0_0 true _ A2.out).mono ?_); rintro e w' ⟨rfl, ⟨nd, rfl⟩⟩; refine ⟨_, rfl, ?_⟩))
   go_ret
   exact ⟨zR, zB⟩
 ·replace c3 := Bool.eq_false_iff.mpr c3
  subst c3
  rw [if_neg (show ¬ (false = true) by decide)] at H
  replace H := Option.bind_eq_some_iff.mp H
  obtain ⟨t105, A150, H⟩ := H
  try dsimp only at H
  have A15 := Aside0.mk A150
  clear A150
  by_cases c16 : t105 = true
  ·subst c16
   rw [if_pos rfl] at H
   by_cases c17 : a0_5 = 0
   ·rw [if_pos c17] at H
    have c17b0 : (a0_5 == 0) = true := beq_iff_eq.mpr c17
    have c17b1 : (a0_5 != 0) = false := bne_eq_false_iff_eq.mpr c17
    clear c17
    by_cases c18 : a0_2 < 0
    ·rw [if_pos c18] at H
     have c18b0 : decide (a0_2 < 0) = true := decide_eq_true c18
     clear c18
     obtain rfl := Option.some.inj H
     go_enter Tryd.func29, Tryd.ntmps29
     go_wp2_with (first | ((with_reducible refine gate_dst (N := 1) rfl ?_); refine be 1 #[.int .i64 a0_0, .int .i64 a0_1, .int .i64 a0_2, .int .i64 a0_3, .int .i64 a0_4, .int .i64 a0_5] 23 ?_; intro gb103 hg w19 hbox hb; have BK103 := Aside0.mk hbox; have GW103 := zW hg; replace HB := zS hb; have GE103 := GW103; clear hb hbox hg; obtain ⟨hcz20_0, hcz20_1, hcz20_2, hcz20_3, hcz20_4, hcz20_5, hfz20_0, hfz20_1, hfz20_2, hfz20_3, hfz20_4, hfz20_5⟩ := zc6 BK103) | ((with_reducible refine gate_callee (f := 23) rfl ?_); refine gl 6 Tryd.func23 #[.int .i64 a0_0] ?_; (with_reducible refine (spec_l1Alu.calls a0_0 false _ A2.out).mono ?_); rintro e w' ⟨rfl, ⟨nd, rfl⟩⟩; refine ⟨_, rfl, ?_⟩) | ((with_reducible refine gate_callee (f := 24) rfl ?_); refine gl 28 Tryd.func24 #[.int .i64 a0_0] ?_; (with_reducible refine (spec_l1Jump.calls a0_0 true _ A15.out).mono ?_); rintro e w' ⟨rfl, ⟨nd, rfl⟩⟩; refine ⟨_, rfl, ?_⟩))
     go_ret
     exact ⟨zR, zB⟩
    ·rw [if_neg c18] at H
     have c18b0 : decide (a0_2 < 0) = false := decide_eq_false c18
     clear c18
     obtain rfl := Option.some.inj H
     go_enter Tryd.func29, Tryd.ntmps29
     go_wp2_with (first | ((with_reducible refine gate_dst (N := 1) rfl ?_); refine be 1 #[.int .i64 a0_0, .int .i64 a0_1, .int .i64 a0_2, .int .i64 a0_3, .int .i64 a0_4, .int .i64 a0_5] 23 ?_; intro gb103 hg w21 hbox hb; have BK103 := Aside0.mk hbox; have GW103 := zW hg; replace HB := zS hb; have GE103 := GW103; clear hb hbox hg; obtain ⟨hcz22_0, hcz22_1, hcz22_2, hcz22_3, hcz22_4, hcz22_5, hfz22_0, hfz22_1, hfz22_2, hfz22_3, hfz22_4, hfz22_5⟩ := zc6 BK103) | ((with_reducible refine gate_callee (f := 23) rfl ?_); refine gl 6 Tryd.func23 #[.int .i64 a0_0] ?_; (with_reducible refine (spec_l1Alu.calls a0_0 false _ A2.out).mono ?_); rintro e w' ⟨rfl, ⟨nd, rfl⟩⟩; refine ⟨_, rfl, ?_⟩) | ((with_reducible refine gate_callee (f := 24) rfl ?_); refine gl 28 Tryd.func24 #[.int .i64 a0_0] ?_; (with_reducible refine (spec_l1Jump.calls a0_0 true _ A15.out).mono ?_); rintro e w' ⟨rfl, ⟨nd, rfl⟩⟩; refine ⟨_, rfl, ?_⟩))
     go_ret
     exact ⟨zR, zB⟩
   ·rw [if_neg c17] at H
    have c17b0 : (a0_5 == 0) = false := beq_eq_false_iff_ne.mpr c17
    have c17b1 : (a0_5 != 0) = true := bne_iff_ne.mpr c17
    obtain rfl := Option.some.inj H
    go_enter Tryd.func29, Tryd.ntmps29
    go_wp2_with (first | ((with_reducible refine gate_dst (N := 1) rfl ?_); refine be 1 #[.int .i64 a0_0, .int .i64 a0_1, .int .i64 a0_2, .int .i64 a0_3, .int .i64 a0_4, .int .i64 a0_5] 23 ?_; intro gb103 hg w23 hbox hb; have BK103 := Aside0.mk hbox; have GW103 := zW hg; replace HB := zS hb; have GE103 := GW103; clear hb hbox hg; obtain ⟨hcz24_0, hcz24_1, hcz24_2, hcz24_3, hcz24_4, hcz24_5, hfz24_0, hfz24_1, hfz24_2, hfz24_3, hfz24_4, hfz24_5⟩ := zc6 BK103) | ((with_reducible refine gate_callee (f := 23) rfl ?_); refine gl 6 Tryd.func23 #[.int .i64 a0_0] ?_; (with_reducible refine (spec_l1Alu.calls a0_0 false _ A2.out).mono ?_); rintro e w' ⟨rfl, ⟨nd, rfl⟩⟩; refine ⟨_, rfl, ?_⟩) | ((with_reducible refine gate_callee (f := 24) rfl ?_); refine gl 28 Tryd.func24 #[.int .i64 a0_0] ?_; (with_reducible refine (spec_l1Jump.calls a0_0 true _ A15.out).mono ?_); rintro e w' ⟨rfl, ⟨nd, rfl⟩⟩; refine ⟨_, rfl, ?_⟩))
    go_ret
    exact ⟨zR, zB⟩
  ·replace c16 := Bool.eq_false_iff.mpr c16
   subst c16
   rw [if_neg (show ¬ (false = true) by decide)] at H
   by_cases c25 : a0_0 = 16
   ·rw [if_pos c25] at H
    have c25b0 : (a0_0 == 16) = true := beq_iff_eq.mpr c25
    have c25b1 : (a0_0 != 16) = false := bne_eq_false_iff_eq.mpr c25
    clear c25
    by_cases c26 : a0_1 = 0
    ·rw [if_pos c26] at H
     have c26b0 : (a0_1 == 0) = true := beq_iff_eq.mpr c26
     have c26b1 : (a0_1 != 0) = false := bne_eq_false_iff_eq.mpr c26
     clear c26
     by_cases c27 : a0_2 = (-1)
     ·rw [if_pos c27] at H
      have c27b0 : (a0_2 == (-1)) = true := beq_iff_eq.mpr c27
      have c27b1 : (a0_2 != (-1)) = false := bne_eq_false_iff_eq.mpr c27
      clear c27
      by_cases c28 : a0_4 = 0
      ·rw [if_pos c28] at H
       have c28b0 : (a0_4 == 0) = true := beq_iff_eq.mpr c28
       have c28b1 : (a0_4 != 0) = false := bne_eq_false_iff_eq.mpr c28
       clear c28
       obtain rfl := Option.some.inj H
       go_enter Tryd.func29, Tryd.ntmps29
       go_wp2_with (first | ((with_reducible refine gate_dst (N := 1) rfl ?_); refine be 1 #[.int .i64 a0_0, .int .i64 a0_1, .int .i64 a0_2, .int .i64 a0_3, .int .i64 a0_4, .int .i64 a0_5] 23 ?_; intro gb103 hg w29 hbox hb; have BK103 := Aside0.mk hbox; have GW103 := zW hg; replace HB := zS hb; have GE103 := GW103; clear hb hbox hg; obtain ⟨hcz30_0, hcz30_1, hcz30_2, hcz30_3, hcz30_4, hcz30_5, hfz30_0, hfz30_1, hfz30_2, hfz30_3, hfz30_4, hfz30_5⟩ := zc6 BK103) | ((with_reducible refine gate_callee (f := 23) rfl ?_); refine gl 6 Tryd.func23 #[.int .i64 a0_0] ?_; (with_reducible refine (spec_l1Alu.calls a0_0 false _ A2.out).mono ?_); rintro e w' ⟨rfl, ⟨nd, rfl⟩⟩; refine ⟨_, rfl, ?_⟩) | ((with_reducible refine gate_callee (f := 24) rfl ?_); refine gl 28 Tryd.func24 #[.int .i64 a0_0] ?_; (with_reducible refine (spec_l1Jump.calls a0_0 false _ A15.out).mono ?_); rintro e w' ⟨rfl, ⟨nd, rfl⟩⟩; refine ⟨_, rfl, ?_⟩))
       go_ret
       exact ⟨zR, zB⟩
      ·rw [if_neg c28] at H
       have c28b0 : (a0_4 == 0) = false := beq_eq_false_iff_ne.mpr c28
       have c28b1 : (a0_4 != 0) = true := bne_iff_ne.mpr c28
       obtain rfl := Option.some.inj H
       go_enter Tryd.func29, Tryd.ntmps29
       go_wp2_with (first | ((with_reducible refine gate_dst (N := 1) rfl ?_); refine be 1 #[.int .i64 a0_0, .int .i64 a0_1, .int .i64 a0_2, .int .i64 a0_3, .int .i64 a0_4, .int .i64 a0_5] 23 ?_; intro gb103 hg w31 hbox hb; have BK103 := Aside0.mk hbox; have GW103 := zW hg; replace HB := zS hb; have GE103 := GW103; clear hb hbox hg; obtain ⟨hcz32_0, hcz32_1, hcz32_2, hcz32_3, hcz32_4, hcz32_5, hfz32_0, hfz32_1, hfz32_2, hfz32_3, hfz32_4, hfz32_5⟩ := zc6 BK103) | ((with_reducible refine gate_callee (f := 23) rfl ?_); refine gl 6 Tryd.func23 #[.int .i64 a0_0] ?_; (with_reducible refine (spec_l1Alu.calls a0_0 false _ A2.out).mono ?_); rintro e w' ⟨rfl, ⟨nd, rfl⟩⟩; refine ⟨_, rfl, ?_⟩) | ((with_reducible refine gate_callee (f := 24) rfl ?_); refine gl 28 Tryd.func24 #[.int .i64 a0_0] ?_; (with_reducible refine (spec_l1Jump.calls a0_0 false _ A15.out).mono ?_); rintro e w' ⟨rfl, ⟨nd, rfl⟩⟩; refine ⟨_, rfl, ?_⟩))
       go_ret
       exact ⟨zR, zB⟩
     ·rw [if_neg c27] at H
      have c27b0 : (a0_2 == (-1)) = false := beq_eq_false_iff_ne.mpr c27
      have c27b1 : (a0_2 != (-1)) = true := bne_iff_ne.mpr c27
      obtain rfl := Option.some.inj H
      go_enter Tryd.func29, Tryd.ntmps29
      go_wp2_with (first | ((with_reducible refine gate_dst (N := 1) rfl ?_); refine be 1 #[.int .i64 a0_0, .int .i64 a0_1, .int .i64 a0_2, .int .i64 a0_3, .int .i64 a0_4, .int .i64 a0_5] 23 ?_; intro gb103 hg w33 hbox hb; have BK103 := Aside0.mk hbox; have GW103 := zW hg; replace HB := zS hb; have GE103 := GW103; clear hb hbox hg; obtain ⟨hcz34_0, hcz34_1, hcz34_2, hcz34_3, hcz34_4, hcz34_5, hfz34_0, hfz34_1, hfz34_2, hfz34_3, hfz34_4, hfz34_5⟩ := zc6 BK103) | ((with_reducible refine gate_callee (f := 23) rfl ?_); refine gl 6 Tryd.func23 #[.int .i64 a0_0] ?_; (with_reducible refine (spec_l1Alu.calls a0_0 false _ A2.out).mono ?_); rintro e w' ⟨rfl, ⟨nd, rfl⟩⟩; refine ⟨_, rfl, ?_⟩) | ((with_reducible refine gate_callee (f := 24) rfl ?_); refine gl 28 Tryd.func24 #[.int .i64 a0_0] ?_; (with_reducible refine (spec_l1Jump.calls a0_0 false _ A15.out).mono ?_); rintro e w' ⟨rfl, ⟨nd, rfl⟩⟩; refine ⟨_, rfl, ?_⟩))
      go_ret
      exact ⟨zR, zB⟩
    ·rw [if_neg c26] at H
     have c26b0 : (a0_1 == 0) = false := beq_eq_false_iff_ne.mpr c26
     have c26b1 : (a0_1 != 0) = true := bne_iff_ne.mpr c26
     obtain rfl := Option.some.inj H
     go_enter Tryd.func29, Tryd.ntmps29
     go_wp2_with (first | ((with_reducible refine gate_dst (N := 1) rfl ?_); refine be 1 #[.int .i64 a0_0, .int .i64 a0_1, .int .i64 a0_2, .int .i64 a0_3, .int .i64 a0_4, .int .i64 a0_5] 23 ?_; intro gb103 hg w35 hbox hb; have BK103 := Aside0.mk hbox; have GW103 := zW hg; replace HB := zS hb; have GE103 := GW103; clear hb hbox hg; obtain ⟨hcz36_0, hcz36_1, hcz36_2, hcz36_3, hcz36_4, hcz36_5, hfz36_0, hfz36_1, hfz36_2, hfz36_3, hfz36_4, hfz36_5⟩ := zc6 BK103) | ((with_reducible refine gate_callee (f := 23) rfl ?_); refine gl 6 Tryd.func23 #[.int .i64 a0_0] ?_; (with_reducible refine (spec_l1Alu.calls a0_0 false _ A2.out).mono ?_); rintro e w' ⟨rfl, ⟨nd, rfl⟩⟩; refine ⟨_, rfl, ?_⟩) | ((with_reducible refine gate_callee (f := 24) rfl ?_); refine gl 28 Tryd.func24 #[.int .i64 a0_0] ?_; (with_reducible refine (spec_l1Jump.calls a0_0 false _ A15.out).mono ?_); rintro e w' ⟨rfl, ⟨nd, rfl⟩⟩; refine ⟨_, rfl, ?_⟩))
     go_ret
     exact ⟨zR, zB⟩
   ·rw [if_neg c25] at H
    have c25b0 : (a0_0 == 16) = false := beq_eq_false_iff_ne.mpr c25
    have c25b1 : (a0_0 != 16) = true := bne_iff_ne.mpr c25
    by_cases c37 : a0_0 = 17
    ·rw [if_pos c37] at H
     have c37b0 : (a0_0 == 17) = true := beq_iff_eq.mpr c37
     have c37b1 : (a0_0 != 17) = false := bne_eq_false_iff_eq.mpr c37
     clear c37
     by_cases c38 : a0_2 ≥ 0
     ·rw [if_pos c38] at H
      have c38b0 : decide (0 ≤ a0_2) = true := decide_eq_true c38
      clear c38
      by_cases c39 : a0_4 = 0
      ·rw [if_pos c39] at H
       have c39b0 : (a0_4 == 0) = true := beq_iff_eq.mpr c39
       have c39b1 : (a0_4 != 0) = false := bne_eq_false_iff_eq.mpr c39
       clear c39
       by_cases c40 : a0_5 = 1
       ·rw [if_pos c40] at H
        have c40b0 : (a0_5 == 1) = true := beq_iff_eq.mpr c40
        have c40b1 : (a0_5 != 1) = false := bne_eq_false_iff_eq.mpr c40
        clear c40
        obtain rfl := Option.some.inj H
        go_enter Tryd.func29, Tryd.ntmps29
        go_wp2_with (first | ((with_reducible refine gate_dst (N := 1) rfl ?_); refine be 1 #[.int .i64 a0_0, .int .i64 a0_1, .int .i64 a0_2, .int .i64 a0_3, .int .i64 a0_4, .int .i64 a0_5] 23 ?_; intro gb103 hg w41 hbox hb; have BK103 := Aside0.mk hbox; have GW103 := zW hg; replace HB := zS hb; have GE103 := GW103; clear hb hbox hg; obtain ⟨hcz42_0, hcz42_1, hcz42_2, hcz42_3, hcz42_4, hcz42_5, hfz42_0, hfz42_1, hfz42_2, hfz42_3, hfz42_4, hfz42_5⟩ := zc6 BK103) | ((with_reducible refine gate_callee (f := 23) rfl ?_); refine gl 6 Tryd.func23 #[.int .i64 a0_0] ?_; (with_reducible refine (spec_l1Alu.calls a0_0 false _ A2.out).mono ?_); rintro e w' ⟨rfl, ⟨nd, rfl⟩⟩; refine ⟨_, rfl, ?_⟩) | ((with_reducible refine gate_callee (f := 24) rfl ?_); refine gl 28 Tryd.func24 #[.int .i64 a0_0] ?_; (with_reducible refine (spec_l1Jump.calls a0_0 false _ A15.out).mono ?_); rintro e w' ⟨rfl, ⟨nd, rfl⟩⟩; refine ⟨_, rfl, ?_⟩))
        go_ret
        exact ⟨zR, zB⟩
       ·rw [if_neg c40] at H
        have c40b0 : (a0_5 == 1) = false := beq_eq_false_iff_ne.mpr c40
        have c40b1 : (a0_5 != 1) = true := bne_iff_ne.mpr c40
        by_cases c43 : a0_5 = 2
        ·rw [if_pos c43] at H
         have c43b0 : (a0_5 == 2) = true := beq_iff_eq.mpr c43
         have c43b1 : (a0_5 != 2) = false := bne_eq_false_iff_eq.mpr c43
         clear c43
         obtain rfl := Option.some.inj H
         go_enter Tryd.func29, Tryd.ntmps29
         go_wp2_with (first | ((with_reducible refine gate_dst (N := 1) rfl ?_); refine be 1 #[.int .i64 a0_0, .int .i64 a0_1, .int .i64 a0_2, .int .i64 a0_3, .int .i64 a0_4, .int .i64 a0_5] 23 ?_; intro gb103 hg w44 hbox hb; have BK103 := Aside0.mk hbox; have GW103 := zW hg; replace HB := zS hb; have GE103 := GW103; clear hb hbox hg; obtain ⟨hcz45_0, hcz45_1, hcz45_2, hcz45_3, hcz45_4, hcz45_5, hfz45_0, hfz45_1, hfz45_2, hfz45_3, hfz45_4, hfz45_5⟩ := zc6 BK103) | ((with_reducible refine gate_callee (f := 23) rfl ?_); refine gl 6 Tryd.func23 #[.int .i64 a0_0] ?_; (with_reducible refine (spec_l1Alu.calls a0_0 false _ A2.out).mono ?_); rintro e w' ⟨rfl, ⟨nd, rfl⟩⟩; refine ⟨_, rfl, ?_⟩) | ((with_reducible refine gate_callee (f := 24) rfl ?_); refine gl 28 Tryd.func24 #[.int .i64 a0_0] ?_; (with_reducible refine (spec_l1Jump.calls a0_0 false _ A15.out).mono ?_); rintro e w' ⟨rfl, ⟨nd, rfl⟩⟩; refine ⟨_, rfl, ?_⟩))
         go_ret
         exact ⟨zR, zB⟩
        ·rw [if_neg c43] at H
         have c43b0 : (a0_5 == 2) = false := beq_eq_false_iff_ne.mpr c43
         have c43b1 : (a0_5 != 2) = true := bne_iff_ne.mpr c43
         obtain rfl := Option.some.inj H
         go_enter Tryd.func29, Tryd.ntmps29
         go_wp2_with (first | ((with_reducible refine gate_dst (N := 1) rfl ?_); refine be 1 #[.int .i64 a0_0, .int .i64 a0_1, .int .i64 a0_2, .int .i64 a0_3, .int .i64 a0_4, .int .i64 a0_5] 23 ?_; intro gb103 hg w46 hbox hb; have BK103 := Aside0.mk hbox; have GW103 := zW hg; replace HB := zS hb; have GE103 := GW103; clear hb hbox hg; obtain ⟨hcz47_0, hcz47_1, hcz47_2, hcz47_3, hcz47_4, hcz47_5, hfz47_0, hfz47_1, hfz47_2, hfz47_3, hfz47_4, hfz47_5⟩ := zc6 BK103) | ((with_reducible refine gate_callee (f := 23) rfl ?_); refine gl 6 Tryd.func23 #[.int .i64 a0_0] ?_; (with_reducible refine (spec_l1Alu.calls a0_0 false _ A2.out).mono ?_); rintro e w' ⟨rfl, ⟨nd, rfl⟩⟩; refine ⟨_, rfl, ?_⟩) | ((with_reducible refine gate_callee (f := 24) rfl ?_); refine gl 28 Tryd.func24 #[.int .i64 a0_0] ?_; (with_reducible refine (spec_l1Jump.calls a0_0 false _ A15.out).mono ?_); rintro e w' ⟨rfl, ⟨nd, rfl⟩⟩; refine ⟨_, rfl, ?_⟩))
         go_ret
         exact ⟨zR, zB⟩
      ·rw [if_neg c39] at H
       have c39b0 : (a0_4 == 0) = false := beq_eq_false_iff_ne.mpr c39
       have c39b1 : (a0_4 != 0) = true := bne_iff_ne.mpr c39
       obtain rfl := Option.some.inj H
       go_enter Tryd.func29, Tryd.ntmps29
       go_wp2_with (first | ((with_reducible refine gate_dst (N := 1) rfl ?_); refine be 1 #[.int .i64 a0_0, .int .i64 a0_1, .int .i64 a0_2, .int .i64 a0_3, .int .i64 a0_4, .int .i64 a0_5] 23 ?_; intro gb103 hg w48 hbox hb; have BK103 := Aside0.mk hbox; have GW103 := zW hg; replace HB := zS hb; have GE103 := GW103; clear hb hbox hg; obtain ⟨hcz49_0, hcz49_1, hcz49_2, hcz49_3, hcz49_4, hcz49_5, hfz49_0, hfz49_1, hfz49_2, hfz49_3, hfz49_4, hfz49_5⟩ := zc6 BK103) | ((with_reducible refine gate_callee (f := 23) rfl ?_); refine gl 6 Tryd.func23 #[.int .i64 a0_0] ?_; (with_reducible refine (spec_l1Alu.calls a0_0 false _ A2.out).mono ?_); rintro e w' ⟨rfl, ⟨nd, rfl⟩⟩; refine ⟨_, rfl, ?_⟩) | ((with_reducible refine gate_callee (f := 24) rfl ?_); refine gl 28 Tryd.func24 #[.int .i64 a0_0] ?_; (with_reducible refine (spec_l1Jump.calls a0_0 false _ A15.out).mono ?_); rintro e w' ⟨rfl, ⟨nd, rfl⟩⟩; refine ⟨_, rfl, ?_⟩))
       go_ret
       exact ⟨zR, zB⟩
     ·rw [if_neg c38] at H
      have c38b0 : decide (0 ≤ a0_2) = false := decide_eq_false c38
      clear c38
      obtain rfl := Option.some.inj H
      go_enter Tryd.func29, Tryd.ntmps29
      go_wp2_with (first | ((with_reducible refine gate_dst (N := 1) rfl ?_); refine be 1 #[.int .i64 a0_0, .int .i64 a0_1, .int .i64 a0_2, .int .i64 a0_3, .int .i64 a0_4, .int .i64 a0_5] 23 ?_; intro gb103 hg w50 hbox hb; have BK103 := Aside0.mk hbox; have GW103 := zW hg; replace HB := zS hb; have GE103 := GW103; clear hb hbox hg; obtain ⟨hcz51_0, hcz51_1, hcz51_2, hcz51_3, hcz51_4, hcz51_5, hfz51_0, hfz51_1, hfz51_2, hfz51_3, hfz51_4, hfz51_5⟩ := zc6 BK103) | ((with_reducible refine gate_callee (f := 23) rfl ?_); refine gl 6 Tryd.func23 #[.int .i64 a0_0] ?_; (with_reducible refine (spec_l1Alu.calls a0_0 false _ A2.out).mono ?_); rintro e w' ⟨rfl, ⟨nd, rfl⟩⟩; refine ⟨_, rfl, ?_⟩) | ((with_reducible refine gate_callee (f := 24) rfl ?_); refine gl 28 Tryd.func24 #[.int .i64 a0_0] ?_; (with_reducible refine (spec_l1Jump.calls a0_0 false _ A15.out).mono ?_); rintro e w' ⟨rfl, ⟨nd, rfl⟩⟩; refine ⟨_, rfl, ?_⟩))
      go_ret
      exact ⟨zR, zB⟩
    ·rw [if_neg c37] at H
     have c37b0 : (a0_0 == 17) = false := beq_eq_false_iff_ne.mpr c37
     have c37b1 : (a0_0 != 17) = true := bne_iff_ne.mpr c37
     by_cases c52 : a0_0 = 18
     ·rw [if_pos c52] at H
      have c52b0 : (a0_0 == 18) = true := beq_iff_eq.mpr c52
      have c52b1 : (a0_0 != 18) = false := bne_eq_false_iff_eq.mpr c52
      clear c52
      by_cases c53 : a0_2 < 0
      ·rw [if_pos c53] at H
       have c53b0 : decide (a0_2 < 0) = true := decide_eq_true c53
       clear c53
       by_cases c54 : a0_5 = 1
       ·rw [if_pos c54] at H
        have c54b0 : (a0_5 == 1) = true := beq_iff_eq.mpr c54
        have c54b1 : (a0_5 != 1) = false := bne_eq_false_iff_eq.mpr c54
        clear c54
        obtain rfl := Option.some.inj H
        go_enter Tryd.func29, Tryd.ntmps29
        go_wp2_with (first | ((with_reducible refine gate_dst (N := 1) rfl ?_); refine be 1 #[.int .i64 a0_0, .int .i64 a0_1, .int .i64 a0_2, .int .i64 a0_3, .int .i64 a0_4, .int .i64 a0_5] 23 ?_; intro gb103 hg w55 hbox hb; have BK103 := Aside0.mk hbox; have GW103 := zW hg; replace HB := zS hb; have GE103 := GW103; clear hb hbox hg; obtain ⟨hcz56_0, hcz56_1, hcz56_2, hcz56_3, hcz56_4, hcz56_5, hfz56_0, hfz56_1, hfz56_2, hfz56_3, hfz56_4, hfz56_5⟩ := zc6 BK103) | ((with_reducible refine gate_callee (f := 23) rfl ?_); refine gl 6 Tryd.func23 #[.int .i64 a0_0] ?_; (with_reducible refine (spec_l1Alu.calls a0_0 false _ A2.out).mono ?_); rintro e w' ⟨rfl, ⟨nd, rfl⟩⟩; refine ⟨_, rfl, ?_⟩) | ((with_reducible refine gate_callee (f := 24) rfl ?_); refine gl 28 Tryd.func24 #[.int .i64 a0_0] ?_; (with_reducible refine (spec_l1Jump.calls a0_0 false _ A15.out).mono ?_); rintro e w' ⟨rfl, ⟨nd, rfl⟩⟩; refine ⟨_, rfl, ?_⟩))
        go_ret
        exact ⟨zR, zB⟩
       ·rw [if_neg c54] at H
        have c54b0 : (a0_5 == 1) = false := beq_eq_false_iff_ne.mpr c54
        have c54b1 : (a0_5 != 1) = true := bne_iff_ne.mpr c54
        by_cases c57 : a0_5 = 2
        ·rw [if_pos c57] at H
         have c57b0 : (a0_5 == 2) = true := beq_iff_eq.mpr c57
         have c57b1 : (a0_5 != 2) = false := bne_eq_false_iff_eq.mpr c57
         clear c57
         obtain rfl := Option.some.inj H
         go_enter Tryd.func29, Tryd.ntmps29
         go_wp2_with (first | ((with_reducible refine gate_dst (N := 1) rfl ?_); refine be 1 #[.int .i64 a0_0, .int .i64 a0_1, .int .i64 a0_2, .int .i64 a0_3, .int .i64 a0_4, .int .i64 a0_5] 23 ?_; intro gb103 hg w58 hbox hb; have BK103 := Aside0.mk hbox; have GW103 := zW hg; replace HB := zS hb; have GE103 := GW103; clear hb hbox hg; obtain ⟨hcz59_0, hcz59_1, hcz59_2, hcz59_3, hcz59_4, hcz59_5, hfz59_0, hfz59_1, hfz59_2, hfz59_3, hfz59_4, hfz59_5⟩ := zc6 BK103) | ((with_reducible refine gate_callee (f := 23) rfl ?_); refine gl 6 Tryd.func23 #[.int .i64 a0_0] ?_; (with_reducible refine (spec_l1Alu.calls a0_0 false _ A2.out).mono ?_); rintro e w' ⟨rfl, ⟨nd, rfl⟩⟩; refine ⟨_, rfl, ?_⟩) | ((with_reducible refine gate_callee (f := 24) rfl ?_); refine gl 28 Tryd.func24 #[.int .i64 a0_0] ?_; (with_reducible refine (spec_l1Jump.calls a0_0 false _ A15.out).mono ?_); rintro e w' ⟨rfl, ⟨nd, rfl⟩⟩; refine ⟨_, rfl, ?_⟩))
         go_ret
         exact ⟨zR, zB⟩
        ·rw [if_neg c57] at H
         have c57b0 : (a0_5 == 2) = false := beq_eq_false_iff_ne.mpr c57
         have c57b1 : (a0_5 != 2) = true := bne_iff_ne.mpr c57
         obtain rfl := Option.some.inj H
         go_enter Tryd.func29, Tryd.ntmps29
         go_wp2_with (first | ((with_reducible refine gate_dst (N := 1) rfl ?_); refine be 1 #[.int .i64 a0_0, .int .i64 a0_1, .int .i64 a0_2, .int .i64 a0_3, .int .i64 a0_4, .int .i64 a0_5] 23 ?_; intro gb103 hg w60 hbox hb; have BK103 := Aside0.mk hbox; have GW103 := zW hg; replace HB := zS hb; have GE103 := GW103; clear hb hbox hg; obtain ⟨hcz61_0, hcz61_1, hcz61_2, hcz61_3, hcz61_4, hcz61_5, hfz61_0, hfz61_1, hfz61_2, hfz61_3, hfz61_4, hfz61_5⟩ := zc6 BK103) | ((with_reducible refine gate_callee (f := 23) rfl ?_); refine gl 6 Tryd.func23 #[.int .i64 a0_0] ?_; (with_reducible refine (spec_l1Alu.calls a0_0 false _ A2.out).mono ?_); rintro e w' ⟨rfl, ⟨nd, rfl⟩⟩; refine ⟨_, rfl, ?_⟩) | ((with_reducible refine gate_callee (f := 24) rfl ?_); refine gl 28 Tryd.func24 #[.int .i64 a0_0] ?_; (with_reducible refine (spec_l1Jump.calls a0_0 false _ A15.out).mono ?_); rintro e w' ⟨rfl, ⟨nd, rfl⟩⟩; refine ⟨_, rfl, ?_⟩))
         go_ret
         exact ⟨zR, zB⟩
      ·rw [if_neg c53] at H
       have c53b0 : decide (a0_2 < 0) = false := decide_eq_false c53
       clear c53
       by_cases c62 : a0_4 = 0
       ·rw [if_pos c62] at H
        have c62b0 : (a0_4 == 0) = true := beq_iff_eq.mpr c62
        have c62b1 : (a0_4 != 0) = false := bne_eq_false_iff_eq.mpr c62
        clear c62
        by_cases c63 : a0_5 = 1
        ·rw [if_pos c63] at H
         have c63b0 : (a0_5 == 1) = true := beq_iff_eq.mpr c63
         have c63b1 : (a0_5 != 1) = false := bne_eq_false_iff_eq.mpr c63
         clear c63
         obtain rfl := Option.some.inj H
         go_enter Tryd.func29, Tryd.ntmps29
         go_wp2_with (first | ((with_reducible refine gate_dst (N := 1) rfl ?_); refine be 1 #[.int .i64 a0_0, .int .i64 a0_1, .int .i64 a0_2, .int .i64 a0_3, .int .i64 a0_4, .int .i64 a0_5] 23 ?_; intro gb103 hg w64 hbox hb; have BK103 := Aside0.mk hbox; have GW103 := zW hg; replace HB := zS hb; have GE103 := GW103; clear hb hbox hg; obtain ⟨hcz65_0, hcz65_1, hcz65_2, hcz65_3, hcz65_4, hcz65_5, hfz65_0, hfz65_1, hfz65_2, hfz65_3, hfz65_4, hfz65_5⟩ := zc6 BK103) | ((with_reducible refine gate_callee (f := 23) rfl ?_); refine gl 6 Tryd.func23 #[.int .i64 a0_0] ?_; (with_reducible refine (spec_l1Alu.calls a0_0 false _ A2.out).mono ?_); rintro e w' ⟨rfl, ⟨nd, rfl⟩⟩; refine ⟨_, rfl, ?_⟩) | ((with_reducible refine gate_callee (f := 24) rfl ?_); refine gl 28 Tryd.func24 #[.int .i64 a0_0] ?_; (with_reducible refine (spec_l1Jump.calls a0_0 false _ A15.out).mono ?_); rintro e w' ⟨rfl, ⟨nd, rfl⟩⟩; refine ⟨_, rfl, ?_⟩))
         go_ret
         exact ⟨zR, zB⟩
        ·rw [if_neg c63] at H
         have c63b0 : (a0_5 == 1) = false := beq_eq_false_iff_ne.mpr c63
         have c63b1 : (a0_5 != 1) = true := bne_iff_ne.mpr c63
         by_cases c66 : a0_5 = 2
         ·rw [if_pos c66] at H
          have c66b0 : (a0_5 == 2) = true := beq_iff_eq.mpr c66
          have c66b1 : (a0_5 != 2) = false := bne_eq_false_iff_eq.mpr c66
          clear c66
          obtain rfl := Option.some.inj H
          go_enter Tryd.func29, Tryd.ntmps29
          go_wp2_with (first | ((with_reducible refine gate_dst (N := 1) rfl ?_); refine be 1 #[.int .i64 a0_0, .int .i64 a0_1, .int .i64 a0_2, .int .i64 a0_3, .int .i64 a0_4, .int .i64 a0_5] 23 ?_; intro gb103 hg w67 hbox hb; have BK103 := Aside0.mk hbox; have GW103 := zW hg; replace HB := zS hb; have GE103 := GW103; clear hb hbox hg; obtain ⟨hcz68_0, hcz68_1, hcz68_2, hcz68_3, hcz68_4, hcz68_5, hfz68_0, hfz68_1, hfz68_2, hfz68_3, hfz68_4, hfz68_5⟩ := zc6 BK103) | ((with_reducible refine gate_callee (f := 23) rfl ?_); refine gl 6 Tryd.func23 #[.int .i64 a0_0] ?_; (with_reducible refine (spec_l1Alu.calls a0_0 false _ A2.out).mono ?_); rintro e w' ⟨rfl, ⟨nd, rfl⟩⟩; refine ⟨_, rfl, ?_⟩) | ((with_reducible refine gate_callee (f := 24) rfl ?_); refine gl 28 Tryd.func24 #[.int .i64 a0_0] ?_; (with_reducible refine (spec_l1Jump.calls a0_0 false _ A15.out).mono ?_); rintro e w' ⟨rfl, ⟨nd, rfl⟩⟩; refine ⟨_, rfl, ?_⟩))
          go_ret
          exact ⟨zR, zB⟩
         ·rw [if_neg c66] at H
          have c66b0 : (a0_5 == 2) = false := beq_eq_false_iff_ne.mpr c66
          have c66b1 : (a0_5 != 2) = true := bne_iff_ne.mpr c66
          obtain rfl := Option.some.inj H
          go_enter Tryd.func29, Tryd.ntmps29
          go_wp2_with (first | ((with_reducible refine gate_dst (N := 1) rfl ?_); refine be 1 #[.int .i64 a0_0, .int .i64 a0_1, .int .i64 a0_2, .int .i64 a0_3, .int .i64 a0_4, .int .i64 a0_5] 23 ?_; intro gb103 hg w69 hbox hb; have BK103 := Aside0.mk hbox; have GW103 := zW hg; replace HB := zS hb; have GE103 := GW103; clear hb hbox hg; obtain ⟨hcz70_0, hcz70_1, hcz70_2, hcz70_3, hcz70_4, hcz70_5, hfz70_0, hfz70_1, hfz70_2, hfz70_3, hfz70_4, hfz70_5⟩ := zc6 BK103) | ((with_reducible refine gate_callee (f := 23) rfl ?_); refine gl 6 Tryd.func23 #[.int .i64 a0_0] ?_; (with_reducible refine (spec_l1Alu.calls a0_0 false _ A2.out).mono ?_); rintro e w' ⟨rfl, ⟨nd, rfl⟩⟩; refine ⟨_, rfl, ?_⟩) | ((with_reducible refine gate_callee (f := 24) rfl ?_); refine gl 28 Tryd.func24 #[.int .i64 a0_0] ?_; (with_reducible refine (spec_l1Jump.calls a0_0 false _ A15.out).mono ?_); rintro e w' ⟨rfl, ⟨nd, rfl⟩⟩; refine ⟨_, rfl, ?_⟩))
          go_ret
          exact ⟨zR, zB⟩
       ·rw [if_neg c62] at H
        have c62b0 : (a0_4 == 0) = false := beq_eq_false_iff_ne.mpr c62
        have c62b1 : (a0_4 != 0) = true := bne_iff_ne.mpr c62
        obtain rfl := Option.some.inj H
        go_enter Tryd.func29, Tryd.ntmps29
        go_wp2_with (first | ((with_reducible refine gate_dst (N := 1) rfl ?_); refine be 1 #[.int .i64 a0_0, .int .i64 a0_1, .int .i64 a0_2, .int .i64 a0_3, .int .i64 a0_4, .int .i64 a0_5] 23 ?_; intro gb103 hg w71 hbox hb; have BK103 := Aside0.mk hbox; have GW103 := zW hg; replace HB := zS hb; have GE103 := GW103; clear hb hbox hg; obtain ⟨hcz72_0, hcz72_1, hcz72_2, hcz72_3, hcz72_4, hcz72_5, hfz72_0, hfz72_1, hfz72_2, hfz72_3, hfz72_4, hfz72_5⟩ := zc6 BK103) | ((with_reducible refine gate_callee (f := 23) rfl ?_); refine gl 6 Tryd.func23 #[.int .i64 a0_0] ?_; (with_reducible refine (spec_l1Alu.calls a0_0 false _ A2.out).mono ?_); rintro e w' ⟨rfl, ⟨nd, rfl⟩⟩; refine ⟨_, rfl, ?_⟩) | ((with_reducible refine gate_callee (f := 24) rfl ?_); refine gl 28 Tryd.func24 #[.int .i64 a0_0] ?_; (with_reducible refine (spec_l1Jump.calls a0_0 false _ A15.out).mono ?_); rintro e w' ⟨rfl, ⟨nd, rfl⟩⟩; refine ⟨_, rfl, ?_⟩))
        go_ret
        exact ⟨zR, zB⟩
     ·rw [if_neg c52] at H
      have c52b0 : (a0_0 == 18) = false := beq_eq_false_iff_ne.mpr c52
      have c52b1 : (a0_0 != 18) = true := bne_iff_ne.mpr c52
      by_cases c73 : a0_0 = 19
      ·rw [if_pos c73] at H
       have c73b0 : (a0_0 == 19) = true := beq_iff_eq.mpr c73
       have c73b1 : (a0_0 != 19) = false := bne_eq_false_iff_eq.mpr c73
       clear c73
       by_cases c74 : a0_1 = 0
       ·rw [if_pos c74] at H
        have c74b0 : (a0_1 == 0) = true := beq_iff_eq.mpr c74
        have c74b1 : (a0_1 != 0) = false := bne_eq_false_iff_eq.mpr c74
        clear c74
        by_cases c75 : a0_2 = (-1)
        ·rw [if_pos c75] at H
         have c75b0 : (a0_2 == (-1)) = true := beq_iff_eq.mpr c75
         have c75b1 : (a0_2 != (-1)) = false := bne_eq_false_iff_eq.mpr c75
         clear c75
         by_cases c76 : a0_3 = 0
         ·rw [if_pos c76] at H
          have c76b0 : (a0_3 == 0) = true := beq_iff_eq.mpr c76
          have c76b1 : (a0_3 != 0) = false := bne_eq_false_iff_eq.mpr c76
          clear c76
          by_cases c77 : a0_5 = 0
          ·rw [if_pos c77] at H
           have c77b0 : (a0_5 == 0) = true := beq_iff_eq.mpr c77
           have c77b1 : (a0_5 != 0) = false := bne_eq_false_iff_eq.mpr c77
           clear c77
           replace H := Option.bind_eq_some_iff.mp H
           obtain ⟨t106, A780, H⟩ := H
           try dsimp only at H
           have A78 := Aside0.mk A780
           clear A780
           obtain rfl := Option.some.inj H
           go_enter Tryd.func29, Tryd.ntmps29
           go_wp2_with (first | ((with_reducible refine gate_dst (N := 1) rfl ?_); refine be 1 #[.int .i64 a0_0, .int .i64 a0_1, .int .i64 a0_2, .int .i64 a0_3, .int .i64 a0_4, .int .i64 a0_5] 23 ?_; intro gb103 hg w79 hbox hb; have BK103 := Aside0.mk hbox; have GW103 := zW hg; replace HB := zS hb; have GE103 := GW103; clear hb hbox hg; obtain ⟨hcz80_0, hcz80_1, hcz80_2, hcz80_3, hcz80_4, hcz80_5, hfz80_0, hfz80_1, hfz80_2, hfz80_3, hfz80_4, hfz80_5⟩ := zc6 BK103) | ((with_reducible refine gate_callee (f := 23) rfl ?_); refine gl 6 Tryd.func23 #[.int .i64 a0_0] ?_; (with_reducible refine (spec_l1Alu.calls a0_0 false _ A2.out).mono ?_); rintro e w' ⟨rfl, ⟨nd, rfl⟩⟩; refine ⟨_, rfl, ?_⟩) | ((with_reducible refine gate_callee (f := 24) rfl ?_); refine gl 28 Tryd.func24 #[.int .i64 a0_0] ?_; (with_reducible refine (spec_l1Jump.calls a0_0 false _ A15.out).mono ?_); rintro e w' ⟨rfl, ⟨nd, rfl⟩⟩; refine ⟨_, rfl, ?_⟩) | (go_at_call 28; (with_reducible refine (spec_l1In.calls a0_4 1 6 t106 _ A78.out).mono ?_); rintro e w' ⟨rfl, ⟨nd, rfl⟩⟩))
           go_ret
           exact ⟨zR, zB⟩
          ·rw [if_neg c77] at H
           have c77b0 : (a0_5 == 0) = false := beq_eq_false_iff_ne.mpr c77
           have c77b1 : (a0_5 != 0) = true := bne_iff_ne.mpr c77
           obtain rfl := Option.some.inj H
           go_enter Tryd.func29, Tryd.ntmps29
           go_wp2_with (first | ((with_reducible refine gate_dst (N := 1) rfl ?_); refine be 1 #[.int .i64 a0_0, .int .i64 a0_1, .int .i64 a0_2, .int .i64 a0_3, .int .i64 a0_4, .int .i64 a0_5] 23 ?_; intro gb103 hg w81 hbox hb; have BK103 := Aside0.mk hbox; have GW103 := zW hg; replace HB := zS hb; have GE103 := GW103; clear hb hbox hg; obtain ⟨hcz82_0, hcz82_1, hcz82_2, hcz82_3, hcz82_4, hcz82_5, hfz82_0, hfz82_1, hfz82_2, hfz82_3, hfz82_4, hfz82_5⟩ := zc6 BK103) | ((with_reducible refine gate_callee (f := 23) rfl ?_); refine gl 6 Tryd.func23 #[.int .i64 a0_0] ?_; (with_reducible refine (spec_l1Alu.calls a0_0 false _ A2.out).mono ?_); rintro e w' ⟨rfl, ⟨nd, rfl⟩⟩; refine ⟨_, rfl, ?_⟩) | ((with_reducible refine gate_callee (f := 24) rfl ?_); refine gl 28 Tryd.func24 #[.int .i64 a0_0] ?_; (with_reducible refine (spec_l1Jump.calls a0_0 false _ A15.out).mono ?_); rintro e w' ⟨rfl, ⟨nd, rfl⟩⟩; refine ⟨_, rfl, ?_⟩))
           go_ret
           exact ⟨zR, zB⟩
         ·rw [if_neg c76] at H
          have c76b0 : (a0_3 == 0) = false := beq_eq_false_iff_ne.mpr c76
          have c76b1 : (a0_3 != 0) = true := bne_iff_ne.mpr c76
          obtain rfl := Option.some.inj H
          go_enter Tryd.func29, Tryd.ntmps29
          go_wp2_with (first | ((with_reducible refine gate_dst (N := 1) rfl ?_); refine be 1 #[.int .i64 a0_0, .int .i64 a0_1, .int .i64 a0_2, .int .i64 a0_3, .int .i64 a0_4, .int .i64 a0_5] 23 ?_; intro gb103 hg w83 hbox hb; have BK103 := Aside0.mk hbox; have GW103 := zW hg; replace HB := zS hb; have GE103 := GW103; clear hb hbox hg; obtain ⟨hcz84_0, hcz84_1, hcz84_2, hcz84_3, hcz84_4, hcz84_5, hfz84_0, hfz84_1, hfz84_2, hfz84_3, hfz84_4, hfz84_5⟩ := zc6 BK103) | ((with_reducible refine gate_callee (f := 23) rfl ?_); refine gl 6 Tryd.func23 #[.int .i64 a0_0] ?_; (with_reducible refine (spec_l1Alu.calls a0_0 false _ A2.out).mono ?_); rintro e w' ⟨rfl, ⟨nd, rfl⟩⟩; refine ⟨_, rfl, ?_⟩) | ((with_reducible refine gate_callee (f := 24) rfl ?_); refine gl 28 Tryd.func24 #[.int .i64 a0_0] ?_; (with_reducible refine (spec_l1Jump.calls a0_0 false _ A15.out).mono ?_); rintro e w' ⟨rfl, ⟨nd, rfl⟩⟩; refine ⟨_, rfl, ?_⟩))
          go_ret
          exact ⟨zR, zB⟩
        ·rw [if_neg c75] at H
         have c75b0 : (a0_2 == (-1)) = false := beq_eq_false_iff_ne.mpr c75
         have c75b1 : (a0_2 != (-1)) = true := bne_iff_ne.mpr c75
         obtain rfl := Option.some.inj H
         go_enter Tryd.func29, Tryd.ntmps29
         go_wp2_with (first | ((with_reducible refine gate_dst (N := 1) rfl ?_); refine be 1 #[.int .i64 a0_0, .int .i64 a0_1, .int .i64 a0_2, .int .i64 a0_3, .int .i64 a0_4, .int .i64 a0_5] 23 ?_; intro gb103 hg w85 hbox hb; have BK103 := Aside0.mk hbox; have GW103 := zW hg; replace HB := zS hb; have GE103 := GW103; clear hb hbox hg; obtain ⟨hcz86_0, hcz86_1, hcz86_2, hcz86_3, hcz86_4, hcz86_5, hfz86_0, hfz86_1, hfz86_2, hfz86_3, hfz86_4, hfz86_5⟩ := zc6 BK103) | ((with_reducible refine gate_callee (f := 23) rfl ?_); refine gl 6 Tryd.func23 #[.int .i64 a0_0] ?_; (with_reducible refine (spec_l1Alu.calls a0_0 false _ A2.out).mono ?_); rintro e w' ⟨rfl, ⟨nd, rfl⟩⟩; refine ⟨_, rfl, ?_⟩) | ((with_reducible refine gate_callee (f := 24) rfl ?_); refine gl 28 Tryd.func24 #[.int .i64 a0_0] ?_; (with_reducible refine (spec_l1Jump.calls a0_0 false _ A15.out).mono ?_); rintro e w' ⟨rfl, ⟨nd, rfl⟩⟩; refine ⟨_, rfl, ?_⟩))
         go_ret
         exact ⟨zR, zB⟩
       ·rw [if_neg c74] at H
        have c74b0 : (a0_1 == 0) = false := beq_eq_false_iff_ne.mpr c74
        have c74b1 : (a0_1 != 0) = true := bne_iff_ne.mpr c74
        obtain rfl := Option.some.inj H
        go_enter Tryd.func29, Tryd.ntmps29
        go_wp2_with (first | ((with_reducible refine gate_dst (N := 1) rfl ?_); refine be 1 #[.int .i64 a0_0, .int .i64 a0_1, .int .i64 a0_2, .int .i64 a0_3, .int .i64 a0_4, .int .i64 a0_5] 23 ?_; intro gb103 hg w87 hbox hb; have BK103 := Aside0.mk hbox; have GW103 := zW hg; replace HB := zS hb; have GE103 := GW103; clear hb hbox hg; obtain ⟨hcz88_0, hcz88_1, hcz88_2, hcz88_3, hcz88_4, hcz88_5, hfz88_0, hfz88_1, hfz88_2, hfz88_3, hfz88_4, hfz88_5⟩ := zc6 BK103) | ((with_reducible refine gate_callee (f := 23) rfl ?_); refine gl 6 Tryd.func23 #[.int .i64 a0_0] ?_; (with_reducible refine (spec_l1Alu.calls a0_0 false _ A2.out).mono ?_); rintro e w' ⟨rfl, ⟨nd, rfl⟩⟩; refine ⟨_, rfl, ?_⟩) | ((with_reducible refine gate_callee (f := 24) rfl ?_); refine gl 28 Tryd.func24 #[.int .i64 a0_0] ?_; (with_reducible refine (spec_l1Jump.calls a0_0 false _ A15.out).mono ?_); rintro e w' ⟨rfl, ⟨nd, rfl⟩⟩; refine ⟨_, rfl, ?_⟩))
        go_ret
        exact ⟨zR, zB⟩
      ·rw [if_neg c73] at H
       have c73b0 : (a0_0 == 19) = false := beq_eq_false_iff_ne.mpr c73
       have c73b1 : (a0_0 != 19) = true := bne_iff_ne.mpr c73
       by_cases c89 : a0_0 = 20
       ·rw [if_pos c89] at H
        have c89b0 : (a0_0 == 20) = true := beq_iff_eq.mpr c89
        have c89b1 : (a0_0 != 20) = false := bne_eq_false_iff_eq.mpr c89
        clear c89
        obtain rfl := Option.some.inj H
        go_enter Tryd.func29, Tryd.ntmps29
        go_wp2_with (first | ((with_reducible refine gate_dst (N := 1) rfl ?_); refine be 1 #[.int .i64 a0_0, .int .i64 a0_1, .int .i64 a0_2, .int .i64 a0_3, .int .i64 a0_4, .int .i64 a0_5] 23 ?_; intro gb103 hg w90 hbox hb; have BK103 := Aside0.mk hbox; have GW103 := zW hg; replace HB := zS hb; have GE103 := GW103; clear hb hbox hg; obtain ⟨hcz91_0, hcz91_1, hcz91_2, hcz91_3, hcz91_4, hcz91_5, hfz91_0, hfz91_1, hfz91_2, hfz91_3, hfz91_4, hfz91_5⟩ := zc6 BK103) | ((with_reducible refine gate_callee (f := 23) rfl ?_); refine gl 6 Tryd.func23 #[.int .i64 a0_0] ?_; (with_reducible refine (spec_l1Alu.calls a0_0 false _ A2.out).mono ?_); rintro e w' ⟨rfl, ⟨nd, rfl⟩⟩; refine ⟨_, rfl, ?_⟩) | ((with_reducible refine gate_callee (f := 24) rfl ?_); refine gl 28 Tryd.func24 #[.int .i64 a0_0] ?_; (with_reducible refine (spec_l1Jump.calls a0_0 false _ A15.out).mono ?_); rintro e w' ⟨rfl, ⟨nd, rfl⟩⟩; refine ⟨_, rfl, ?_⟩))
        go_ret
        exact ⟨zR, zB⟩
       ·rw [if_neg c89] at H
        have c89b0 : (a0_0 == 20) = false := beq_eq_false_iff_ne.mpr c89
        have c89b1 : (a0_0 != 20) = true := bne_iff_ne.mpr c89
        obtain rfl := Option.some.inj H
        go_enter Tryd.func29, Tryd.ntmps29
        go_wp2_with (first | ((with_reducible refine gate_dst (N := 1) rfl ?_); refine be 1 #[.int .i64 a0_0, .int .i64 a0_1, .int .i64 a0_2, .int .i64 a0_3, .int .i64 a0_4, .int .i64 a0_5] 23 ?_; intro gb103 hg w92 hbox hb; have BK103 := Aside0.mk hbox; have GW103 := zW hg; replace HB := zS hb; have GE103 := GW103; clear hb hbox hg; obtain ⟨hcz93_0, hcz93_1, hcz93_2, hcz93_3, hcz93_4, hcz93_5, hfz93_0, hfz93_1, hfz93_2, hfz93_3, hfz93_4, hfz93_5⟩ := zc6 BK103) | ((with_reducible refine gate_callee (f := 23) rfl ?_); refine gl 6 Tryd.func23 #[.int .i64 a0_0] ?_; (with_reducible refine (spec_l1Alu.calls a0_0 false _ A2.out).mono ?_); rintro e w' ⟨rfl, ⟨nd, rfl⟩⟩; refine ⟨_, rfl, ?_⟩) | ((with_reducible refine gate_callee (f := 24) rfl ?_); refine gl 28 Tryd.func24 #[.int .i64 a0_0] ?_; (with_reducible refine (spec_l1Jump.calls a0_0 false _ A15.out).mono ?_); rintro e w' ⟨rfl, ⟨nd, rfl⟩⟩; refine ⟨_, rfl, ?_⟩))
        go_ret
        exact ⟨zR, zB⟩

/-! ### spec_l1InsOk: function 13 -/
def spec_l1InsOk.f (a0_0 : Int) (a0_1 : Int) (a0_2 : Int) (a0_3 : Int) (a0_4 : Int) (a0_5 : Int) : Option (Bool) := (spec_l1In.f a0_1 0 10).bind fun t108 => (if t108 = true then ((spec_l1In.f a0_2 (-1) 10).bind fun t109 => (if t109 = true then ((spec_l1In.f a0_3 (-128) 127).bind fun t110 => (if t110 = true then ((spec_l1In.f a0_4 0 4294967295).bind fun t111 => (if t111 = true then ((spec_l1Bare.f a0_0 a0_1 a0_2 a0_3 a0_4 a0_5).bind fun t112 => (some t112)) else (some false))) else (some false))) else (some false))) else (some false))
set_option maxHeartbeats 8000000 in
set_option maxRecDepth 100000 in
theorem spec_l1InsOk.calls (a0_0 : Int) (a0_1 : Int) (a0_2 : Int) (a0_3 : Int) (a0_4 : Int) (a0_5 : Int) (r : Bool) (w : World) (h : spec_l1InsOk.f a0_0 a0_1 a0_2 a0_3 a0_4 a0_5 = some r) :
  Calls Tryd.prog 13 #[.agg #[.int .i64 a0_0, .int .i64 a0_1, .int .i64 a0_2, .int .i64 a0_3, .int .i64 a0_4, .int .i64 a0_5]] w fun e w' => e = .returned (.bool r) ∧ Below w.heap.size w w' := by
 have hu23 := Tryd.underlying23
 have HB := Aside0.mk (Below.refl w.heap.size w)
 have H : ((spec_l1In.f a0_1 0 10).bind fun t108 => (if t108 = true then ((spec_l1In.f a0_2 (-1) 10).bind fun t109 => (if t109 = true then ((spec_l1In.f a0_3 (-128) 127).bind fun t110 => (if t110 = true then ((spec_l1In.f a0_4 0 4294967295).bind fun t111 => (if t111 = true then ((spec_l1Bare.f a0_0 a0_1 a0_2 a0_3 a0_4 a0_5).bind fun t112 => (some t112)) else (some false))) else (some false))) else (some false))) else (some false))) = some r := h
 clear h
 replace H := Option.bind_eq_some_iff.mp H
 obtain ⟨t108, A20, H⟩ := H
 try dsimp only at H
 have A2 := Aside0.mk A20
 clear A20
 by_cases c3 : t108 = true
 ·subst c3
  rw [if_pos rfl] at H
  replace H := Option.bind_eq_some_iff.mp H
  obtain ⟨t109, A40, H⟩ := H
  try dsimp only at H
  have A4 := Aside0.mk A40
  clear A40
  by_cases c5 : t109 = true
  ·subst c5
   rw [if_pos rfl] at H
   replace H := Option.bind_eq_some_iff.mp H
   obtain ⟨t110, A60, H⟩ := H
   try dsimp only at H
   have A6 := Aside0.mk A60
   clear A60
   by_cases c7 : t110 = true
   ·subst c7
    rw [if_pos rfl] at H
    replace H := Option.bind_eq_some_iff.mp H
    obtain ⟨t111, A80, H⟩ := H
    try dsimp only at H
    have A8 := Aside0.mk A80
    clear A80
    by_cases c9 : t111 = true
    ·subst c9
     rw [if_pos rfl] at H
     replace H := Option.bind_eq_some_iff.mp H
     obtain ⟨t112, A100, H⟩ := H
     try dsimp only at H
     have A10 := Aside0.mk A100
     clear A100
     obtain rfl := Option.some.inj H
     go_enter Tryd.func13, Tryd.ntmps13
     go_wp2_with (first | ((with_reducible refine gate_dst (N := 1) rfl ?_); refine be 1 #[.int .i64 a0_0, .int .i64 a0_1, .int .i64 a0_2, .int .i64 a0_3, .int .i64 a0_4, .int .i64 a0_5] 23 ?_; intro gb107 hg w11 hbox hb; have BK107 := Aside0.mk hbox; have GW107 := zW hg; replace HB := zS hb; have GE107 := GW107; clear hb hbox hg; obtain ⟨hcz12_0, hcz12_1, hcz12_2, hcz12_3, hcz12_4, hcz12_5, hfz12_0, hfz12_1, hfz12_2, hfz12_3, hfz12_4, hfz12_5⟩ := zc6 BK107) | ((with_reducible refine gate_callee (f := 28) rfl ?_); refine gl 5 Tryd.func28 #[.int .i64 a0_1, .int .i64 0, .int .i64 10] ?_; (with_reducible refine (spec_l1In.calls a0_1 0 10 true _ A2.out).mono ?_); rintro e w' ⟨rfl, ⟨nd, rfl⟩⟩; refine ⟨_, rfl, ?_⟩) | (go_at_call 28; (with_reducible refine (spec_l1In.calls a0_2 (-1) 10 true _ A4.out).mono ?_); rintro e w' ⟨rfl, ⟨nd, rfl⟩⟩) | (go_at_call 28; (with_reducible refine (spec_l1In.calls a0_3 (-128) 127 true _ A6.out).mono ?_); rintro e w' ⟨rfl, ⟨nd, rfl⟩⟩) | (go_at_call 28; (with_reducible refine (spec_l1In.calls a0_4 0 4294967295 true _ A8.out).mono ?_); rintro e w' ⟨rfl, ⟨nd, rfl⟩⟩) | (go_at_call 29; (with_reducible refine (spec_l1Bare.calls a0_0 a0_1 a0_2 a0_3 a0_4 a0_5 t112 _ A10.out).mono ?_); rintro e w13 ⟨rfl, hb⟩; replace BK107 := zb BK107 hb rfl; replace HB := zS hb; try clear hb))
     go_ret
     exact ⟨zR, zB⟩
    ·replace c9 := Bool.eq_false_iff.mpr c9
     subst c9
     rw [if_neg (show ¬ (false = true) by decide)] at H
     obtain rfl := Option.some.inj H
     go_enter Tryd.func13, Tryd.ntmps13
     go_wp2_with (first | ((with_reducible refine gate_dst (N := 1) rfl ?_); refine be 1 #[.int .i64 a0_0, .int .i64 a0_1, .int .i64 a0_2, .int .i64 a0_3, .int .i64 a0_4, .int .i64 a0_5] 23 ?_; intro gb107 hg w14 hbox hb; have BK107 := Aside0.mk hbox; have GW107 := zW hg; replace HB := zS hb; have GE107 := GW107; clear hb hbox hg; obtain ⟨hcz15_0, hcz15_1, hcz15_2, hcz15_3, hcz15_4, hcz15_5, hfz15_0, hfz15_1, hfz15_2, hfz15_3, hfz15_4, hfz15_5⟩ := zc6 BK107) | ((with_reducible refine gate_callee (f := 28) rfl ?_); refine gl 5 Tryd.func28 #[.int .i64 a0_1, .int .i64 0, .int .i64 10] ?_; (with_reducible refine (spec_l1In.calls a0_1 0 10 true _ A2.out).mono ?_); rintro e w' ⟨rfl, ⟨nd, rfl⟩⟩; refine ⟨_, rfl, ?_⟩) | (go_at_call 28; (with_reducible refine (spec_l1In.calls a0_2 (-1) 10 true _ A4.out).mono ?_); rintro e w' ⟨rfl, ⟨nd, rfl⟩⟩) | (go_at_call 28; (with_reducible refine (spec_l1In.calls a0_3 (-128) 127 true _ A6.out).mono ?_); rintro e w' ⟨rfl, ⟨nd, rfl⟩⟩) | (go_at_call 28; (with_reducible refine (spec_l1In.calls a0_4 0 4294967295 false _ A8.out).mono ?_); rintro e w' ⟨rfl, ⟨nd, rfl⟩⟩))
     go_ret
     exact ⟨zR, zB⟩
   ·replace c7 := Bool.eq_false_iff.mpr c7
    subst c7
    rw [if_neg (show ¬ (false = true) by decide)] at H
    obtain rfl := Option.some.inj H
    go_enter Tryd.func13, Tryd.ntmps13
    go_wp2_with (first | ((with_reducible refine gate_dst (N := 1) rfl ?_); refine be 1 #[.int .i64 a0_0, .int .i64 a0_1, .int .i64 a0_2, .int .i64 a0_3, .int .i64 a0_4, .int .i64 a0_5] 23 ?_; intro gb107 hg w16 hbox hb; have BK107 := Aside0.mk hbox; have GW107 := zW hg; replace HB := zS hb; have GE107 := GW107; clear hb hbox hg; obtain ⟨hcz17_0, hcz17_1, hcz17_2, hcz17_3, hcz17_4, hcz17_5, hfz17_0, hfz17_1, hfz17_2, hfz17_3, hfz17_4, hfz17_5⟩ := zc6 BK107) | ((with_reducible refine gate_callee (f := 28) rfl ?_); refine gl 5 Tryd.func28 #[.int .i64 a0_1, .int .i64 0, .int .i64 10] ?_; (with_reducible refine (spec_l1In.calls a0_1 0 10 true _ A2.out).mono ?_); rintro e w' ⟨rfl, ⟨nd, rfl⟩⟩; refine ⟨_, rfl, ?_⟩) | (go_at_call 28; (with_reducible refine (spec_l1In.calls a0_2 (-1) 10 true _ A4.out).mono ?_); rintro e w' ⟨rfl, ⟨nd, rfl⟩⟩) | (go_at_call 28; (with_reducible refine (spec_l1In.calls a0_3 (-128) 127 false _ A6.out).mono ?_); rintro e w' ⟨rfl, ⟨nd, rfl⟩⟩))
    go_ret
    exact ⟨zR, zB⟩
  ·replace c5 := Bool.eq_false_iff.mpr c5
   subst c5
   rw [if_neg (show ¬ (false = true) by decide)] at H
   obtain rfl := Option.some.inj H
   go_enter Tryd.func13, Tryd.ntmps13
   go_wp2_with (first | ((with_reducible refine gate_dst (N := 1) rfl ?_); refine be 1 #[.int .i64 a0_0, .int .i64 a0_1, .int .i64 a0_2, .int .i64 a0_3, .int .i64 a0_4, .int .i64 a0_5] 23 ?_; intro gb107 hg w18 hbox hb; have BK107 := Aside0.mk hbox; have GW107 := zW hg; replace HB := zS hb; have GE107 := GW107; clear hb hbox hg; obtain ⟨hcz19_0, hcz19_1, hcz19_2, hcz19_3, hcz19_4, hcz19_5, hfz19_0, hfz19_1, hfz19_2, hfz19_3, hfz19_4, hfz19_5⟩ := zc6 BK107) | ((with_reducible refine gate_callee (f := 28) rfl ?_); refine gl 5 Tryd.func28 #[.int .i64 a0_1, .int .i64 0, .int .i64 10] ?_; (with_reducible refine (spec_l1In.calls a0_1 0 10 true _ A2.out).mono ?_); rintro e w' ⟨rfl, ⟨nd, rfl⟩⟩; refine ⟨_, rfl, ?_⟩) | (go_at_call 28; (with_reducible refine (spec_l1In.calls a0_2 (-1) 10 false _ A4.out).mono ?_); rintro e w' ⟨rfl, ⟨nd, rfl⟩⟩))
   go_ret
   exact ⟨zR, zB⟩
 ·replace c3 := Bool.eq_false_iff.mpr c3
  subst c3
  rw [if_neg (show ¬ (false = true) by decide)] at H
  obtain rfl := Option.some.inj H
  go_enter Tryd.func13, Tryd.ntmps13
  go_wp2_with (first | ((with_reducible refine gate_dst (N := 1) rfl ?_); refine be 1 #[.int .i64 a0_0, .int .i64 a0_1, .int .i64 a0_2, .int .i64 a0_3, .int .i64 a0_4, .int .i64 a0_5] 23 ?_; intro gb107 hg w20 hbox hb; have BK107 := Aside0.mk hbox; have GW107 := zW hg; replace HB := zS hb; have GE107 := GW107; clear hb hbox hg; obtain ⟨hcz21_0, hcz21_1, hcz21_2, hcz21_3, hcz21_4, hcz21_5, hfz21_0, hfz21_1, hfz21_2, hfz21_3, hfz21_4, hfz21_5⟩ := zc6 BK107) | ((with_reducible refine gate_callee (f := 28) rfl ?_); refine gl 5 Tryd.func28 #[.int .i64 a0_1, .int .i64 0, .int .i64 10] ?_; (with_reducible refine (spec_l1In.calls a0_1 0 10 false _ A2.out).mono ?_); rintro e w' ⟨rfl, ⟨nd, rfl⟩⟩; refine ⟨_, rfl, ?_⟩))
  go_ret
  exact ⟨zR, zB⟩

end Go.Proofs.YtllmbooicobmkaaDoor.Q
