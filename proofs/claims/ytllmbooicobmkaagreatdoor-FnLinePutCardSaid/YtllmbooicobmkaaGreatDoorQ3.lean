/- The machine's side of this seat's laws: Go functions as Lean functions, and their contracts. By a program of this work over the kit's print. -/
import Derived.Test.YtllmbooicobmkaaGreatDoorQ0
import Derived.Test.YtllmbooicobmkaaGreatDoorQ1
import Derived.Test.YtllmbooicobmkaaGreatDoorQ2
namespace Go.Proofs.YtllmbooicobmkaaGreatDoor.Q
open Go.RowKit Go.Proofs.YtllmbooicobmkaaGreatDoorW.PrintWords Go.Proofs.YtllmbooicobmkaaGreatDoorW.PrintLast Go.Proofs.YtllmbooicobmkaaGreatDoorW.PrintMore
attribute [local go_sem] max2_int min2_int max_two min_two max_three min_three max_four min_four Go.Proofs.YtllmbooicobmkaaGreatDoorN.not_i64 Go.Proofs.YtllmbooicobmkaaGreatDoorN.isSome_setCell
set_option linter.unusedVariables false
set_option linter.unusedSimpArgs false
attribute [local go_sem high] eqA24
def spec_l1Bare.f (a0_0 a0_1 : Int) (a0_2 a0_3 : Int) (a0_4 a0_5 : Int) : Option (Bool) := (spec_l1Alu.f a0_0).bind fun t107 => (if t107 = true then (if a0_3 = 0 then (if a0_5 = 0 then (if a0_2 < 0 then (some true) else (some (a0_4 == 0))) else (some false)) else (some false)) else ((spec_l1Jump.f a0_0).bind fun t108 => (if t108 = true then (if a0_5 = 0 then (if a0_2 < 0 then (some true) else (some (a0_4 == 0))) else (some false)) else (if a0_0 = 16 then (if a0_1 = 0 then (if a0_2 = (-1) then (if a0_4 = 0 then (some (a0_5 == 0)) else (some false)) else (some false)) else (some false)) else (if a0_0 = 17 then (if a0_2 ≥ 0 then (if a0_4 = 0 then (if a0_5 = 1 then (some true) else (if a0_5 = 2 then (some true) else (some (a0_5 == 4)))) else (some false)) else (some false)) else (if a0_0 = 18 then (if a0_2 < 0 then (if a0_5 = 1 then (some true) else (if a0_5 = 2 then (some true) else (some (a0_5 == 4)))) else (if a0_4 = 0 then (if a0_5 = 1 then (some true) else (if a0_5 = 2 then (some true) else (some (a0_5 == 4)))) else (some false))) else (if a0_0 = 19 then (if a0_1 = 0 then (if a0_2 = (-1) then (if a0_3 = 0 then (if a0_5 = 0 then ((spec_l1In.f a0_4 1 6).bind fun t109 => (some t109)) else (some false)) else (some false)) else (some false)) else (some false)) else (if a0_0 = 20 then (some (a0_0 == 20 && (a0_1 == 0 && (a0_2 == (-1) && (a0_3 == 0 && (a0_4 == 0 && (a0_5 == 0))))))) else (some false)))))))))
set_option maxHeartbeats 8000000 in
set_option maxRecDepth 100000 in
theorem spec_l1Bare.calls (a0_0 a0_1 : Int) (a0_2 a0_3 : Int) (a0_4 a0_5 : Int) (r : Bool) (w : World) (h : spec_l1Bare.f a0_0 a0_1 a0_2 a0_3 a0_4 a0_5 = some r) :
  Calls Tryz.prog 31 #[.agg #[.int .i64 a0_0, .int .i64 a0_1, .int .i64 a0_2, .int .i64 a0_3, .int .i64 a0_4, .int .i64 a0_5]] w fun e w' => e = .returned (.bool r) ∧ Below w.heap.size w w' := by
 have hu24 := Tryz.underlying24
 have HB := Aside0.mk (Below.refl w.heap.size w)
 have H := h
 clear h
 unfold spec_l1Bare.f at H
 replace H := oA H
 obtain ⟨t107, A2, H⟩ := H
 try dsimp only at H
 by_cases c3 : t107 = true
 ·subst c3
  rw [if_pos rfl] at H
  by_cases c4 : a0_3 = 0
  ·rw [if_pos c4] at H
   have c4b0 : (a0_3 == 0) = true := beq_iff_eq.mpr c4
   have c4b1 : (a0_3 != 0) = false := bne_eq_false_iff_eq.mpr c4
   clear c4
   by_cases c5 : a0_5 = 0
   ·rw [if_pos c5] at H
    have c5b0 : (a0_5 == 0) = true := beq_iff_eq.mpr c5
    have c5b1 : (a0_5 != 0) = false := bne_eq_false_iff_eq.mpr c5
    clear c5
    by_cases c6 : a0_2 < 0
    ·rw [if_pos c6] at H
     have c6b0 : decide (a0_2 < 0) = true := decide_eq_true c6
     clear c6
     obtain rfl := Option.some.inj H
     go_enter Tryz.func31, Tryz.ntmps31
     go_wp2_with (first | ((with_reducible refine gate_dst (N := 1) rfl ?_); refine be 1 #[.int .i64 a0_0, .int .i64 a0_1, .int .i64 a0_2, .int .i64 a0_3, .int .i64 a0_4, .int .i64 a0_5] 24 ?_; intro gb106 hg w7 hbox hb; have BK106 := Aside0.mk hbox; have GW106 := zW hg; replace HB := zS hb; have GE106 := GW106; clear hb hbox hg; obtain ⟨_, _, _, _, _, _, _, _, _, _, _, _⟩ := zc6 BK106) | ((with_reducible refine gate_callee (f := 34) rfl ?_); refine gl 6 Tryz.func34 #[.int .i64 a0_0] ?_; (with_reducible refine (spec_l1Alu.calls a0_0 true _ A2.out).mono ?_); rintro e w' ⟨rfl, ⟨nd, rfl⟩⟩; refine ⟨_, rfl, ?_⟩))
     go_ret
     exact ⟨zR, zB⟩
    ·rw [if_neg c6] at H
     have c6b0 : decide (a0_2 < 0) = false := decide_eq_false c6
     clear c6
     obtain rfl := Option.some.inj H
     go_enter Tryz.func31, Tryz.ntmps31
     go_wp2_with (first | ((with_reducible refine gate_dst (N := 1) rfl ?_); refine be 1 #[.int .i64 a0_0, .int .i64 a0_1, .int .i64 a0_2, .int .i64 a0_3, .int .i64 a0_4, .int .i64 a0_5] 24 ?_; intro gb106 hg w9 hbox hb; have BK106 := Aside0.mk hbox; have GW106 := zW hg; replace HB := zS hb; have GE106 := GW106; clear hb hbox hg; obtain ⟨_, _, _, _, _, _, _, _, _, _, _, _⟩ := zc6 BK106) | ((with_reducible refine gate_callee (f := 34) rfl ?_); refine gl 6 Tryz.func34 #[.int .i64 a0_0] ?_; (with_reducible refine (spec_l1Alu.calls a0_0 true _ A2.out).mono ?_); rintro e w' ⟨rfl, ⟨nd, rfl⟩⟩; refine ⟨_, rfl, ?_⟩))
     go_ret
     exact ⟨zR, zB⟩
   ·rw [if_neg c5] at H
    have c5b0 : (a0_5 == 0) = false := beq_eq_false_iff_ne.mpr c5
    have c5b1 : (a0_5 != 0) = true := bne_iff_ne.mpr c5
    obtain rfl := Option.some.inj H
    go_enter Tryz.func31, Tryz.ntmps31
    go_wp2_with (first | ((with_reducible refine gate_dst (N := 1) rfl ?_); refine be 1 #[.int .i64 a0_0, .int .i64 a0_1, .int .i64 a0_2, .int .i64 a0_3, .int .i64 a0_4, .int .i64 a0_5] 24 ?_; intro gb106 hg w11 hbox hb; have BK106 := Aside0.mk hbox; have GW106 := zW hg; replace HB := zS hb; have GE106 := GW106; clear hb hbox hg; obtain ⟨_, _, _, _, _, _, _, _, _, _, _, _⟩ := zc6 BK106) | ((with_reducible refine gate_callee (f := 34) rfl ?_); refine gl 6 Tryz.func34 #[.int .i64 a0_0] ?_; (with_reducible refine (spec_l1Alu.calls a0_0 true _ A2.out).mono ?_); rintro e w' ⟨rfl, ⟨nd, rfl⟩⟩; refine ⟨_, rfl, ?_⟩))
    go_ret
    exact ⟨zR, zB⟩
  ·rw [if_neg c4] at H
   have c4b0 : (a0_3 == 0) = false := beq_eq_false_iff_ne.mpr c4
   have c4b1 : (a0_3 != 0) = true := bne_iff_ne.mpr c4
   obtain rfl := Option.some.inj H
   go_enter Tryz.func31, Tryz.ntmps31
   go_wp2_with (first | ((with_reducible refine gate_dst (N := 1) rfl ?_); refine be 1 #[.int .i64 a0_0, .int .i64 a0_1, .int .i64 a0_2, .int .i64 a0_3, .int .i64 a0_4, .int .i64 a0_5] 24 ?_; intro gb106 hg w13 hbox hb; have BK106 := Aside0.mk hbox; have GW106 := zW hg; replace HB := zS hb; have GE106 := GW106; clear hb hbox hg; obtain ⟨_, _, _, _, _, _, _, _, _, _, _, _⟩ := zc6 BK106) | ((with_reducible refine gate_callee (f := 34) rfl ?_); refine gl 6 Tryz.func34 #[.int .i64 a0_0] ?_; (with_reducible refine (spec_l1Alu.calls a0_0 true _ A2.out).mono ?_); rintro e w' ⟨rfl, ⟨nd, rfl⟩⟩; refine ⟨_, rfl, ?_⟩))
   go_ret
   exact ⟨zR, zB⟩
 ·replace c3 := Bool.eq_false_iff.mpr c3
  subst c3
  rw [if_neg (show ¬ (false = true) by decide)] at H
  replace H := oA H
  obtain ⟨t108, A15, H⟩ := H
  try dsimp only at H
  by_cases c16 : t108 = true
  ·subst c16
   rw [if_pos rfl] at H
   by_cases c17 : a0_5 = 0
   ·rw [if_pos c17] at H
    have c17b0 : (a0_5 == 0) = true := beq_iff_eq.mpr c17
    have c17b1 : (a0_5 != 0) = false := bne_eq_false_iff_eq.mpr c17
    clear c17
    by_cases c18 : a0_2 < 0
    ·rw [if_pos c18] at H
     have c18b0 : decide (a0_2 < 0) = true := decide_eq_true c18
     clear c18
     obtain rfl := Option.some.inj H
     go_enter Tryz.func31, Tryz.ntmps31
     go_wp2_with (first | ((with_reducible refine gate_dst (N := 1) rfl ?_); refine be 1 #[.int .i64 a0_0, .int .i64 a0_1, .int .i64 a0_2, .int .i64 a0_3, .int .i64 a0_4, .int .i64 a0_5] 24 ?_; intro gb106 hg w19 hbox hb; have BK106 := Aside0.mk hbox; have GW106 := zW hg; replace HB := zS hb; have GE106 := GW106; clear hb hbox hg; obtain ⟨_, _, _, _, _, _, _, _, _, _, _, _⟩ := zc6 BK106) | ((with_reducible refine gate_callee (f := 34) rfl ?_); refine gl 6 Tryz.func34 #[.int .i64 a0_0] ?_; (with_reducible refine (spec_l1Alu.calls a0_0 false _ A2.out).mono ?_); rintro e w' ⟨rfl, ⟨nd, rfl⟩⟩; refine ⟨_, rfl, ?_⟩) | ((with_reducible refine gate_callee (f := 36) rfl ?_); refine gl 28 Tryz.func36 #[.int .i64 a0_0] ?_; (with_reducible refine (spec_l1Jump.calls a0_0 true _ A15.out).mono ?_); rintro e w' ⟨rfl, ⟨nd, rfl⟩⟩; refine ⟨_, rfl, ?_⟩))
     go_ret
     exact ⟨zR, zB⟩
    ·rw [if_neg c18] at H
     have c18b0 : decide (a0_2 < 0) = false := decide_eq_false c18
     clear c18
     obtain rfl := Option.some.inj H
     go_enter Tryz.func31, Tryz.ntmps31
     go_wp2_with (first | ((with_reducible refine gate_dst (N := 1) rfl ?_); refine be 1 #[.int .i64 a0_0, .int .i64 a0_1, .int .i64 a0_2, .int .i64 a0_3, .int .i64 a0_4, .int .i64 a0_5] 24 ?_; intro gb106 hg w21 hbox hb; have BK106 := Aside0.mk hbox; have GW106 := zW hg; replace HB := zS hb; have GE106 := GW106; clear hb hbox hg; obtain ⟨_, _, _, _, _, _, _, _, _, _, _, _⟩ := zc6 BK106) | ((with_reducible refine gate_callee (f := 34) rfl ?_); refine gl 6 Tryz.func34 #[.int .i64 a0_0] ?_; (with_reducible refine (spec_l1Alu.calls a0_0 false _ A2.out).mono ?_); rintro e w' ⟨rfl, ⟨nd, rfl⟩⟩; refine ⟨_, rfl, ?_⟩) | ((with_reducible refine gate_callee (f := 36) rfl ?_); refine gl 28 Tryz.func36 #[.int .i64 a0_0] ?_; (with_reducible refine (spec_l1Jump.calls a0_0 true _ A15.out).mono ?_); rintro e w' ⟨rfl, ⟨nd, rfl⟩⟩; refine ⟨_, rfl, ?_⟩))
     go_ret
     exact ⟨zR, zB⟩
   ·rw [if_neg c17] at H
    have c17b0 : (a0_5 == 0) = false := beq_eq_false_iff_ne.mpr c17
    have c17b1 : (a0_5 != 0) = true := bne_iff_ne.mpr c17
    obtain rfl := Option.some.inj H
    go_enter Tryz.func31, Tryz.ntmps31
    go_wp2_with (first | ((with_reducible refine gate_dst (N := 1) rfl ?_); refine be 1 #[.int .i64 a0_0, .int .i64 a0_1, .int .i64 a0_2, .int .i64 a0_3, .int .i64 a0_4, .int .i64 a0_5] 24 ?_; intro gb106 hg w23 hbox hb; have BK106 := Aside0.mk hbox; have GW106 := zW hg; replace HB := zS hb; have GE106 := GW106; clear hb hbox hg; obtain ⟨_, _, _, _, _, _, _, _, _, _, _, _⟩ := zc6 BK106) | ((with_reducible refine gate_callee (f := 34) rfl ?_); refine gl 6 Tryz.func34 #[.int .i64 a0_0] ?_; (with_reducible refine (spec_l1Alu.calls a0_0 false _ A2.out).mono ?_); rintro e w' ⟨rfl, ⟨nd, rfl⟩⟩; refine ⟨_, rfl, ?_⟩) | ((with_reducible refine gate_callee (f := 36) rfl ?_); refine gl 28 Tryz.func36 #[.int .i64 a0_0] ?_; (with_reducible refine (spec_l1Jump.calls a0_0 true _ A15.out).mono ?_); rintro e w' ⟨rfl, ⟨nd, rfl⟩⟩; refine ⟨_, rfl, ?_⟩))
    go_ret
    exact ⟨zR, zB⟩
  ·replace c16 := Bool.eq_false_iff.mpr c16
   subst c16
   rw [if_neg (show ¬ (false = true) by decide)] at H
   by_cases c25 : a0_0 = 16
   ·rw [if_pos c25] at H
    have c25b0 : (a0_0 == 16) = true := beq_iff_eq.mpr c25
    have c25b1 : (a0_0 != 16) = false := bne_eq_false_iff_eq.mpr c25
    clear c25
    by_cases c26 : a0_1 = 0
    ·rw [if_pos c26] at H
     have c26b0 : (a0_1 == 0) = true := beq_iff_eq.mpr c26
     have c26b1 : (a0_1 != 0) = false := bne_eq_false_iff_eq.mpr c26
     clear c26
     by_cases c27 : a0_2 = (-1)
     ·rw [if_pos c27] at H
      have c27b0 : (a0_2 == (-1)) = true := beq_iff_eq.mpr c27
      have c27b1 : (a0_2 != (-1)) = false := bne_eq_false_iff_eq.mpr c27
      clear c27
      by_cases c28 : a0_4 = 0
      ·rw [if_pos c28] at H
       have c28b0 : (a0_4 == 0) = true := beq_iff_eq.mpr c28
       have c28b1 : (a0_4 != 0) = false := bne_eq_false_iff_eq.mpr c28
       clear c28
       obtain rfl := Option.some.inj H
       go_enter Tryz.func31, Tryz.ntmps31
       go_wp2_with (first | ((with_reducible refine gate_dst (N := 1) rfl ?_); refine be 1 #[.int .i64 a0_0, .int .i64 a0_1, .int .i64 a0_2, .int .i64 a0_3, .int .i64 a0_4, .int .i64 a0_5] 24 ?_; intro gb106 hg w29 hbox hb; have BK106 := Aside0.mk hbox; have GW106 := zW hg; replace HB := zS hb; have GE106 := GW106; clear hb hbox hg; obtain ⟨_, _, _, _, _, _, _, _, _, _, _, _⟩ := zc6 BK106) | ((with_reducible refine gate_callee (f := 34) rfl ?_); refine gl 6 Tryz.func34 #[.int .i64 a0_0] ?_; (with_reducible refine (spec_l1Alu.calls a0_0 false _ A2.out).mono ?_); rintro e w' ⟨rfl, ⟨nd, rfl⟩⟩; refine ⟨_, rfl, ?_⟩) | ((with_reducible refine gate_callee (f := 36) rfl ?_); refine gl 28 Tryz.func36 #[.int .i64 a0_0] ?_; (with_reducible refine (spec_l1Jump.calls a0_0 false _ A15.out).mono ?_); rintro e w' ⟨rfl, ⟨nd, rfl⟩⟩; refine ⟨_, rfl, ?_⟩))
       go_ret
       exact ⟨zR, zB⟩
      ·rw [if_neg c28] at H
       have c28b0 : (a0_4 == 0) = false := beq_eq_false_iff_ne.mpr c28
       have c28b1 : (a0_4 != 0) = true := bne_iff_ne.mpr c28
       obtain rfl := Option.some.inj H
       go_enter Tryz.func31, Tryz.ntmps31
       go_wp2_with (first | ((with_reducible refine gate_dst (N := 1) rfl ?_); refine be 1 #[.int .i64 a0_0, .int .i64 a0_1, .int .i64 a0_2, .int .i64 a0_3, .int .i64 a0_4, .int .i64 a0_5] 24 ?_; intro gb106 hg w31 hbox hb; have BK106 := Aside0.mk hbox; have GW106 := zW hg; replace HB := zS hb; have GE106 := GW106; clear hb hbox hg; obtain ⟨_, _, _, _, _, _, _, _, _, _, _, _⟩ := zc6 BK106) | ((with_reducible refine gate_callee (f := 34) rfl ?_); refine gl 6 Tryz.func34 #[.int .i64 a0_0] ?_; (with_reducible refine (spec_l1Alu.calls a0_0 false _ A2.out).mono ?_); rintro e w' ⟨rfl, ⟨nd, rfl⟩⟩; refine ⟨_, rfl, ?_⟩) | ((with_reducible refine gate_callee (f := 36) rfl ?_); refine gl 28 Tryz.func36 #[.int .i64 a0_0] ?_; (with_reducible refine (spec_l1Jump.calls a0_0 false _ A15.out).mono ?_); rintro e w' ⟨rfl, ⟨nd, rfl⟩⟩; refine ⟨_, rfl, ?_⟩))
       go_ret
       exact ⟨zR, zB⟩
     ·rw [if_neg c27] at H
      have c27b0 : (a0_2 == (-1)) = false := beq_eq_false_iff_ne.mpr c27
      have c27b1 : (a0_2 != (-1)) = true := bne_iff_ne.mpr c27
      obtain rfl := Option.some.inj H
      go_enter Tryz.func31, Tryz.ntmps31
      go_wp2_with (first | ((with_reducible refine gate_dst (N := 1) rfl ?_); refine be 1 #[.int .i64 a0_0, .int .i64 a0_1, .int .i64 a0_2, .int .i64 a0_3, .int .i64 a0_4, .int .i64 a0_5] 24 ?_; intro gb106 hg w33 hbox hb; have BK106 := Aside0.mk hbox; have GW106 := zW hg; replace HB := zS hb; have GE106 := GW106; clear hb hbox hg; obtain ⟨_, _, _, _, _, _, _, _, _, _, _, _⟩ := zc6 BK106) | ((with_reducible refine gate_callee (f := 34) rfl ?_); refine gl 6 Tryz.func34 #[.int .i64 a0_0] ?_; (with_reducible refine (spec_l1Alu.calls a0_0 false _ A2.out).mono ?_); rintro e w' ⟨rfl, ⟨nd, rfl⟩⟩; refine ⟨_, rfl, ?_⟩) | ((with_reducible refine gate_callee (f := 36) rfl ?_); refine gl 28 Tryz.func36 #[.int .i64 a0_0] ?_; (with_reducible refine (spec_l1Jump.calls a0_0 false _ A15.out).mono ?_); rintro e w' ⟨rfl, ⟨nd, rfl⟩⟩; refine ⟨_, rfl, ?_⟩))
      go_ret
      exact ⟨zR, zB⟩
    ·rw [if_neg c26] at H
     have c26b0 : (a0_1 == 0) = false := beq_eq_false_iff_ne.mpr c26
     have c26b1 : (a0_1 != 0) = true := bne_iff_ne.mpr c26
     obtain rfl := Option.some.inj H
     go_enter Tryz.func31, Tryz.ntmps31
     go_wp2_with (first | ((with_reducible refine gate_dst (N := 1) rfl ?_); refine be 1 #[.int .i64 a0_0, .int .i64 a0_1, .int .i64 a0_2, .int .i64 a0_3, .int .i64 a0_4, .int .i64 a0_5] 24 ?_; intro gb106 hg w35 hbox hb; have BK106 := Aside0.mk hbox; have GW106 := zW hg; replace HB := zS hb; have GE106 := GW106; clear hb hbox hg; obtain ⟨_, _, _, _, _, _, _, _, _, _, _, _⟩ := zc6 BK106) | ((with_reducible refine gate_callee (f := 34) rfl ?_); refine gl 6 Tryz.func34 #[.int .i64 a0_0] ?_; (with_reducible refine (spec_l1Alu.calls a0_0 false _ A2.out).mono ?_); rintro e w' ⟨rfl, ⟨nd, rfl⟩⟩; refine ⟨_, rfl, ?_⟩) | ((with_reducible refine gate_callee (f := 36) rfl ?_); refine gl 28 Tryz.func36 #[.int .i64 a0_0] ?_; (with_reducible refine (spec_l1Jump.calls a0_0 false _ A15.out).mono ?_); rintro e w' ⟨rfl, ⟨nd, rfl⟩⟩; refine ⟨_, rfl, ?_⟩))
     go_ret
     exact ⟨zR, zB⟩
   ·rw [if_neg c25] at H
    have c25b0 : (a0_0 == 16) = false := beq_eq_false_iff_ne.mpr c25
    have c25b1 : (a0_0 != 16) = true := bne_iff_ne.mpr c25
    by_cases c37 : a0_0 = 17
    ·rw [if_pos c37] at H
     have c37b0 : (a0_0 == 17) = true := beq_iff_eq.mpr c37
     have c37b1 : (a0_0 != 17) = false := bne_eq_false_iff_eq.mpr c37
     clear c37
     by_cases c38 : a0_2 ≥ 0
     ·rw [if_pos c38] at H
      have c38b0 : decide (0 ≤ a0_2) = true := decide_eq_true c38
      clear c38
      by_cases c39 : a0_4 = 0
      ·rw [if_pos c39] at H
       have c39b0 : (a0_4 == 0) = true := beq_iff_eq.mpr c39
       have c39b1 : (a0_4 != 0) = false := bne_eq_false_iff_eq.mpr c39
       clear c39
       by_cases c40 : a0_5 = 1
       ·rw [if_pos c40] at H
        have c40b0 : (a0_5 == 1) = true := beq_iff_eq.mpr c40
        have c40b1 : (a0_5 != 1) = false := bne_eq_false_iff_eq.mpr c40
        clear c40
        obtain rfl := Option.some.inj H
        go_enter Tryz.func31, Tryz.ntmps31
        go_wp2_with (first | ((with_reducible refine gate_dst (N := 1) rfl ?_); refine be 1 #[.int .i64 a0_0, .int .i64 a0_1, .int .i64 a0_2, .int .i64 a0_3, .int .i64 a0_4, .int .i64 a0_5] 24 ?_; intro gb106 hg w41 hbox hb; have BK106 := Aside0.mk hbox; have GW106 := zW hg; replace HB := zS hb; have GE106 := GW106; clear hb hbox hg; obtain ⟨_, _, _, _, _, _, _, _, _, _, _, _⟩ := zc6 BK106) | ((with_reducible refine gate_callee (f := 34) rfl ?_); refine gl 6 Tryz.func34 #[.int .i64 a0_0] ?_; (with_reducible refine (spec_l1Alu.calls a0_0 false _ A2.out).mono ?_); rintro e w' ⟨rfl, ⟨nd, rfl⟩⟩; refine ⟨_, rfl, ?_⟩) | ((with_reducible refine gate_callee (f := 36) rfl ?_); refine gl 28 Tryz.func36 #[.int .i64 a0_0] ?_; (with_reducible refine (spec_l1Jump.calls a0_0 false _ A15.out).mono ?_); rintro e w' ⟨rfl, ⟨nd, rfl⟩⟩; refine ⟨_, rfl, ?_⟩))
        go_ret
        exact ⟨zR, zB⟩
       ·rw [if_neg c40] at H
        have c40b0 : (a0_5 == 1) = false := beq_eq_false_iff_ne.mpr c40
        have c40b1 : (a0_5 != 1) = true := bne_iff_ne.mpr c40
        by_cases c43 : a0_5 = 2
        ·rw [if_pos c43] at H
         have c43b0 : (a0_5 == 2) = true := beq_iff_eq.mpr c43
         have c43b1 : (a0_5 != 2) = false := bne_eq_false_iff_eq.mpr c43
         clear c43
         obtain rfl := Option.some.inj H
         go_enter Tryz.func31, Tryz.ntmps31
         go_wp2_with (first | ((with_reducible refine gate_dst (N := 1) rfl ?_); refine be 1 #[.int .i64 a0_0, .int .i64 a0_1, .int .i64 a0_2, .int .i64 a0_3, .int .i64 a0_4, .int .i64 a0_5] 24 ?_; intro gb106 hg w44 hbox hb; have BK106 := Aside0.mk hbox; have GW106 := zW hg; replace HB := zS hb; have GE106 := GW106; clear hb hbox hg; obtain ⟨_, _, _, _, _, _, _, _, _, _, _, _⟩ := zc6 BK106) | ((with_reducible refine gate_callee (f := 34) rfl ?_); refine gl 6 Tryz.func34 #[.int .i64 a0_0] ?_; (with_reducible refine (spec_l1Alu.calls a0_0 false _ A2.out).mono ?_); rintro e w' ⟨rfl, ⟨nd, rfl⟩⟩; refine ⟨_, rfl, ?_⟩) | ((with_reducible refine gate_callee (f := 36) rfl ?_); refine gl 28 Tryz.func36 #[.int .i64 a0_0] ?_; (with_reducible refine (spec_l1Jump.calls a0_0 false _ A15.out).mono ?_); rintro e w' ⟨rfl, ⟨nd, rfl⟩⟩; refine ⟨_, rfl, ?_⟩))
         go_ret
         exact ⟨zR, zB⟩
        ·rw [if_neg c43] at H
         have c43b0 : (a0_5 == 2) = false := beq_eq_false_iff_ne.mpr c43
         have c43b1 : (a0_5 != 2) = true := bne_iff_ne.mpr c43
         obtain rfl := Option.some.inj H
         go_enter Tryz.func31, Tryz.ntmps31
         go_wp2_with (first | ((with_reducible refine gate_dst (N := 1) rfl ?_); refine be 1 #[.int .i64 a0_0, .int .i64 a0_1, .int .i64 a0_2, .int .i64 a0_3, .int .i64 a0_4, .int .i64 a0_5] 24 ?_; intro gb106 hg w46 hbox hb; have BK106 := Aside0.mk hbox; have GW106 := zW hg; replace HB := zS hb; have GE106 := GW106; clear hb hbox hg; obtain ⟨_, _, _, _, _, _, _, _, _, _, _, _⟩ := zc6 BK106) | ((with_reducible refine gate_callee (f := 34) rfl ?_); refine gl 6 Tryz.func34 #[.int .i64 a0_0] ?_; (with_reducible refine (spec_l1Alu.calls a0_0 false _ A2.out).mono ?_); rintro e w' ⟨rfl, ⟨nd, rfl⟩⟩; refine ⟨_, rfl, ?_⟩) | ((with_reducible refine gate_callee (f := 36) rfl ?_); refine gl 28 Tryz.func36 #[.int .i64 a0_0] ?_; (with_reducible refine (spec_l1Jump.calls a0_0 false _ A15.out).mono ?_); rintro e w' ⟨rfl, ⟨nd, rfl⟩⟩; refine ⟨_, rfl, ?_⟩))
         go_ret
         exact ⟨zR, zB⟩
      ·rw [if_neg c39] at H
       have c39b0 : (a0_4 == 0) = false := beq_eq_false_iff_ne.mpr c39
       have c39b1 : (a0_4 != 0) = true := bne_iff_ne.mpr c39
       obtain rfl := Option.some.inj H
       go_enter Tryz.func31, Tryz.ntmps31
       go_wp2_with (first | ((with_reducible refine gate_dst (N := 1) rfl ?_); refine be 1 #[.int .i64 a0_0, .int .i64 a0_1, .int .i64 a0_2, .int .i64 a0_3, .int .i64 a0_4, .int .i64 a0_5] 24 ?_; intro gb106 hg w48 hbox hb; have BK106 := Aside0.mk hbox; have GW106 := zW hg; replace HB := zS hb; have GE106 := GW106; clear hb hbox hg; obtain ⟨_, _, _, _, _, _, _, _, _, _, _, _⟩ := zc6 BK106) | ((with_reducible refine gate_callee (f := 34) rfl ?_); refine gl 6 Tryz.func34 #[.int .i64 a0_0] ?_; (with_reducible refine (spec_l1Alu.calls a0_0 false _ A2.out).mono ?_); rintro e w' ⟨rfl, ⟨nd, rfl⟩⟩; refine ⟨_, rfl, ?_⟩) | ((with_reducible refine gate_callee (f := 36) rfl ?_); refine gl 28 Tryz.func36 #[.int .i64 a0_0] ?_; (with_reducible refine (spec_l1Jump.calls a0_0 false _ A15.out).mono ?_); rintro e w' ⟨rfl, ⟨nd, rfl⟩⟩; refine ⟨_, rfl, ?_⟩))
       go_ret
       exact ⟨zR, zB⟩
     ·rw [if_neg c38] at H
      have c38b0 : decide (0 ≤ a0_2) = false := decide_eq_false c38
      clear c38
      obtain rfl := Option.some.inj H
      go_enter Tryz.func31, Tryz.ntmps31
      go_wp2_with (first | ((with_reducible refine gate_dst (N := 1) rfl ?_); refine be 1 #[.int .i64 a0_0, .int .i64 a0_1, .int .i64 a0_2, .int .i64 a0_3, .int .i64 a0_4, .int .i64 a0_5] 24 ?_; intro gb106 hg w50 hbox hb; have BK106 := Aside0.mk hbox; have GW106 := zW hg; replace HB := zS hb; have GE106 := GW106; clear hb hbox hg; obtain ⟨_, _, _, _, _, _, _, _, _, _, _, _⟩ := zc6 BK106) | ((with_reducible refine gate_callee (f := 34) rfl ?_); refine gl 6 Tryz.func34 #[.int .i64 a0_0] ?_; (with_reducible refine (spec_l1Alu.calls a0_0 false _ A2.out).mono ?_); rintro e w' ⟨rfl, ⟨nd, rfl⟩⟩; refine ⟨_, rfl, ?_⟩) | ((with_reducible refine gate_callee (f := 36) rfl ?_); refine gl 28 Tryz.func36 #[.int .i64 a0_0] ?_; (with_reducible refine (spec_l1Jump.calls a0_0 false _ A15.out).mono ?_); rintro e w' ⟨rfl, ⟨nd, rfl⟩⟩; refine ⟨_, rfl, ?_⟩))
      go_ret
      exact ⟨zR, zB⟩
    ·rw [if_neg c37] at H
     have c37b0 : (a0_0 == 17) = false := beq_eq_false_iff_ne.mpr c37
     have c37b1 : (a0_0 != 17) = true := bne_iff_ne.mpr c37
     by_cases c52 : a0_0 = 18
     ·rw [if_pos c52] at H
      have c52b0 : (a0_0 == 18) = true := beq_iff_eq.mpr c52
      have c52b1 : (a0_0 != 18) = false := bne_eq_false_iff_eq.mpr c52
      clear c52
      by_cases c53 : a0_2 < 0
      ·rw [if_pos c53] at H
       have c53b0 : decide (a0_2 < 0) = true := decide_eq_true c53
       clear c53
       by_cases c54 : a0_5 = 1
       ·rw [if_pos c54] at H
        have c54b0 : (a0_5 == 1) = true := beq_iff_eq.mpr c54
        have c54b1 : (a0_5 != 1) = false := bne_eq_false_iff_eq.mpr c54
        clear c54
        obtain rfl := Option.some.inj H
        go_enter Tryz.func31, Tryz.ntmps31
        go_wp2_with (first | ((with_reducible refine gate_dst (N := 1) rfl ?_); refine be 1 #[.int .i64 a0_0, .int .i64 a0_1, .int .i64 a0_2, .int .i64 a0_3, .int .i64 a0_4, .int .i64 a0_5] 24 ?_; intro gb106 hg w55 hbox hb; have BK106 := Aside0.mk hbox; have GW106 := zW hg; replace HB := zS hb; have GE106 := GW106; clear hb hbox hg; obtain ⟨_, _, _, _, _, _, _, _, _, _, _, _⟩ := zc6 BK106) | ((with_reducible refine gate_callee (f := 34) rfl ?_); refine gl 6 Tryz.func34 #[.int .i64 a0_0] ?_; (with_reducible refine (spec_l1Alu.calls a0_0 false _ A2.out).mono ?_); rintro e w' ⟨rfl, ⟨nd, rfl⟩⟩; refine ⟨_, rfl, ?_⟩) | ((with_reducible refine gate_callee (f := 36) rfl ?_); refine gl 28 Tryz.func36 #[.int .i64 a0_0] ?_; (with_reducible refine (spec_l1Jump.calls a0_0 false _ A15.out).mono ?_); rintro e w' ⟨rfl, ⟨nd, rfl⟩⟩; refine ⟨_, rfl, ?_⟩))
        go_ret
        exact ⟨zR, zB⟩
       ·rw [if_neg c54] at H
        have c54b0 : (a0_5 == 1) = false := beq_eq_false_iff_ne.mpr c54
        have c54b1 : (a0_5 != 1) = true := bne_iff_ne.mpr c54
        by_cases c57 : a0_5 = 2
        ·rw [if_pos c57] at H
         have c57b0 : (a0_5 == 2) = true := beq_iff_eq.mpr c57
         have c57b1 : (a0_5 != 2) = false := bne_eq_false_iff_eq.mpr c57
         clear c57
         obtain rfl := Option.some.inj H
         go_enter Tryz.func31, Tryz.ntmps31
         go_wp2_with (first | ((with_reducible refine gate_dst (N := 1) rfl ?_); refine be 1 #[.int .i64 a0_0, .int .i64 a0_1, .int .i64 a0_2, .int .i64 a0_3, .int .i64 a0_4, .int .i64 a0_5] 24 ?_; intro gb106 hg w58 hbox hb; have BK106 := Aside0.mk hbox; have GW106 := zW hg; replace HB := zS hb; have GE106 := GW106; clear hb hbox hg; obtain ⟨_, _, _, _, _, _, _, _, _, _, _, _⟩ := zc6 BK106) | ((with_reducible refine gate_callee (f := 34) rfl ?_); refine gl 6 Tryz.func34 #[.int .i64 a0_0] ?_; (with_reducible refine (spec_l1Alu.calls a0_0 false _ A2.out).mono ?_); rintro e w' ⟨rfl, ⟨nd, rfl⟩⟩; refine ⟨_, rfl, ?_⟩) | ((with_reducible refine gate_callee (f := 36) rfl ?_); refine gl 28 Tryz.func36 #[.int .i64 a0_0] ?_; (with_reducible refine (spec_l1Jump.calls a0_0 false _ A15.out).mono ?_); rintro e w' ⟨rfl, ⟨nd, rfl⟩⟩; refine ⟨_, rfl, ?_⟩))
         go_ret
         exact ⟨zR, zB⟩
        ·rw [if_neg c57] at H
         have c57b0 : (a0_5 == 2) = false := beq_eq_false_iff_ne.mpr c57
         have c57b1 : (a0_5 != 2) = true := bne_iff_ne.mpr c57
         obtain rfl := Option.some.inj H
         go_enter Tryz.func31, Tryz.ntmps31
         go_wp2_with (first | ((with_reducible refine gate_dst (N := 1) rfl ?_); refine be 1 #[.int .i64 a0_0, .int .i64 a0_1, .int .i64 a0_2, .int .i64 a0_3, .int .i64 a0_4, .int .i64 a0_5] 24 ?_; intro gb106 hg w60 hbox hb; have BK106 := Aside0.mk hbox; have GW106 := zW hg; replace HB := zS hb; have GE106 := GW106; clear hb hbox hg; obtain ⟨_, _, _, _, _, _, _, _, _, _, _, _⟩ := zc6 BK106) | ((with_reducible refine gate_callee (f := 34) rfl ?_); refine gl 6 Tryz.func34 #[.int .i64 a0_0] ?_; (with_reducible refine (spec_l1Alu.calls a0_0 false _ A2.out).mono ?_); rintro e w' ⟨rfl, ⟨nd, rfl⟩⟩; refine ⟨_, rfl, ?_⟩) | ((with_reducible refine gate_callee (f := 36) rfl ?_); refine gl 28 Tryz.func36 #[.int .i64 a0_0] ?_; (with_reducible refine (spec_l1Jump.calls a0_0 false _ A15.out).mono ?_); rintro e w' ⟨rfl, ⟨nd, rfl⟩⟩; refine ⟨_, rfl, ?_⟩))
         go_ret
         exact ⟨zR, zB⟩
      ·rw [if_neg c53] at H
       have c53b0 : decide (a0_2 < 0) = false := decide_eq_false c53
       clear c53
       by_cases c62 : a0_4 = 0
       ·rw [if_pos c62] at H
        have c62b0 : (a0_4 == 0) = true := beq_iff_eq.mpr c62
        have c62b1 : (a0_4 != 0) = false := bne_eq_false_iff_eq.mpr c62
        clear c62
        by_cases c63 : a0_5 = 1
        ·rw [if_pos c63] at H
         have c63b0 : (a0_5 == 1) = true := beq_iff_eq.mpr c63
         have c63b1 : (a0_5 != 1) = false := bne_eq_false_iff_eq.mpr c63
         clear c63
         obtain rfl := Option.some.inj H
         go_enter Tryz.func31, Tryz.ntmps31
         go_wp2_with (first | ((with_reducible refine gate_dst (N := 1) rfl ?_); refine be 1 #[.int .i64 a0_0, .int .i64 a0_1, .int .i64 a0_2, .int .i64 a0_3, .int .i64 a0_4, .int .i64 a0_5] 24 ?_; intro gb106 hg w64 hbox hb; have BK106 := Aside0.mk hbox; have GW106 := zW hg; replace HB := zS hb; have GE106 := GW106; clear hb hbox hg; obtain ⟨_, _, _, _, _, _, _, _, _, _, _, _⟩ := zc6 BK106) | ((with_reducible refine gate_callee (f := 34) rfl ?_); refine gl 6 Tryz.func34 #[.int .i64 a0_0] ?_; (with_reducible refine (spec_l1Alu.calls a0_0 false _ A2.out).mono ?_); rintro e w' ⟨rfl, ⟨nd, rfl⟩⟩; refine ⟨_, rfl, ?_⟩) | ((with_reducible refine gate_callee (f := 36) rfl ?_); refine gl 28 Tryz.func36 #[.int .i64 a0_0] ?_; (with_reducible refine (spec_l1Jump.calls a0_0 false _ A15.out).mono ?_); rintro e w' ⟨rfl, ⟨nd, rfl⟩⟩; refine ⟨_, rfl, ?_⟩))
         go_ret
         exact ⟨zR, zB⟩
        ·rw [if_neg c63] at H
         have c63b0 : (a0_5 == 1) = false := beq_eq_false_iff_ne.mpr c63
         have c63b1 : (a0_5 != 1) = true := bne_iff_ne.mpr c63
         by_cases c66 : a0_5 = 2
         ·rw [if_pos c66] at H
          have c66b0 : (a0_5 == 2) = true := beq_iff_eq.mpr c66
          have c66b1 : (a0_5 != 2) = false := bne_eq_false_iff_eq.mpr c66
          clear c66
          obtain rfl := Option.some.inj H
          go_enter Tryz.func31, Tryz.ntmps31
          go_wp2_with (first | ((with_reducible refine gate_dst (N := 1) rfl ?_); refine be 1 #[.int .i64 a0_0, .int .i64 a0_1, .int .i64 a0_2, .int .i64 a0_3, .int .i64 a0_4, .int .i64 a0_5] 24 ?_; intro gb106 hg w67 hbox hb; have BK106 := Aside0.mk hbox; have GW106 := zW hg; replace HB := zS hb; have GE106 := GW106; clear hb hbox hg; obtain ⟨_, _, _, _, _, _, _, _, _, _, _, _⟩ := zc6 BK106) | ((with_reducible refine gate_callee (f := 34) rfl ?_); refine gl 6 Tryz.func34 #[.int .i64 a0_0] ?_; (with_reducible refine (spec_l1Alu.calls a0_0 false _ A2.out).mono ?_); rintro e w' ⟨rfl, ⟨nd, rfl⟩⟩; refine ⟨_, rfl, ?_⟩) | ((with_reducible refine gate_callee (f := 36) rfl ?_); refine gl 28 Tryz.func36 #[.int .i64 a0_0] ?_; (with_reducible refine (spec_l1Jump.calls a0_0 false _ A15.out).mono ?_); rintro e w' ⟨rfl, ⟨nd, rfl⟩⟩; refine ⟨_, rfl, ?_⟩))
          go_ret
          exact ⟨zR, zB⟩
         ·rw [if_neg c66] at H
          have c66b0 : (a0_5 == 2) = false := beq_eq_false_iff_ne.mpr c66
          have c66b1 : (a0_5 != 2) = true := bne_iff_ne.mpr c66
          obtain rfl := Option.some.inj H
          go_enter Tryz.func31, Tryz.ntmps31
          go_wp2_with (first | ((with_reducible refine gate_dst (N := 1) rfl ?_); refine be 1 #[.int .i64 a0_0, .int .i64 a0_1, .int .i64 a0_2, .int .i64 a0_3, .int .i64 a0_4, .int .i64 a0_5] 24 ?_; intro gb106 hg w69 hbox hb; have BK106 := Aside0.mk hbox; have GW106 := zW hg; replace HB := zS hb; have GE106 := GW106; clear hb hbox hg; obtain ⟨_, _, _, _, _, _, _, _, _, _, _, _⟩ := zc6 BK106) | ((with_reducible refine gate_callee (f := 34) rfl ?_); refine gl 6 Tryz.func34 #[.int .i64 a0_0] ?_; (with_reducible refine (spec_l1Alu.calls a0_0 false _ A2.out).mono ?_); rintro e w' ⟨rfl, ⟨nd, rfl⟩⟩; refine ⟨_, rfl, ?_⟩) | ((with_reducible refine gate_callee (f := 36) rfl ?_); refine gl 28 Tryz.func36 #[.int .i64 a0_0] ?_; (with_reducible refine (spec_l1Jump.calls a0_0 false _ A15.out).mono ?_); rintro e w' ⟨rfl, ⟨nd, rfl⟩⟩; refine ⟨_, rfl, ?_⟩))
          go_ret
          exact ⟨zR, zB⟩
       ·rw [if_neg c62] at H
        have c62b0 : (a0_4 == 0) = false := beq_eq_false_iff_ne.mpr c62
        have c62b1 : (a0_4 != 0) = true := bne_iff_ne.mpr c62
        obtain rfl := Option.some.inj H
        go_enter Tryz.func31, Tryz.ntmps31
        go_wp2_with (first | ((with_reducible refine gate_dst (N := 1) rfl ?_); refine be 1 #[.int .i64 a0_0, .int .i64 a0_1, .int .i64 a0_2, .int .i64 a0_3, .int .i64 a0_4, .int .i64 a0_5] 24 ?_; intro gb106 hg w71 hbox hb; have BK106 := Aside0.mk hbox; have GW106 := zW hg; replace HB := zS hb; have GE106 := GW106; clear hb hbox hg; obtain ⟨_, _, _, _, _, _, _, _, _, _, _, _⟩ := zc6 BK106) | ((with_reducible refine gate_callee (f := 34) rfl ?_); refine gl 6 Tryz.func34 #[.int .i64 a0_0] ?_; (with_reducible refine (spec_l1Alu.calls a0_0 false _ A2.out).mono ?_); rintro e w' ⟨rfl, ⟨nd, rfl⟩⟩; refine ⟨_, rfl, ?_⟩) | ((with_reducible refine gate_callee (f := 36) rfl ?_); refine gl 28 Tryz.func36 #[.int .i64 a0_0] ?_; (with_reducible refine (spec_l1Jump.calls a0_0 false _ A15.out).mono ?_); rintro e w' ⟨rfl, ⟨nd, rfl⟩⟩; refine ⟨_, rfl, ?_⟩))
        go_ret
        exact ⟨zR, zB⟩
     ·rw [if_neg c52] at H
      have c52b0 : (a0_0 == 18) = false := beq_eq_false_iff_ne.mpr c52
      have c52b1 : (a0_0 != 18) = true := bne_iff_ne.mpr c52
      by_cases c73 : a0_0 = 19
      ·rw [if_pos c73] at H
       have c73b0 : (a0_0 == 19) = true := beq_iff_eq.mpr c73
       have c73b1 : (a0_0 != 19) = false := bne_eq_false_iff_eq.mpr c73
       clear c73
       by_cases c74 : a0_1 = 0
       ·rw [if_pos c74] at H
        have c74b0 : (a0_1 == 0) = true := beq_iff_eq.mpr c74
        have c74b1 : (a0_1 != 0) = false := bne_eq_false_iff_eq.mpr c74
        clear c74
        by_cases c75 : a0_2 = (-1)
        ·rw [if_pos c75] at H
         have c75b0 : (a0_2 == (-1)) = true := beq_iff_eq.mpr c75
         have c75b1 : (a0_2 != (-1)) = false := bne_eq_false_iff_eq.mpr c75
         clear c75
         by_cases c76 : a0_3 = 0
         ·rw [if_pos c76] at H
          have c76b0 : (a0_3 == 0) = true := beq_iff_eq.mpr c76
          have c76b1 : (a0_3 != 0) = false := bne_eq_false_iff_eq.mpr c76
          clear c76
          by_cases c77 : a0_5 = 0
          ·rw [if_pos c77] at H
           have c77b0 : (a0_5 == 0) = true := beq_iff_eq.mpr c77
           have c77b1 : (a0_5 != 0) = false := bne_eq_false_iff_eq.mpr c77
           clear c77
           replace H := oA H
           obtain ⟨t109, A78, H⟩ := H
           try dsimp only at H
           obtain rfl := Option.some.inj H
           go_enter Tryz.func31, Tryz.ntmps31
           go_wp2_with (first | ((with_reducible refine gate_dst (N := 1) rfl ?_); refine be 1 #[.int .i64 a0_0, .int .i64 a0_1, .int .i64 a0_2, .int .i64 a0_3, .int .i64 a0_4, .int .i64 a0_5] 24 ?_; intro gb106 hg w79 hbox hb; have BK106 := Aside0.mk hbox; have GW106 := zW hg; replace HB := zS hb; have GE106 := GW106; clear hb hbox hg; obtain ⟨_, _, _, _, _, _, _, _, _, _, _, _⟩ := zc6 BK106) | ((with_reducible refine gate_callee (f := 34) rfl ?_); refine gl 6 Tryz.func34 #[.int .i64 a0_0] ?_; (with_reducible refine (spec_l1Alu.calls a0_0 false _ A2.out).mono ?_); rintro e w' ⟨rfl, ⟨nd, rfl⟩⟩; refine ⟨_, rfl, ?_⟩) | ((with_reducible refine gate_callee (f := 36) rfl ?_); refine gl 28 Tryz.func36 #[.int .i64 a0_0] ?_; (with_reducible refine (spec_l1Jump.calls a0_0 false _ A15.out).mono ?_); rintro e w' ⟨rfl, ⟨nd, rfl⟩⟩; refine ⟨_, rfl, ?_⟩) | (go_at_call 30; (with_reducible refine (spec_l1In.calls a0_4 1 6 t109 _ A78.out).mono ?_); rintro e w' ⟨rfl, ⟨nd, rfl⟩⟩))
           go_ret
           exact ⟨zR, zB⟩
          ·rw [if_neg c77] at H
           have c77b0 : (a0_5 == 0) = false := beq_eq_false_iff_ne.mpr c77
           have c77b1 : (a0_5 != 0) = true := bne_iff_ne.mpr c77
           obtain rfl := Option.some.inj H
           go_enter Tryz.func31, Tryz.ntmps31
           go_wp2_with (first | ((with_reducible refine gate_dst (N := 1) rfl ?_); refine be 1 #[.int .i64 a0_0, .int .i64 a0_1, .int .i64 a0_2, .int .i64 a0_3, .int .i64 a0_4, .int .i64 a0_5] 24 ?_; intro gb106 hg w81 hbox hb; have BK106 := Aside0.mk hbox; have GW106 := zW hg; replace HB := zS hb; have GE106 := GW106; clear hb hbox hg; obtain ⟨_, _, _, _, _, _, _, _, _, _, _, _⟩ := zc6 BK106) | ((with_reducible refine gate_callee (f := 34) rfl ?_); refine gl 6 Tryz.func34 #[.int .i64 a0_0] ?_; (with_reducible refine (spec_l1Alu.calls a0_0 false _ A2.out).mono ?_); rintro e w' ⟨rfl, ⟨nd, rfl⟩⟩; refine ⟨_, rfl, ?_⟩) | ((with_reducible refine gate_callee (f := 36) rfl ?_); refine gl 28 Tryz.func36 #[.int .i64 a0_0] ?_; (with_reducible refine (spec_l1Jump.calls a0_0 false _ A15.out).mono ?_); rintro e w' ⟨rfl, ⟨nd, rfl⟩⟩; refine ⟨_, rfl, ?_⟩))
           go_ret
           exact ⟨zR, zB⟩
         ·rw [if_neg c76] at H
          have c76b0 : (a0_3 == 0) = false := beq_eq_false_iff_ne.mpr c76
          have c76b1 : (a0_3 != 0) = true := bne_iff_ne.mpr c76
          obtain rfl := Option.some.inj H
          go_enter Tryz.func31, Tryz.ntmps31
          go_wp2_with (first | ((with_reducible refine gate_dst (N := 1) rfl ?_); refine be 1 #[.int .i64 a0_0, .int .i64 a0_1, .int .i64 a0_2, .int .i64 a0_3, .int .i64 a0_4, .int .i64 a0_5] 24 ?_; intro gb106 hg w83 hbox hb; have BK106 := Aside0.mk hbox; have GW106 := zW hg; replace HB := zS hb; have GE106 := GW106; clear hb hbox hg; obtain ⟨_, _, _, _, _, _, _, _, _, _, _, _⟩ := zc6 BK106) | ((with_reducible refine gate_callee (f := 34) rfl ?_); refine gl 6 Tryz.func34 #[.int .i64 a0_0] ?_; (with_reducible refine (spec_l1Alu.calls a0_0 false _ A2.out).mono ?_); rintro e w' ⟨rfl, ⟨nd, rfl⟩⟩; refine ⟨_, rfl, ?_⟩) | ((with_reducible refine gate_callee (f := 36) rfl ?_); refine gl 28 Tryz.func36 #[.int .i64 a0_0] ?_; (with_reducible refine (spec_l1Jump.calls a0_0 false _ A15.out).mono ?_); rintro e w' ⟨rfl, ⟨nd, rfl⟩⟩; refine ⟨_, rfl, ?_⟩))
          go_ret
          exact ⟨zR, zB⟩
        ·rw [if_neg c75] at H
         have c75b0 : (a0_2 == (-1)) = false := beq_eq_false_iff_ne.mpr c75
         have c75b1 : (a0_2 != (-1)) = true := bne_iff_ne.mpr c75
         obtain rfl := Option.some.inj H
         go_enter Tryz.func31, Tryz.ntmps31
         go_wp2_with (first | ((with_reducible refine gate_dst (N := 1) rfl ?_); refine be 1 #[.int .i64 a0_0, .int .i64 a0_1, .int .i64 a0_2, .int .i64 a0_3, .int .i64 a0_4, .int .i64 a0_5] 24 ?_; intro gb106 hg w85 hbox hb; have BK106 := Aside0.mk hbox; have GW106 := zW hg; replace HB := zS hb; have GE106 := GW106; clear hb hbox hg; obtain ⟨_, _, _, _, _, _, _, _, _, _, _, _⟩ := zc6 BK106) | ((with_reducible refine gate_callee (f := 34) rfl ?_); refine gl 6 Tryz.func34 #[.int .i64 a0_0] ?_; (with_reducible refine (spec_l1Alu.calls a0_0 false _ A2.out).mono ?_); rintro e w' ⟨rfl, ⟨nd, rfl⟩⟩; refine ⟨_, rfl, ?_⟩) | ((with_reducible refine gate_callee (f := 36) rfl ?_); refine gl 28 Tryz.func36 #[.int .i64 a0_0] ?_; (with_reducible refine (spec_l1Jump.calls a0_0 false _ A15.out).mono ?_); rintro e w' ⟨rfl, ⟨nd, rfl⟩⟩; refine ⟨_, rfl, ?_⟩))
         go_ret
         exact ⟨zR, zB⟩
       ·rw [if_neg c74] at H
        have c74b0 : (a0_1 == 0) = false := beq_eq_false_iff_ne.mpr c74
        have c74b1 : (a0_1 != 0) = true := bne_iff_ne.mpr c74
        obtain rfl := Option.some.inj H
        go_enter Tryz.func31, Tryz.ntmps31
        go_wp2_with (first | ((with_reducible refine gate_dst (N := 1) rfl ?_); refine be 1 #[.int .i64 a0_0, .int .i64 a0_1, .int .i64 a0_2, .int .i64 a0_3, .int .i64 a0_4, .int .i64 a0_5] 24 ?_; intro gb106 hg w87 hbox hb; have BK106 := Aside0.mk hbox; have GW106 := zW hg; replace HB := zS hb; have GE106 := GW106; clear hb hbox hg; obtain ⟨_, _, _, _, _, _, _, _, _, _, _, _⟩ := zc6 BK106) | ((with_reducible refine gate_callee (f := 34) rfl ?_); refine gl 6 Tryz.func34 #[.int .i64 a0_0] ?_; (with_reducible refine (spec_l1Alu.calls a0_0 false _ A2.out).mono ?_); rintro e w' ⟨rfl, ⟨nd, rfl⟩⟩; refine ⟨_, rfl, ?_⟩) | ((with_reducible refine gate_callee (f := 36) rfl ?_); refine gl 28 Tryz.func36 #[.int .i64 a0_0] ?_; (with_reducible refine (spec_l1Jump.calls a0_0 false _ A15.out).mono ?_); rintro e w' ⟨rfl, ⟨nd, rfl⟩⟩; refine ⟨_, rfl, ?_⟩))
        go_ret
        exact ⟨zR, zB⟩
      ·rw [if_neg c73] at H
       have c73b0 : (a0_0 == 19) = false := beq_eq_false_iff_ne.mpr c73
       have c73b1 : (a0_0 != 19) = true := bne_iff_ne.mpr c73
       by_cases c89 : a0_0 = 20
       ·rw [if_pos c89] at H
        have c89b0 : (a0_0 == 20) = true := beq_iff_eq.mpr c89
        have c89b1 : (a0_0 != 20) = false := bne_eq_false_iff_eq.mpr c89
        clear c89
        obtain rfl := Option.some.inj H
        go_enter Tryz.func31, Tryz.ntmps31
        go_wp2_with (first | ((with_reducible refine gate_dst (N := 1) rfl ?_); refine be 1 #[.int .i64 a0_0, .int .i64 a0_1, .int .i64 a0_2, .int .i64 a0_3, .int .i64 a0_4, .int .i64 a0_5] 24 ?_; intro gb106 hg w90 hbox hb; have BK106 := Aside0.mk hbox; have GW106 := zW hg; replace HB := zS hb; have GE106 := GW106; clear hb hbox hg; obtain ⟨_, _, _, _, _, _, _, _, _, _, _, _⟩ := zc6 BK106) | ((with_reducible refine gate_callee (f := 34) rfl ?_); refine gl 6 Tryz.func34 #[.int .i64 a0_0] ?_; (with_reducible refine (spec_l1Alu.calls a0_0 false _ A2.out).mono ?_); rintro e w' ⟨rfl, ⟨nd, rfl⟩⟩; refine ⟨_, rfl, ?_⟩) | ((with_reducible refine gate_callee (f := 36) rfl ?_); refine gl 28 Tryz.func36 #[.int .i64 a0_0] ?_; (with_reducible refine (spec_l1Jump.calls a0_0 false _ A15.out).mono ?_); rintro e w' ⟨rfl, ⟨nd, rfl⟩⟩; refine ⟨_, rfl, ?_⟩))
        go_ret
        exact ⟨zR, zB⟩
       ·rw [if_neg c89] at H
        have c89b0 : (a0_0 == 20) = false := beq_eq_false_iff_ne.mpr c89
        have c89b1 : (a0_0 != 20) = true := bne_iff_ne.mpr c89
        obtain rfl := Option.some.inj H
        go_enter Tryz.func31, Tryz.ntmps31
        go_wp2_with (first | ((with_reducible refine gate_dst (N := 1) rfl ?_); refine be 1 #[.int .i64 a0_0, .int .i64 a0_1, .int .i64 a0_2, .int .i64 a0_3, .int .i64 a0_4, .int .i64 a0_5] 24 ?_; intro gb106 hg w92 hbox hb; have BK106 := Aside0.mk hbox; have GW106 := zW hg; replace HB := zS hb; have GE106 := GW106; clear hb hbox hg; obtain ⟨_, _, _, _, _, _, _, _, _, _, _, _⟩ := zc6 BK106) | ((with_reducible refine gate_callee (f := 34) rfl ?_); refine gl 6 Tryz.func34 #[.int .i64 a0_0] ?_; (with_reducible refine (spec_l1Alu.calls a0_0 false _ A2.out).mono ?_); rintro e w' ⟨rfl, ⟨nd, rfl⟩⟩; refine ⟨_, rfl, ?_⟩) | ((with_reducible refine gate_callee (f := 36) rfl ?_); refine gl 28 Tryz.func36 #[.int .i64 a0_0] ?_; (with_reducible refine (spec_l1Jump.calls a0_0 false _ A15.out).mono ?_); rintro e w' ⟨rfl, ⟨nd, rfl⟩⟩; refine ⟨_, rfl, ?_⟩))
        go_ret
        exact ⟨zR, zB⟩
def spec_l1InsOk.f (a0_0 a0_1 : Int) (a0_2 a0_3 : Int) (a0_4 a0_5 : Int) : Option (Bool) := (spec_l1In.f a0_1 0 10).bind fun t111 => (if t111 = true then ((spec_l1In.f a0_2 (-1) 10).bind fun t112 => (if t112 = true then ((spec_l1In.f a0_3 (-128) 127).bind fun t113 => (if t113 = true then ((spec_l1In.f a0_4 0 4294967295).bind fun t114 => (if t114 = true then ((spec_l1Bare.f a0_0 a0_1 a0_2 a0_3 a0_4 a0_5).bind fun t115 => (some t115)) else (some false))) else (some false))) else (some false))) else (some false))
set_option maxHeartbeats 8000000 in
set_option maxRecDepth 100000 in
theorem spec_l1InsOk.calls (a0_0 a0_1 : Int) (a0_2 a0_3 : Int) (a0_4 a0_5 : Int) (r : Bool) (w : World) (h : spec_l1InsOk.f a0_0 a0_1 a0_2 a0_3 a0_4 a0_5 = some r) :
  Calls Tryz.prog 13 #[.agg #[.int .i64 a0_0, .int .i64 a0_1, .int .i64 a0_2, .int .i64 a0_3, .int .i64 a0_4, .int .i64 a0_5]] w fun e w' => e = .returned (.bool r) ∧ Below w.heap.size w w' := by
 have hu24 := Tryz.underlying24
 have HB := Aside0.mk (Below.refl w.heap.size w)
 have H := h
 clear h
 unfold spec_l1InsOk.f at H
 replace H := oA H
 obtain ⟨t111, A2, H⟩ := H
 try dsimp only at H
 by_cases c3 : t111 = true
 ·subst c3
  rw [if_pos rfl] at H
  replace H := oA H
  obtain ⟨t112, A4, H⟩ := H
  try dsimp only at H
  by_cases c5 : t112 = true
  ·subst c5
   rw [if_pos rfl] at H
   replace H := oA H
   obtain ⟨t113, A6, H⟩ := H
   try dsimp only at H
   by_cases c7 : t113 = true
   ·subst c7
    rw [if_pos rfl] at H
    replace H := oA H
    obtain ⟨t114, A8, H⟩ := H
    try dsimp only at H
    by_cases c9 : t114 = true
    ·subst c9
     rw [if_pos rfl] at H
     replace H := oA H
     obtain ⟨t115, A10, H⟩ := H
     try dsimp only at H
     obtain rfl := Option.some.inj H
     go_enter Tryz.func13, Tryz.ntmps13
     go_wp2_with (first | ((with_reducible refine gate_dst (N := 1) rfl ?_); refine be 1 #[.int .i64 a0_0, .int .i64 a0_1, .int .i64 a0_2, .int .i64 a0_3, .int .i64 a0_4, .int .i64 a0_5] 24 ?_; intro gb110 hg w11 hbox hb; have BK110 := Aside0.mk hbox; have GW110 := zW hg; replace HB := zS hb; have GE110 := GW110; clear hb hbox hg; obtain ⟨_, _, _, _, _, _, _, _, _, _, _, _⟩ := zc6 BK110) | ((with_reducible refine gate_callee (f := 30) rfl ?_); refine gl 5 Tryz.func30 #[.int .i64 a0_1, .int .i64 0, .int .i64 10] ?_; (with_reducible refine (spec_l1In.calls a0_1 0 10 true _ A2.out).mono ?_); rintro e w' ⟨rfl, ⟨nd, rfl⟩⟩; refine ⟨_, rfl, ?_⟩) | (go_at_call 30; (with_reducible refine (spec_l1In.calls a0_2 (-1) 10 true _ A4.out).mono ?_); rintro e w' ⟨rfl, ⟨nd, rfl⟩⟩) | (go_at_call 30; (with_reducible refine (spec_l1In.calls a0_3 (-128) 127 true _ A6.out).mono ?_); rintro e w' ⟨rfl, ⟨nd, rfl⟩⟩) | (go_at_call 30; (with_reducible refine (spec_l1In.calls a0_4 0 4294967295 true _ A8.out).mono ?_); rintro e w' ⟨rfl, ⟨nd, rfl⟩⟩) | (go_at_call 31; (with_reducible refine (spec_l1Bare.calls a0_0 a0_1 a0_2 a0_3 a0_4 a0_5 t115 _ A10.out).mono ?_); rintro e w13 ⟨rfl, hb⟩; replace BK110 := zb BK110 hb rfl; replace HB := zS hb; try clear hb))
     go_ret
     exact ⟨zR, zB⟩
    ·replace c9 := Bool.eq_false_iff.mpr c9
     subst c9
     rw [if_neg (show ¬ (false = true) by decide)] at H
     obtain rfl := Option.some.inj H
     go_enter Tryz.func13, Tryz.ntmps13
     go_wp2_with (first | ((with_reducible refine gate_dst (N := 1) rfl ?_); refine be 1 #[.int .i64 a0_0, .int .i64 a0_1, .int .i64 a0_2, .int .i64 a0_3, .int .i64 a0_4, .int .i64 a0_5] 24 ?_; intro gb110 hg w14 hbox hb; have BK110 := Aside0.mk hbox; have GW110 := zW hg; replace HB := zS hb; have GE110 := GW110; clear hb hbox hg; obtain ⟨_, _, _, _, _, _, _, _, _, _, _, _⟩ := zc6 BK110) | ((with_reducible refine gate_callee (f := 30) rfl ?_); refine gl 5 Tryz.func30 #[.int .i64 a0_1, .int .i64 0, .int .i64 10] ?_; (with_reducible refine (spec_l1In.calls a0_1 0 10 true _ A2.out).mono ?_); rintro e w' ⟨rfl, ⟨nd, rfl⟩⟩; refine ⟨_, rfl, ?_⟩) | (go_at_call 30; (with_reducible refine (spec_l1In.calls a0_2 (-1) 10 true _ A4.out).mono ?_); rintro e w' ⟨rfl, ⟨nd, rfl⟩⟩) | (go_at_call 30; (with_reducible refine (spec_l1In.calls a0_3 (-128) 127 true _ A6.out).mono ?_); rintro e w' ⟨rfl, ⟨nd, rfl⟩⟩) | (go_at_call 30; (with_reducible refine (spec_l1In.calls a0_4 0 4294967295 false _ A8.out).mono ?_); rintro e w' ⟨rfl, ⟨nd, rfl⟩⟩))
     go_ret
     exact ⟨zR, zB⟩
   ·replace c7 := Bool.eq_false_iff.mpr c7
    subst c7
    rw [if_neg (show ¬ (false = true) by decide)] at H
    obtain rfl := Option.some.inj H
    go_enter Tryz.func13, Tryz.ntmps13
    go_wp2_with (first | ((with_reducible refine gate_dst (N := 1) rfl ?_); refine be 1 #[.int .i64 a0_0, .int .i64 a0_1, .int .i64 a0_2, .int .i64 a0_3, .int .i64 a0_4, .int .i64 a0_5] 24 ?_; intro gb110 hg w16 hbox hb; have BK110 := Aside0.mk hbox; have GW110 := zW hg; replace HB := zS hb; have GE110 := GW110; clear hb hbox hg; obtain ⟨_, _, _, _, _, _, _, _, _, _, _, _⟩ := zc6 BK110) | ((with_reducible refine gate_callee (f := 30) rfl ?_); refine gl 5 Tryz.func30 #[.int .i64 a0_1, .int .i64 0, .int .i64 10] ?_; (with_reducible refine (spec_l1In.calls a0_1 0 10 true _ A2.out).mono ?_); rintro e w' ⟨rfl, ⟨nd, rfl⟩⟩; refine ⟨_, rfl, ?_⟩) | (go_at_call 30; (with_reducible refine (spec_l1In.calls a0_2 (-1) 10 true _ A4.out).mono ?_); rintro e w' ⟨rfl, ⟨nd, rfl⟩⟩) | (go_at_call 30; (with_reducible refine (spec_l1In.calls a0_3 (-128) 127 false _ A6.out).mono ?_); rintro e w' ⟨rfl, ⟨nd, rfl⟩⟩))
    go_ret
    exact ⟨zR, zB⟩
  ·replace c5 := Bool.eq_false_iff.mpr c5
   subst c5
   rw [if_neg (show ¬ (false = true) by decide)] at H
   obtain rfl := Option.some.inj H
   go_enter Tryz.func13, Tryz.ntmps13
   go_wp2_with (first | ((with_reducible refine gate_dst (N := 1) rfl ?_); refine be 1 #[.int .i64 a0_0, .int .i64 a0_1, .int .i64 a0_2, .int .i64 a0_3, .int .i64 a0_4, .int .i64 a0_5] 24 ?_; intro gb110 hg w18 hbox hb; have BK110 := Aside0.mk hbox; have GW110 := zW hg; replace HB := zS hb; have GE110 := GW110; clear hb hbox hg; obtain ⟨_, _, _, _, _, _, _, _, _, _, _, _⟩ := zc6 BK110) | ((with_reducible refine gate_callee (f := 30) rfl ?_); refine gl 5 Tryz.func30 #[.int .i64 a0_1, .int .i64 0, .int .i64 10] ?_; (with_reducible refine (spec_l1In.calls a0_1 0 10 true _ A2.out).mono ?_); rintro e w' ⟨rfl, ⟨nd, rfl⟩⟩; refine ⟨_, rfl, ?_⟩) | (go_at_call 30; (with_reducible refine (spec_l1In.calls a0_2 (-1) 10 false _ A4.out).mono ?_); rintro e w' ⟨rfl, ⟨nd, rfl⟩⟩))
   go_ret
   exact ⟨zR, zB⟩
 ·replace c3 := Bool.eq_false_iff.mpr c3
  subst c3
  rw [if_neg (show ¬ (false = true) by decide)] at H
  obtain rfl := Option.some.inj H
  go_enter Tryz.func13, Tryz.ntmps13
  go_wp2_with (first | ((with_reducible refine gate_dst (N := 1) rfl ?_); refine be 1 #[.int .i64 a0_0, .int .i64 a0_1, .int .i64 a0_2, .int .i64 a0_3, .int .i64 a0_4, .int .i64 a0_5] 24 ?_; intro gb110 hg w20 hbox hb; have BK110 := Aside0.mk hbox; have GW110 := zW hg; replace HB := zS hb; have GE110 := GW110; clear hb hbox hg; obtain ⟨_, _, _, _, _, _, _, _, _, _, _, _⟩ := zc6 BK110) | ((with_reducible refine gate_callee (f := 30) rfl ?_); refine gl 5 Tryz.func30 #[.int .i64 a0_1, .int .i64 0, .int .i64 10] ?_; (with_reducible refine (spec_l1In.calls a0_1 0 10 false _ A2.out).mono ?_); rintro e w' ⟨rfl, ⟨nd, rfl⟩⟩; refine ⟨_, rfl, ?_⟩))
  go_ret
  exact ⟨zR, zB⟩
end Go.Proofs.YtllmbooicobmkaaGreatDoor.Q
