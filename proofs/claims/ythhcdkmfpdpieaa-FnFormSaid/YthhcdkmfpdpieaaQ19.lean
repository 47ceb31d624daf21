/- The machine's side of this seat's laws: Go functions as Lean functions, and their contracts. By a program of this work over the kit's print. -/
import Derived.Test.YthhcdkmfpdpieaaQ0
import Derived.Test.YthhcdkmfpdpieaaQ2
import Derived.Test.YthhcdkmfpdpieaaQ3
import Derived.Test.YthhcdkmfpdpieaaQ16
import Derived.Test.YthhcdkmfpdpieaaQ18
namespace Go.Proofs.Ythhcdkmfpdpieaa.Q
open Go.RowKit Go.Proofs.YthhcdkmfpdpieaaW.PrintWords Go.Proofs.YthhcdkmfpdpieaaW.PrintLast Go.Proofs.YthhcdkmfpdpieaaW.PrintMore
attribute [local go_sem] max2_int min2_int max_two min_two max_three min_three max_four min_four Go.Proofs.YthhcdkmfpdpieaaN.not_i64 Go.Proofs.YthhcdkmfpdpieaaN.isSome_setCell   -- for this text's walks alone
set_option linter.unusedVariables false
set_option linter.unusedSimpArgs false

/-! ### spec_l1Form: function 42 -/
mutual
def spec_l1Form.l0 : Nat → List (S24) → Int → Option (Int)
 | 0, _, _ => none
 | k + 1, x0, x3 => if x3 < (x0.length : Int) then (if 0 ≤ x3 then ((spec_l1InsOk.f ((rd_T24 x0 x3).f0) ((rd_T24 x0 x3).f1) ((rd_T24 x0 x3).f2) ((rd_T24 x0 x3).f3) ((rd_T24 x0 x3).f4) ((rd_T24 x0 x3).f5)).bind fun t596 => (if t596 = true then ((spec_l1Jump.f ((rd_T24 x0 x3).f0)).bind fun t598 => (if t598 = true then (spec_l1Form.j1 k x0 x3 true) else (spec_l1Form.j1 k x0 x3 (((rd_T24 x0 x3).f0) == 16)))) else (some 1))) else (none)) else (if (x0.length : Int) > 48 then (some 3) else (if (x0.length : Int) = 0 then (spec_l1Form.j2 k true) else (if 0 ≤ (wrap64 ((x0.length : Int) - 1)) then (if (wrap64 ((x0.length : Int) - 1)) < (x0.length : Int) then (if ((rd_T24 x0 (wrap64 ((x0.length : Int) - 1))).f0) = 20 then (spec_l1Form.j2 k false) else (spec_l1Form.j2 k (((rd_T24 x0 (wrap64 ((x0.length : Int) - 1))).f0) != 16))) else (none)) else (none))))
def spec_l1Form.j1 : Nat → List (S24) → Int → Bool → Option (Int)
 | 0, _, _, _ => none
 | k + 1, x0, x3, x30 => if x30 = true then (if 0 ≤ x3 then (if x3 < (x0.length : Int) then ((spec_l1In.f (wrap64 ((wrap64 (x3 + 1)) + ((rd_T24 x0 x3).f3))) 0 (wrap64 ((x0.length : Int) - 1))).bind fun t601 => (if t601 = true then (spec_l1Form.l0 k x0 (wrap64 (x3 + 1))) else (some 2))) else (none)) else (none)) else (spec_l1Form.l0 k x0 (wrap64 (x3 + 1)))
def spec_l1Form.j2 : Nat → Bool → Option (Int)
 | 0, _ => none
 | k + 1, x67 => if x67 = true then (some 4) else (some 0)
end
def spec_l1Form.f (k : Nat) (l0 : List (S24)) : Option (Int) := spec_l1Form.l0 k l0 0


set_option maxHeartbeats 8000000 in
set_option maxRecDepth 100000 in
theorem spec_l1Form.calls (k : Nat) (A0 : Option Addr) (c0 : Nat) (l0 : List (S24)) (r : Int) (w : World) (hr0 : Kd.C k24 w A0 l0.length l0) (hc0 : l0.length ≤ c0) (h : spec_l1Form.f k l0 = some r) :
  Calls Try.prog 42 #[.slice A0 l0.length c0] w fun e w' => e = .returned (.int .i64 r) ∧ Below w.heap.size w w' := by
 have hu24 := Try.underlying24
 have HR0 := Aside0.mk hr0
 have HC0 := Aside0.mk hc0
 clear hr0 hc0
 have HB := Aside0.mk (Below.refl w.heap.size w)
 have H : (spec_l1Form.l0 k l0 0) = some r := h
 clear h
 have H' := Aside0.mk H
 clear H
 go_enter Try.func42, Try.ntmps42
 go_wp2
 go_loopg [3] k (fun kq v3 w' => ∃ (x3_1 : Int), v3 = .int .i64 x3_1 ∧ Aside0 (spec_l1Form.l0 kq l0 x3_1 = some r) ∧ Aside0 (kq ≤ k) ∧ Aside0 (Below w.heap.size w w'))
 case atStart => exact ⟨(0), (by first | rfl | (simp; done) | (simp [*]; done)), H', ⟨Nat.le_refl _⟩, ⟨zB⟩⟩
 case round =>
  clear H'
  obtain ⟨x3_1, rfl, HA, HK1, HB⟩ := hrel
  cases gk with
  | zero => exact absurd HA.out (by simp [spec_l1Form.l0])
  | succ k1 =>
   have H := HA.out
   clear HA
   simp only [spec_l1Form.l0] at H
   by_cases c2 : x3_1 < (l0.length : Int)
   ·rw [if_pos c2] at H
    have c2b0 : decide (x3_1 < (l0.length : Int)) = true := decide_eq_true c2
    clear c2
    by_cases c3 : 0 ≤ x3_1
    ·rw [if_pos c3] at H
     have c3b0 : decide (0 ≤ x3_1) = true := decide_eq_true c3
     clear c3
     replace H := Option.bind_eq_some_iff.mp H
     obtain ⟨t596, A40, H⟩ := H
     try dsimp only at H
     have A4 := Aside0.mk A40
     clear A40
     by_cases c5 : t596 = true
     ·subst c5
      rw [if_pos rfl] at H
      have HC6 := Aside0.mk H
      clear H
      have p595 : 0 ≤ (x3_1 : Int) := of_decide_eq_true (by first | (with_reducible assumption) | assumption)
      have q595 : x3_1 < (l0.length : Int) := of_decide_eq_true (by first | (with_reducible assumption) | assumption)
      obtain ⟨ad595, e595, hx595_0, hx595_1, hx595_2, hx595_3, hx595_4, hx595_5⟩ := at_T24 HR0.out x3_1 p595 q595
      cases e595
      replace hx595_0 := (HB.out.cell (World.block_lt_of_cell? w _ hx595_0)).trans hx595_0
      replace hx595_1 := (HB.out.cell (World.block_lt_of_cell? w _ hx595_1)).trans hx595_1
      replace hx595_2 := (HB.out.cell (World.block_lt_of_cell? w _ hx595_2)).trans hx595_2
      replace hx595_3 := (HB.out.cell (World.block_lt_of_cell? w _ hx595_3)).trans hx595_3
      replace hx595_4 := (HB.out.cell (World.block_lt_of_cell? w _ hx595_4)).trans hx595_4
      replace hx595_5 := (HB.out.cell (World.block_lt_of_cell? w _ hx595_5)).trans hx595_5
      replace p595 := eq_true p595
      replace q595 := eq_true q595
      go_upto_region 6 with (first | ((with_reducible refine gate_callee (f := 28) rfl ?_); refine gl 15 Try.func28 #[.agg #[.int .i64 ((rd_T24 l0 x3_1).f0), .int .i64 ((rd_T24 l0 x3_1).f1), .int .i64 ((rd_T24 l0 x3_1).f2), .int .i64 ((rd_T24 l0 x3_1).f3), .int .i64 ((rd_T24 l0 x3_1).f4), .int .i64 ((rd_T24 l0 x3_1).f5)]] ?_; (with_reducible refine (spec_l1InsOk.calls ((rd_T24 l0 x3_1).f0) ((rd_T24 l0 x3_1).f1) ((rd_T24 l0 x3_1).f2) ((rd_T24 l0 x3_1).f3) ((rd_T24 l0 x3_1).f4) ((rd_T24 l0 x3_1).f5) true _ A4.out).mono ?_); rintro e w7 ⟨rfl, hb⟩; refine ⟨_, rfl, ?_⟩; replace HB := zS hb; try clear hb))
      (try simp only [Act.put, List.setIfInBounds_toArray, List.set_cons_zero, List.set_cons_succ])
      go_cut [30] (fun v30 wc => ∃ (kq : Nat) (x30_5 : Bool), v30 = .bool x30_5 ∧ Aside0 (spec_l1Form.j1 kq l0 x3_1 x30_5 = some r) ∧ Aside0 (kq ≤ k1) ∧ Aside0 (Below w.heap.size w wc))
      case first =>
       have H := HC6.out
       clear HC6
       replace H := Option.bind_eq_some_iff.mp H
       obtain ⟨t598, A80, H⟩ := H
       try dsimp only at H
       have A8 := Aside0.mk A80
       clear A80
       by_cases c9 : t598 = true
       ·subst c9
        rw [if_pos rfl] at H
        have H' := Aside0.mk H
        clear H
        have p597 : 0 ≤ (x3_1 : Int) := of_decide_eq_true (by first | (with_reducible assumption) | assumption)
        have q597 : x3_1 < (l0.length : Int) := of_decide_eq_true (by first | (with_reducible assumption) | assumption)
        obtain ⟨ad597, e597, hx597_0, hx597_1, hx597_2, hx597_3, hx597_4, hx597_5⟩ := at_T24 HR0.out x3_1 p597 q597
        obtain rfl : ad595 = ad597 := (by injection e597)
        replace hx597_0 := (HB.out.cell (World.block_lt_of_cell? w _ hx597_0)).trans hx597_0
        replace hx597_1 := (HB.out.cell (World.block_lt_of_cell? w _ hx597_1)).trans hx597_1
        replace hx597_2 := (HB.out.cell (World.block_lt_of_cell? w _ hx597_2)).trans hx597_2
        replace hx597_3 := (HB.out.cell (World.block_lt_of_cell? w _ hx597_3)).trans hx597_3
        replace hx597_4 := (HB.out.cell (World.block_lt_of_cell? w _ hx597_4)).trans hx597_4
        replace hx597_5 := (HB.out.cell (World.block_lt_of_cell? w _ hx597_5)).trans hx597_5
        replace p597 := eq_true p597
        replace q597 := eq_true q597
        go_wp2_with (first | ((with_reducible refine gate_callee (f := 56) rfl ?_); refine gl 22 Try.func56 #[.int .i64 ((rd_T24 l0 x3_1).f0)] ?_; (with_reducible refine (spec_l1Jump.calls ((rd_T24 l0 x3_1).f0) true _ A8.out).mono ?_); rintro e w' ⟨rfl, ⟨nd, rfl⟩⟩; refine ⟨_, rfl, ?_⟩))
        go_meet
        case rel => exact ⟨_, (true), (by first | rfl | (simp; done) | (simp [*]; done)), H', ⟨by have := HK1.out; first | omega | exact Nat.le_refl _⟩, ⟨zB⟩⟩
       ·replace c9 := Bool.eq_false_iff.mpr c9
        subst c9
        rw [if_neg (show ¬ (false = true) by decide)] at H
        have H' := Aside0.mk H
        clear H
        have p597 : 0 ≤ (x3_1 : Int) := of_decide_eq_true (by first | (with_reducible assumption) | assumption)
        have q597 : x3_1 < (l0.length : Int) := of_decide_eq_true (by first | (with_reducible assumption) | assumption)
        obtain ⟨ad597, e597, hx597_0, hx597_1, hx597_2, hx597_3, hx597_4, hx597_5⟩ := at_T24 HR0.out x3_1 p597 q597
        obtain rfl : ad595 = ad597 := (by injection e597)
        replace hx597_0 := (HB.out.cell (World.block_lt_of_cell? w _ hx597_0)).trans hx597_0
        replace hx597_1 := (HB.out.cell (World.block_lt_of_cell? w _ hx597_1)).trans hx597_1
        replace hx597_2 := (HB.out.cell (World.block_lt_of_cell? w _ hx597_2)).trans hx597_2
        replace hx597_3 := (HB.out.cell (World.block_lt_of_cell? w _ hx597_3)).trans hx597_3
        replace hx597_4 := (HB.out.cell (World.block_lt_of_cell? w _ hx597_4)).trans hx597_4
        replace hx597_5 := (HB.out.cell (World.block_lt_of_cell? w _ hx597_5)).trans hx597_5
        replace p597 := eq_true p597
        replace q597 := eq_true q597
        go_wp2_with (first | ((with_reducible refine gate_callee (f := 56) rfl ?_); refine gl 22 Try.func56 #[.int .i64 ((rd_T24 l0 x3_1).f0)] ?_; (with_reducible refine (spec_l1Jump.calls ((rd_T24 l0 x3_1).f0) false _ A8.out).mono ?_); rintro e w' ⟨rfl, ⟨nd, rfl⟩⟩; refine ⟨_, rfl, ?_⟩; have p599 : 0 ≤ (x3_1 : Int) := of_decide_eq_true (by first | (with_reducible assumption) | assumption); have q599 : x3_1 < (l0.length : Int) := of_decide_eq_true (by first | (with_reducible assumption) | assumption); obtain ⟨ad599, e599, hx599_0, hx599_1, hx599_2, hx599_3, hx599_4, hx599_5⟩ := at_T24 HR0.out x3_1 p599 q599; obtain rfl : ad595 = ad599 := (by injection e599); replace hx599_0 := (HB.out.cell (World.block_lt_of_cell? w _ hx599_0)).trans hx599_0; replace hx599_1 := (HB.out.cell (World.block_lt_of_cell? w _ hx599_1)).trans hx599_1; replace hx599_2 := (HB.out.cell (World.block_lt_of_cell? w _ hx599_2)).trans hx599_2; replace hx599_3 := (HB.out.cell (World.block_lt_of_cell? w _ hx599_3)).trans hx599_3; replace hx599_4 := (HB.out.cell (World.block_lt_of_cell? w _ hx599_4)).trans hx599_4; replace hx599_5 := (HB.out.cell (World.block_lt_of_cell? w _ hx599_5)).trans hx599_5; replace p599 := eq_true p599; replace q599 := eq_true q599))
        go_meet
        case rel => exact ⟨_, ((((rd_T24 l0 x3_1).f0) == 16)), (by first | rfl | (simp; done) | (simp [*]; done)), H', ⟨by have := HK1.out; first | omega | exact Nat.le_refl _⟩, ⟨zB⟩⟩
      case rest =>
       clear HC6
       try clear c2
       try clear c2b0
       try clear p2
       try clear c3
       try clear c3b0
       try clear c4
       try clear c5
       try clear p5
       try clear q5
       try clear hx5
       try clear c9
       try clear hx595_0
       try clear hx595_1
       try clear hx595_2
       try clear hx595_3
       try clear hx595_4
       try clear hx595_5
       try clear hx597_0
       try clear hx597_1
       try clear hx597_2
       try clear hx597_3
       try clear hx597_4
       try clear hx597_5
       try clear hx599_0
       try clear hx599_1
       try clear hx599_2
       try clear hx599_3
       try clear hx599_4
       try clear hx599_5
       try clear p595
       try clear p597
       try clear p599
       try clear q595
       try clear q597
       try clear q599
       obtain ⟨kq, x30_5, rfl, HA, HJ5, HB⟩ := hcut
       cases kq with
       | zero => exact absurd HA.out (by simp [spec_l1Form.j1])
       | succ kj5 =>
        have H := HA.out
        clear HA
        simp only [spec_l1Form.j1] at H
        by_cases c10 : x30_5 = true
        ·subst c10
         rw [if_pos rfl] at H
         by_cases c11 : 0 ≤ x3_1
         ·rw [if_pos c11] at H
          have c11b0 : decide (0 ≤ x3_1) = true := decide_eq_true c11
          clear c11
          by_cases c12 : x3_1 < (l0.length : Int)
          ·rw [if_pos c12] at H
           have c12b0 : decide (x3_1 < (l0.length : Int)) = true := decide_eq_true c12
           clear c12
           replace H := Option.bind_eq_some_iff.mp H
           obtain ⟨t601, A130, H⟩ := H
           try dsimp only at H
           have A13 := Aside0.mk A130
           clear A130
           by_cases c14 : t601 = true
           ·subst c14
            rw [if_pos rfl] at H
            have H' := Aside0.mk H
            clear H
            have p600 : 0 ≤ (x3_1 : Int) := of_decide_eq_true (by first | (with_reducible assumption) | assumption)
            have q600 : x3_1 < (l0.length : Int) := of_decide_eq_true (by first | (with_reducible assumption) | assumption)
            obtain ⟨ad600, e600, hx600_0, hx600_1, hx600_2, hx600_3, hx600_4, hx600_5⟩ := at_T24 HR0.out x3_1 p600 q600
            obtain rfl : ad595 = ad600 := (by injection e600)
            replace hx600_0 := (HB.out.cell (World.block_lt_of_cell? w _ hx600_0)).trans hx600_0
            replace hx600_1 := (HB.out.cell (World.block_lt_of_cell? w _ hx600_1)).trans hx600_1
            replace hx600_2 := (HB.out.cell (World.block_lt_of_cell? w _ hx600_2)).trans hx600_2
            replace hx600_3 := (HB.out.cell (World.block_lt_of_cell? w _ hx600_3)).trans hx600_3
            replace hx600_4 := (HB.out.cell (World.block_lt_of_cell? w _ hx600_4)).trans hx600_4
            replace hx600_5 := (HB.out.cell (World.block_lt_of_cell? w _ hx600_5)).trans hx600_5
            replace p600 := eq_true p600
            replace q600 := eq_true q600
            go_wp2_with (first | ((with_reducible refine gate_callee (f := 45) rfl ?_); refine gl 42 Try.func45 #[.int .i64 (wrap64 ((wrap64 (x3_1 + 1)) + ((rd_T24 l0 x3_1).f3))), .int .i64 0, .int .i64 (wrap64 ((l0.length : Int) - 1))] ?_; (with_reducible refine (spec_l1In.calls (wrap64 ((wrap64 (x3_1 + 1)) + ((rd_T24 l0 x3_1).f3))) 0 (wrap64 ((l0.length : Int) - 1)) true _ A13.out).mono ?_); rintro e w' ⟨rfl, ⟨nd, rfl⟩⟩; refine ⟨_, rfl, ?_⟩))
            go_roundg kj5
            case measure => have := HK1.out; have := HJ5.out; omega
            case rel => exact ⟨(wrap64 (x3_1 + 1)), (by first | rfl | (simp; done) | (simp [*]; done)), H', ⟨by have := HK1.out; have := HJ5.out; omega⟩, ⟨zB⟩⟩
           ·replace c14 := Bool.eq_false_iff.mpr c14
            subst c14
            rw [if_neg (show ¬ (false = true) by decide)] at H
            obtain rfl := Option.some.inj H
            have p600 : 0 ≤ (x3_1 : Int) := of_decide_eq_true (by first | (with_reducible assumption) | assumption)
            have q600 : x3_1 < (l0.length : Int) := of_decide_eq_true (by first | (with_reducible assumption) | assumption)
            obtain ⟨ad600, e600, hx600_0, hx600_1, hx600_2, hx600_3, hx600_4, hx600_5⟩ := at_T24 HR0.out x3_1 p600 q600
            obtain rfl : ad595 = ad600 := (by injection e600)
            replace hx600_0 := (HB.out.cell (World.block_lt_of_cell? w _ hx600_0)).trans hx600_0
            replace hx600_1 := (HB.out.cell (World.block_lt_of_cell? w _ hx600_1)).trans hx600_1
            replace hx600_2 := (HB.out.cell (World.block_lt_of_cell? w _ hx600_2)).trans hx600_2
            replace hx600_3 := (HB.out.cell (World.block_lt_of_cell? w _ hx600_3)).trans hx600_3
            replace hx600_4 := (HB.out.cell (World.block_lt_of_cell? w _ hx600_4)).trans hx600_4
            replace hx600_5 := (HB.out.cell (World.block_lt_of_cell? w _ hx600_5)).trans hx600_5
            replace p600 := eq_true p600
            replace q600 := eq_true q600
            go_wp2_with (first | ((with_reducible refine gate_callee (f := 45) rfl ?_); refine gl 42 Try.func45 #[.int .i64 (wrap64 ((wrap64 (x3_1 + 1)) + ((rd_T24 l0 x3_1).f3))), .int .i64 0, .int .i64 (wrap64 ((l0.length : Int) - 1))] ?_; (with_reducible refine (spec_l1In.calls (wrap64 ((wrap64 (x3_1 + 1)) + ((rd_T24 l0 x3_1).f3))) 0 (wrap64 ((l0.length : Int) - 1)) false _ A13.out).mono ?_); rintro e w' ⟨rfl, ⟨nd, rfl⟩⟩; refine ⟨_, rfl, ?_⟩))
            go_ret
            exact ⟨zR, zB⟩
          ·rw [if_neg c12] at H
           exact absurd H (by simp)
         ·rw [if_neg c11] at H
          exact absurd H (by simp)
        ·replace c10 := Bool.eq_false_iff.mpr c10
         subst c10
         rw [if_neg (show ¬ (false = true) by decide)] at H
         have H' := Aside0.mk H
         clear H
         go_wp2
         go_roundg kj5
         case measure => have := HK1.out; have := HJ5.out; omega
         case rel => exact ⟨(wrap64 (x3_1 + 1)), (by first | rfl | (simp; done) | (simp [*]; done)), H', ⟨by have := HK1.out; have := HJ5.out; omega⟩, ⟨zB⟩⟩
     ·replace c5 := Bool.eq_false_iff.mpr c5
      subst c5
      rw [if_neg (show ¬ (false = true) by decide)] at H
      obtain rfl := Option.some.inj H
      have p595 : 0 ≤ (x3_1 : Int) := of_decide_eq_true (by first | (with_reducible assumption) | assumption)
      have q595 : x3_1 < (l0.length : Int) := of_decide_eq_true (by first | (with_reducible assumption) | assumption)
      obtain ⟨ad595, e595, hx595_0, hx595_1, hx595_2, hx595_3, hx595_4, hx595_5⟩ := at_T24 HR0.out x3_1 p595 q595
      cases e595
      replace hx595_0 := (HB.out.cell (World.block_lt_of_cell? w _ hx595_0)).trans hx595_0
      replace hx595_1 := (HB.out.cell (World.block_lt_of_cell? w _ hx595_1)).trans hx595_1
      replace hx595_2 := (HB.out.cell (World.block_lt_of_cell? w _ hx595_2)).trans hx595_2
      replace hx595_3 := (HB.out.cell (World.block_lt_of_cell? w _ hx595_3)).trans hx595_3
      replace hx595_4 := (HB.out.cell (World.block_lt_of_cell? w _ hx595_4)).trans hx595_4
      replace hx595_5 := (HB.out.cell (World.block_lt_of_cell? w _ hx595_5)).trans hx595_5
      replace p595 := eq_true p595
      replace q595 := eq_true q595
      go_wp2_with (first | ((with_reducible refine gate_callee (f := 28) rfl ?_); refine gl 15 Try.func28 #[.agg #[.int .i64 ((rd_T24 l0 x3_1).f0), .int .i64 ((rd_T24 l0 x3_1).f1), .int .i64 ((rd_T24 l0 x3_1).f2), .int .i64 ((rd_T24 l0 x3_1).f3), .int .i64 ((rd_T24 l0 x3_1).f4), .int .i64 ((rd_T24 l0 x3_1).f5)]] ?_; (with_reducible refine (spec_l1InsOk.calls ((rd_T24 l0 x3_1).f0) ((rd_T24 l0 x3_1).f1) ((rd_T24 l0 x3_1).f2) ((rd_T24 l0 x3_1).f3) ((rd_T24 l0 x3_1).f4) ((rd_T24 l0 x3_1).f5) false _ A4.out).mono ?_); rintro e w15 ⟨rfl, hb⟩; refine ⟨_, rfl, ?_⟩; replace HB := zS hb; try clear hb))
      go_ret
      exact ⟨zR, zB⟩
    ·rw [if_neg c3] at H
     exact absurd H (by simp)
   ·rw [if_neg c2] at H
    have c2b0 : decide (x3_1 < (l0.length : Int)) = false := decide_eq_false c2
    clear c2
    by_cases c16 : (l0.length : Int) > 48
    ·rw [if_pos c16] at H
     have c16b0 : decide (48 < (l0.length : Int)) = true := decide_eq_true c16
     have c16b1 : decide (48 < l0.length) = true := decide_eq_true (by omega)
     clear c16
     obtain rfl := Option.some.inj H
     go_wp2
     go_ret
     exact ⟨zR, zB⟩
    ·rw [if_neg c16] at H
     have c16b0 : decide (48 < (l0.length : Int)) = false := decide_eq_false c16
     have c16b1 : decide (48 < l0.length) = false := decide_eq_false (by omega)
     clear c16
     have HC17 := Aside0.mk H
     clear H
     go_upto_region 12 with (fail)
     go_cut [67] (fun v67 wc => ∃ (kq : Nat) (x67_16 : Bool), v67 = .bool x67_16 ∧ Aside0 (spec_l1Form.j2 kq x67_16 = some r) ∧ Aside0 (kq ≤ k1) ∧ Aside0 (Below w.heap.size w wc))
     case first =>
      have H := HC17.out
      clear HC17
      by_cases c18 : (l0.length : Int) = 0
      ·rw [if_pos c18] at H
       have c18b0 : ((l0.length : Int) == 0) = true := beq_iff_eq.mpr c18
       have c18b1 : ((l0.length : Int) != 0) = false := bne_eq_false_iff_eq.mpr c18
       clear c18
       (first | rw [c18b0] | (simp only [i64_w, i32_w]; rw [c18b0]) | skip)
       have H' := Aside0.mk H
       clear H
       go_wp2
       go_meet
       case rel => exact ⟨_, (true), (by first | rfl | (simp; done) | (simp [*]; done)), H', ⟨by have := HK1.out; first | omega | exact Nat.le_refl _⟩, ⟨zB⟩⟩
      ·rw [if_neg c18] at H
       have c18b0 : ((l0.length : Int) == 0) = false := beq_eq_false_iff_ne.mpr c18
       have c18b1 : ((l0.length : Int) != 0) = true := bne_iff_ne.mpr c18
       have c18b2 : ¬ (l0 = []) := fun h_ => c18 (by rw [h_]; rfl)
       (first | rw [c18b0] | (simp only [i64_w, i32_w]; rw [c18b0]) | skip)
       obtain ⟨ji19, hji19⟩ : ∃ j_ : Int, (wrap64 ((l0.length : Int) - 1)) = j_ := ⟨_, rfl⟩
       replace H : (if 0 ≤ (ji19) then (if (ji19) < (l0.length : Int) then (if ((rd_T24 l0 (ji19)).f0) = 20 then (spec_l1Form.j2 k1 false) else (spec_l1Form.j2 k1 (((rd_T24 l0 (ji19)).f0) != 16))) else (none)) else (none)) = some r := by first | (rw [hji19] at H; exact H) | (simp only [hji19] at H ⊢; exact H)
       have hji19w : (IntKind.i64.wrap ((l0.length : Int) - 1)) = ji19 := (i64_w _).trans hji19
       by_cases c20 : 0 ≤ (ji19)
       ·rw [if_pos c20] at H
        have c20b0 : decide (0 ≤ (ji19)) = true := decide_eq_true c20
        clear c20
        by_cases c21 : (ji19) < (l0.length : Int)
        ·rw [if_pos c21] at H
         have c21b0 : decide ((ji19) < (l0.length : Int)) = true := decide_eq_true c21
         clear c21
         by_cases c22 : ((rd_T24 l0 (ji19)).f0) = 20
         ·rw [if_pos c22] at H
          have c22b0 : (((rd_T24 l0 (ji19)).f0) == 20) = true := beq_iff_eq.mpr c22
          have c22b1 : (((rd_T24 l0 (ji19)).f0) != 20) = false := bne_eq_false_iff_eq.mpr c22
          clear c22
          have H' := Aside0.mk H
          clear H
          have p602 : 0 ≤ ((ji19) : Int) := of_decide_eq_true (by first | (with_reducible assumption) | assumption)
          have q602 : (ji19) < (l0.length : Int) := of_decide_eq_true (by first | (with_reducible assumption) | assumption)
          obtain ⟨ad602, e602, hx602_0, hx602_1, hx602_2, hx602_3, hx602_4, hx602_5⟩ := at_T24 HR0.out (ji19) p602 q602
          cases e602
          replace hx602_0 := (HB.out.cell (World.block_lt_of_cell? w _ hx602_0)).trans hx602_0
          replace hx602_1 := (HB.out.cell (World.block_lt_of_cell? w _ hx602_1)).trans hx602_1
          replace hx602_2 := (HB.out.cell (World.block_lt_of_cell? w _ hx602_2)).trans hx602_2
          replace hx602_3 := (HB.out.cell (World.block_lt_of_cell? w _ hx602_3)).trans hx602_3
          replace hx602_4 := (HB.out.cell (World.block_lt_of_cell? w _ hx602_4)).trans hx602_4
          replace hx602_5 := (HB.out.cell (World.block_lt_of_cell? w _ hx602_5)).trans hx602_5
          replace p602 := eq_true p602
          replace q602 := eq_true q602
          go_wp2
          go_meet
          case rel => exact ⟨_, (false), (by first | rfl | (simp; done) | (simp [*]; done)), H', ⟨by have := HK1.out; first | omega | exact Nat.le_refl _⟩, ⟨zB⟩⟩
         ·rw [if_neg c22] at H
          have c22b0 : (((rd_T24 l0 (ji19)).f0) == 20) = false := beq_eq_false_iff_ne.mpr c22
          have c22b1 : (((rd_T24 l0 (ji19)).f0) != 20) = true := bne_iff_ne.mpr c22
          have H' := Aside0.mk H
          clear H
          have p602 : 0 ≤ ((ji19) : Int) := of_decide_eq_true (by first | (with_reducible assumption) | assumption)
          have q602 : (ji19) < (l0.length : Int) := of_decide_eq_true (by first | (with_reducible assumption) | assumption)
          obtain ⟨ad602, e602, hx602_0, hx602_1, hx602_2, hx602_3, hx602_4, hx602_5⟩ := at_T24 HR0.out (ji19) p602 q602
          cases e602
          replace hx602_0 := (HB.out.cell (World.block_lt_of_cell? w _ hx602_0)).trans hx602_0
          replace hx602_1 := (HB.out.cell (World.block_lt_of_cell? w _ hx602_1)).trans hx602_1
          replace hx602_2 := (HB.out.cell (World.block_lt_of_cell? w _ hx602_2)).trans hx602_2
          replace hx602_3 := (HB.out.cell (World.block_lt_of_cell? w _ hx602_3)).trans hx602_3
          replace hx602_4 := (HB.out.cell (World.block_lt_of_cell? w _ hx602_4)).trans hx602_4
          replace hx602_5 := (HB.out.cell (World.block_lt_of_cell? w _ hx602_5)).trans hx602_5
          replace p602 := eq_true p602
          replace q602 := eq_true q602
          have p603 : 0 ≤ ((ji19) : Int) := of_decide_eq_true (by first | (with_reducible assumption) | assumption)
          have q603 : (ji19) < (l0.length : Int) := of_decide_eq_true (by first | (with_reducible assumption) | assumption)
          obtain ⟨ad603, e603, hx603_0, hx603_1, hx603_2, hx603_3, hx603_4, hx603_5⟩ := at_T24 HR0.out (ji19) p603 q603
          obtain rfl : ad602 = ad603 := (by injection e603)
          replace hx603_0 := (HB.out.cell (World.block_lt_of_cell? w _ hx603_0)).trans hx603_0
          replace hx603_1 := (HB.out.cell (World.block_lt_of_cell? w _ hx603_1)).trans hx603_1
          replace hx603_2 := (HB.out.cell (World.block_lt_of_cell? w _ hx603_2)).trans hx603_2
          replace hx603_3 := (HB.out.cell (World.block_lt_of_cell? w _ hx603_3)).trans hx603_3
          replace hx603_4 := (HB.out.cell (World.block_lt_of_cell? w _ hx603_4)).trans hx603_4
          replace hx603_5 := (HB.out.cell (World.block_lt_of_cell? w _ hx603_5)).trans hx603_5
          replace p603 := eq_true p603
          replace q603 := eq_true q603
          go_wp2
          go_meet
          case rel => exact ⟨_, ((((rd_T24 l0 (ji19)).f0) != 16)), (by first | rfl | (simp; done) | (simp only [← hji19] <;> (first | rfl | simp)) | (simp [*]; done)), H', ⟨by have := HK1.out; first | omega | exact Nat.le_refl _⟩, ⟨zB⟩⟩
        ·rw [if_neg c21] at H
         exact absurd H (by simp)
       ·rw [if_neg c20] at H
        exact absurd H (by simp)
     case rest =>
      clear HC17
      try clear c1
      try clear c2
      try clear c2b0
      try clear p2 p2
      try clear c3
      try clear c3b0
      try clear c4
      try clear c5
      try clear p5 p5
      try clear q5 q5
      try clear hx5
      try clear p6
      try clear q6
      try clear hx6
      try clear c9
      try clear c10
      try clear c11
      try clear c11b0
      try clear c12
      try clear c12b0
      try clear c14
      try clear c16
      try clear c16b0
      try clear c16b1
      try clear c18
      try clear c18b0
      try clear c18b1
      try clear c18b2
      try clear c20
      try clear c20b0
      try clear c21
      try clear c21b0
      try clear c22
      try clear c22b0
      try clear c22b1
      try clear hx595_0
      try clear hx595_1
      try clear hx595_2
      try clear hx595_3
      try clear hx595_4
      try clear hx595_5
      try clear hx597_0
      try clear hx597_1
      try clear hx597_2
      try clear hx597_3
      try clear hx597_4
      try clear hx597_5
      try clear hx599_0
      try clear hx599_1
      try clear hx599_2
      try clear hx599_3
      try clear hx599_4
      try clear hx599_5
      try clear hx600_0
      try clear hx600_1
      try clear hx600_2
      try clear hx600_3
      try clear hx600_4
      try clear hx600_5
      try clear hx602_0
      try clear hx602_1
      try clear hx602_2
      try clear hx602_3
      try clear hx602_4
      try clear hx602_5
      try clear hx603_0
      try clear hx603_1
      try clear hx603_2
      try clear hx603_3
      try clear hx603_4
      try clear hx603_5
      try clear p595
      try clear p597
      try clear p599
      try clear p600
      try clear p602
      try clear p603
      try clear q595
      try clear q597
      try clear q599
      try clear q600
      try clear q602
      try clear q603
      obtain ⟨kq, x67_16, rfl, HA, HJ16, HB⟩ := hcut
      cases kq with
      | zero => exact absurd HA.out (by simp [spec_l1Form.j2])
      | succ kj16 =>
       have H := HA.out
       clear HA
       simp only [spec_l1Form.j2] at H
       by_cases c23 : x67_16 = true
       ·subst c23
        rw [if_pos rfl] at H
        obtain rfl := Option.some.inj H
        go_wp2
        go_ret
        exact ⟨zR, zB⟩
       ·replace c23 := Bool.eq_false_iff.mpr c23
        subst c23
        rw [if_neg (show ¬ (false = true) by decide)] at H
        obtain rfl := Option.some.inj H
        go_wp2
        go_ret
        exact ⟨zR, zB⟩

/-! ### spec_ProgForm: function 18 -/
def spec_ProgForm.f (k : Nat) (l0 : List (S24)) : Option (Int) := (spec_l1Form.f k l0).bind fun t604 => (some t604)

set_option maxHeartbeats 8000000 in
set_option maxRecDepth 100000 in
theorem spec_ProgForm.calls (k : Nat) (A0 : Option Addr) (c0 : Nat) (l0 : List (S24)) (r : Int) (w : World) (hr0 : Kd.C k24 w A0 l0.length l0) (hc0 : l0.length ≤ c0) (h : spec_ProgForm.f k l0 = some r) :
  Calls Try.prog 18 #[.slice A0 l0.length c0] w fun e w' => e = .returned (.int .i64 r) ∧ Below w.heap.size w w' := by
 have HR0 := Aside0.mk hr0
 have HC0 := Aside0.mk hc0
 clear hr0 hc0
 have HB := Aside0.mk (Below.refl w.heap.size w)
 have H : ((spec_l1Form.f k l0).bind fun t604 => (some t604)) = some r := h
 clear h
 replace H := Option.bind_eq_some_iff.mp H
 obtain ⟨t604, A20, H⟩ := H
 try dsimp only at H
 have A2 := Aside0.mk A20
 clear A20
 obtain rfl := Option.some.inj H
 go_enter Try.func18, Try.ntmps18
 go_wp2_with (first | ((with_reducible refine gate_callee (f := 42) rfl ?_); refine gl 4 Try.func42 #[.slice A0 l0.length c0] ?_; (with_reducible refine (spec_l1Form.calls k _ _ l0 t604 _ ?side1 ?side2 A2.out).mono ?_); (case side1 => repeat (first | exact HR0.out | (with_reducible refine Kd.C_alloc ?_ _) | (with_reducible refine Kd.C_drewN ?_ _) | (with_reducible refine Kd.C_drew ?_))); (case side2 => exact HC0.out); rintro e w3 ⟨rfl, hb⟩; refine ⟨_, rfl, ?_⟩; replace HB := zS hb; try clear hb))
 go_ret
 exact ⟨zR, zB⟩

/-! ### laws_FnForm: function 5 -/
mutual
def laws_FnForm.j0 : Nat → List (S24) → Int → Bool → Option (Bool)
 | 0, _, _, _ => none
 | k + 1, x3, x4, x22 => if x22 = true then ((spec_ProgForm.f k x3).bind fun t610 => (some (x4 == t610))) else (laws_FnForm.l0 k x3 0)
def laws_FnForm.l0 : Nat → List (S24) → Int → Option (Bool)
 | 0, _, _ => none
 | k + 1, x3, x5 => if x5 < (x3.length : Int) then (if 0 ≤ x5 then (if ((rd_T24 x3 x5).f0) ≥ 12 then ((impl_InsOk.f ((rd_T24 x3 x5).f0) ((rd_T24 x3 x5).f1) ((rd_T24 x3 x5).f2) ((rd_T24 x3 x5).f3) ((rd_T24 x3 x5).f4) ((rd_T24 x3 x5).f5)).bind fun t614 => (if t614 = true then (if ((rd_T24 x3 x5).f0) ≤ 16 then (if (wrap64 ((wrap64 (x5 + 1)) + ((rd_T24 x3 x5).f3))) < 0 then (laws_FnForm.j2 k x3 x5 true) else (laws_FnForm.j2 k x3 x5 (decide ((wrap64 ((wrap64 (x5 + 1)) + ((rd_T24 x3 x5).f3))) ≥ (x3.length : Int))))) else (laws_FnForm.j2 k x3 x5 false)) else (laws_FnForm.j2 k x3 x5 true))) else ((impl_InsOk.f ((rd_T24 x3 x5).f0) ((rd_T24 x3 x5).f1) ((rd_T24 x3 x5).f2) ((rd_T24 x3 x5).f3) ((rd_T24 x3 x5).f4) ((rd_T24 x3 x5).f5)).bind fun t618 => (if t618 = true then (laws_FnForm.l0 k x3 (wrap64 (x5 + 1))) else (none)))) else (none)) else ((some (([(⟨1, 0, (-1), 0, 0, 0⟩ : S24)] : List (S24)) : List (S24))).bind fun y619 => (if y619.length + x3.length < 2932031007402 then ((some (y619 ++ x3 : List (S24))).bind fun y622 => ((impl_ProgForm.f k y622).bind fun t625 => (some ((t625 == 0) == (decide ((y622.length : Int) ≤ 48)))))) else (none)))
def laws_FnForm.j2 : Nat → List (S24) → Int → Bool → Option (Bool)
 | 0, _, _, _ => none
 | k + 1, x3, x5, x79 => if x79 = true then (none) else (laws_FnForm.l0 k x3 (wrap64 (x5 + 1)))
end
def laws_FnForm.f (k : Nat) (l0 : List Int) : Option (Bool) := if (l0.length : Int) > 1048576 then (some true) else ((spec_DrawProgForm.f k l0).bind fun t605 => ((impl_ProgForm.f k t605).bind fun t608 => ((spec_ProgForm.f k t605).bind fun t609 => (if t608 = t609 then (laws_FnForm.j0 k t605 t608 (t608 != 0)) else (laws_FnForm.j0 k t605 t608 true)))))


set_option maxHeartbeats 8000000 in
set_option maxRecDepth 100000 in
theorem laws_FnForm.calls (k : Nat) (A0 : Option Addr) (c0 : Nat) (l0 : List Int) (r : Bool) (w : World) (hr0 : Kd.C (Kd.int .u8) w A0 l0.length l0) (hc0 : l0.length ≤ c0) (h : laws_FnForm.f k l0 = some r) :
  Calls Try.prog 5 #[.slice A0 l0.length c0] w fun e w' => e = .returned (.bool r) ∧ Below w.heap.size w w' := by
 have hu24 := Try.underlying24
 have HR0 := Aside0.mk hr0
 have HC0 := Aside0.mk hc0
 clear hr0 hc0
 have HB := Aside0.mk (Below.refl w.heap.size w)
 have H : (if (l0.length : Int) > 1048576 then (some true) else ((spec_DrawProgForm.f k l0).bind fun t605 => ((impl_ProgForm.f k t605).bind fun t608 => ((spec_ProgForm.f k t605).bind fun t609 => (if t608 = t609 then (laws_FnForm.j0 k t605 t608 (t608 != 0)) else (laws_FnForm.j0 k t605 t608 true)))))) = some r := h
 clear h
 by_cases c2 : (l0.length : Int) > 1048576
 ·rw [if_pos c2] at H
  have c2b0 : decide (1048576 < (l0.length : Int)) = true := decide_eq_true c2
  have c2b1 : decide (1048576 < l0.length) = true := decide_eq_true (by omega)
  clear c2
  obtain rfl := Option.some.inj H
  go_enter Try.func5, Try.ntmps5
  go_wp2
  go_ret
  exact ⟨zR, zB⟩
 ·rw [if_neg c2] at H
  have c2b0 : decide (1048576 < (l0.length : Int)) = false := decide_eq_false c2
  have c2b1 : decide (1048576 < l0.length) = false := decide_eq_false (by omega)
  clear c2
  replace H := Option.bind_eq_some_iff.mp H
  obtain ⟨t605, A30, H⟩ := H
  try dsimp only at H
  have A3 := Aside0.mk A30
  clear A30
  replace H := Option.bind_eq_some_iff.mp H
  obtain ⟨t608, A40, H⟩ := H
  try dsimp only at H
  have A4 := Aside0.mk A40
  clear A40
  have HC5 := Aside0.mk H
  clear H
  go_enter Try.func5, Try.ntmps5
  go_upto_region 5 with (first | ((with_reducible refine gate_callee (f := 16) rfl ?_); refine gl 12 Try.func16 #[.slice A0 l0.length c0] ?_; (with_reducible refine (spec_DrawProgForm.calls k _ _ l0 t605 _ ?side1 ?side2 A3.out).mono ?_); (case side1 => repeat (first | exact HR0.out | (with_reducible refine Kd.C_alloc ?_ _) | (with_reducible refine Kd.C_drewN ?_ _) | (with_reducible refine Kd.C_drew ?_))); (case side2 => exact HC0.out); rintro e w6 ⟨v606, rfl, ho0, hb⟩; refine ⟨_, rfl, ?_⟩; have HO607 := Aside0.mk (Kd.R_lower ho0 (below_size zB)); replace HB := zS hb; (try clear hb); (try clear hb2); (try clear hk); (try clear hi); (try clear ho0); obtain ⟨Ao7, co7, eo7⟩ := Kd.R_slice HO607.out; subst eo7) | ((with_reducible refine gate_callee (f := 17) rfl ?_); refine gl 14 Try.func17 #[.slice Ao7 t605.length co7] ?_; (with_reducible refine (impl_ProgForm.calls k _ _ t605 t608 _ ?side1 ?side2 A4.out).mono ?_); (case side1 => repeat (first | exact (Kd.R_reads' HO607.out).2.2 | (with_reducible refine Kd.C_alloc ?_ _) | (with_reducible refine Kd.C_drewN ?_ _) | (with_reducible refine Kd.C_drew ?_))); (case side2 => exact (Kd.R_reads' HO607.out).2.1); rintro e w8 ⟨rfl, hb⟩; refine ⟨_, rfl, ?_⟩; replace HO607 := Aside0.mk (Kd.R_below (by (with_reducible repeat (first | apply Kd.R_alloc | apply Kd.R_drewN | apply Kd.R_drew)); exact HO607.out) hb); replace HB := zS hb; try clear hb))
  (try simp only [Act.put, List.setIfInBounds_toArray, List.set_cons_zero, List.set_cons_succ])
  go_cut [22] (fun v22 wc => ∃ (kq : Nat) (x22_4 : Bool), v22 = .bool x22_4 ∧ Aside0 (laws_FnForm.j0 kq t605 t608 x22_4 = some r) ∧ Aside0 (kq ≤ k) ∧ Aside0 (Kd.R k24 24 wc w.heap.size (fun _ => True) (.slice Ao7 t605.length co7) t605) ∧ Aside0 (Below w.heap.size w wc))
  case first =>
   have H := HC5.out
   clear HC5
   replace H := Option.bind_eq_some_iff.mp H
   obtain ⟨t609, A90, H⟩ := H
   try dsimp only at H
   have A9 := Aside0.mk A90
   clear A90
   by_cases c10 : t608 = t609
   ·rw [if_pos c10] at H
    have c10b0 : (t608 == t609) = true := beq_iff_eq.mpr c10
    have c10b1 : (t608 != t609) = false := bne_eq_false_iff_eq.mpr c10
    clear c10
    (first | rw [c10b0] | (simp only [i64_w, i32_w]; rw [c10b0]) | skip)
    have H' := Aside0.mk H
    clear H
    go_wp2_with (first | ((with_reducible refine gate_callee (f := 18) rfl ?_); refine gl 17 Try.func18 #[.slice Ao7 t605.length co7] ?_; (with_reducible refine (spec_ProgForm.calls k _ _ t605 t609 _ ?side1 ?side2 A9.out).mono ?_); (case side1 => repeat (first | exact (Kd.R_reads' HO607.out).2.2 | (with_reducible refine Kd.C_alloc ?_ _) | (with_reducible refine Kd.C_drewN ?_ _) | (with_reducible refine Kd.C_drew ?_))); (case side2 => exact (Kd.R_reads' HO607.out).2.1); rintro e w11 ⟨rfl, hb⟩; refine ⟨_, rfl, ?_⟩; replace HO607 := Aside0.mk (Kd.R_below (by (with_reducible repeat (first | apply Kd.R_alloc | apply Kd.R_drewN | apply Kd.R_drew)); exact HO607.out) hb); replace HB := zS hb; try clear hb))
    go_meet
    case rel => exact ⟨_, ((t608 != 0)), (by first | rfl | (simp; done) | (simp [*]; done)), H', ⟨by first | omega | exact Nat.le_refl _⟩, ⟨by (with_reducible repeat (first | apply Kd.R_alloc | apply Kd.R_drewN | apply Kd.R_drew)); exact HO607.out⟩, ⟨zB⟩⟩
   ·rw [if_neg c10] at H
    have c10b0 : (t608 == t609) = false := beq_eq_false_iff_ne.mpr c10
    have c10b1 : (t608 != t609) = true := bne_iff_ne.mpr c10
    (first | rw [c10b0] | (simp only [i64_w, i32_w]; rw [c10b0]) | skip)
    have H' := Aside0.mk H
    clear H
    go_wp2_with (first | ((with_reducible refine gate_callee (f := 18) rfl ?_); refine gl 17 Try.func18 #[.slice Ao7 t605.length co7] ?_; (with_reducible refine (spec_ProgForm.calls k _ _ t605 t609 _ ?side1 ?side2 A9.out).mono ?_); (case side1 => repeat (first | exact (Kd.R_reads' HO607.out).2.2 | (with_reducible refine Kd.C_alloc ?_ _) | (with_reducible refine Kd.C_drewN ?_ _) | (with_reducible refine Kd.C_drew ?_))); (case side2 => exact (Kd.R_reads' HO607.out).2.1); rintro e w12 ⟨rfl, hb⟩; refine ⟨_, rfl, ?_⟩; replace HO607 := Aside0.mk (Kd.R_below (by (with_reducible repeat (first | apply Kd.R_alloc | apply Kd.R_drewN | apply Kd.R_drew)); exact HO607.out) hb); replace HB := zS hb; try clear hb))
    go_meet
    case rel => exact ⟨_, (true), (by first | rfl | (simp; done) | (simp [*]; done)), H', ⟨by first | omega | exact Nat.le_refl _⟩, ⟨by (with_reducible repeat (first | apply Kd.R_alloc | apply Kd.R_drewN | apply Kd.R_drew)); exact HO607.out⟩, ⟨zB⟩⟩
  case rest =>
   clear HC5
   try clear c1
   try clear c2
   try clear c2b0
   try clear c2b1
   try clear p2
   try clear c5
   try clear c10
   try clear c10b0
   try clear c10b1
   obtain ⟨kq, x22_4, rfl, HA, HJ4, HO_3, HB⟩ := hcut
   cases kq with
   | zero => exact absurd HA.out (by simp [laws_FnForm.j0])
   | succ kj4 =>
    have H := HA.out
    clear HA
    simp only [laws_FnForm.j0] at H
    by_cases c13 : x22_4 = true
    ·subst c13
     rw [if_pos rfl] at H
     replace H := Option.bind_eq_some_iff.mp H
     obtain ⟨t610, A140, H⟩ := H
     try dsimp only at H
     have A14 := Aside0.mk A140
     clear A140
     obtain rfl := Option.some.inj H
     go_wp2_with (first | ((with_reducible refine gate_callee (f := 18) rfl ?_); refine gl 25 Try.func18 #[.slice Ao7 t605.length co7] ?_; (with_reducible refine (spec_ProgForm.calls kj4 _ _ t605 t610 _ ?side1 ?side2 A14.out).mono ?_); (case side1 => repeat (first | exact (Kd.R_reads' HO_3.out).2.2 | (with_reducible refine Kd.C_alloc ?_ _) | (with_reducible refine Kd.C_drewN ?_ _) | (with_reducible refine Kd.C_drew ?_))); (case side2 => exact (Kd.R_reads' HO_3.out).2.1); rintro e w15 ⟨rfl, hb⟩; refine ⟨_, rfl, ?_⟩; replace HO_3 := Aside0.mk (Kd.R_below (by (with_reducible repeat (first | apply Kd.R_alloc | apply Kd.R_drewN | apply Kd.R_drew)); exact HO_3.out) hb); replace HB := zS hb; try clear hb))
     go_ret
     exact ⟨zR, zB⟩
    ·replace c13 := Bool.eq_false_iff.mpr c13
     subst c13
     rw [if_neg (show ¬ (false = true) by decide)] at H
     have H' := Aside0.mk H
     clear H
     go_wp2
     go_loopg [5] kj4 (fun kq v5 w' => ∃ (x5_2 : Int), v5 = .int .i64 x5_2 ∧ Aside0 (laws_FnForm.l0 kq t605 x5_2 = some r) ∧ Aside0 (kq ≤ kj4) ∧ Aside0 (Kd.R k24 24 w' w.heap.size (fun _ => True) (.slice Ao7 t605.length co7) t605) ∧ Aside0 (Below w.heap.size w w'))
     case atStart => exact ⟨(0), (by first | rfl | (simp; done) | (simp [*]; done)), H', ⟨Nat.le_refl _⟩, ⟨by (with_reducible repeat (first | apply Kd.R_alloc | apply Kd.R_drewN | apply Kd.R_drew)); exact HO_3.out⟩, ⟨zB⟩⟩
     case round =>
      clear H'
      try clear c1
      try clear c2
      try clear c2b0
      try clear c2b1
      try clear p2 p2
      try clear c5
      try clear c10
      try clear c10b0
      try clear c10b1
      try clear c13
      obtain ⟨x5_2, rfl, HA, HK2, HO_3, HB⟩ := hrel
      cases gk with
      | zero => exact absurd HA.out (by simp [laws_FnForm.l0])
      | succ k2 =>
       have H := HA.out
       clear HA
       simp only [laws_FnForm.l0] at H
       by_cases c16 : x5_2 < (t605.length : Int)
       ·rw [if_pos c16] at H
        have c16b0 : decide (x5_2 < (t605.length : Int)) = true := decide_eq_true c16
        clear c16
        by_cases c17 : 0 ≤ x5_2
        ·rw [if_pos c17] at H
         have c17b0 : decide (0 ≤ x5_2) = true := decide_eq_true c17
         clear c17
         by_cases c18 : ((rd_T24 t605 x5_2).f0) ≥ 12
         ·rw [if_pos c18] at H
          have c18b0 : decide (12 ≤ ((rd_T24 t605 x5_2).f0)) = true := decide_eq_true c18
          clear c18
          have HC19 := Aside0.mk H
          clear H
          have p611 : 0 ≤ (x5_2 : Int) := of_decide_eq_true (by first | (with_reducible assumption) | assumption)
          have q611 : x5_2 < (t605.length : Int) := of_decide_eq_true (by first | (with_reducible assumption) | assumption)
          obtain ⟨ad611, e611, hx611_0, hx611_1, hx611_2, hx611_3, hx611_4, hx611_5⟩ := at_T24 (Kd.R_reads' HO_3.out).2.2 x5_2 p611 q611
          cases e611
          replace p611 := eq_true p611
          replace q611 := eq_true q611
          have p612 : 0 ≤ (x5_2 : Int) := of_decide_eq_true (by first | (with_reducible assumption) | assumption)
          have q612 : x5_2 < (t605.length : Int) := of_decide_eq_true (by first | (with_reducible assumption) | assumption)
          obtain ⟨ad612, e612, hx612_0, hx612_1, hx612_2, hx612_3, hx612_4, hx612_5⟩ := at_T24 (Kd.R_reads' HO_3.out).2.2 x5_2 p612 q612
          obtain rfl : ad611 = ad612 := (by injection e612)
          replace p612 := eq_true p612
          replace q612 := eq_true q612
          go_upto_region 11 with (fail)
          go_cut [6, 79] (fun v6 v79 wc => ∃ (kq : Nat) (x79_18 : Bool), v6 = .bool (decide ((rd_T24 t605 x5_2).f0 ≤ 16)) ∧ v79 = .bool x79_18 ∧ Aside0 (laws_FnForm.j2 kq t605 x5_2 x79_18 = some r) ∧ Aside0 (kq ≤ k2) ∧ Aside0 (Kd.R k24 24 wc w.heap.size (fun _ => True) (.slice (some ad611) t605.length co7) t605) ∧ Aside0 (Below w.heap.size w wc))
          case first =>
           have H := HC19.out
           clear HC19
           replace H := Option.bind_eq_some_iff.mp H
           obtain ⟨t614, A200, H⟩ := H
           try dsimp only at H
           have A20 := Aside0.mk A200
           clear A200
           by_cases c21 : t614 = true
           ·subst c21
            rw [if_pos rfl] at H
            by_cases c22 : ((rd_T24 t605 x5_2).f0) ≤ 16
            ·rw [if_pos c22] at H
             have c22b0 : decide (((rd_T24 t605 x5_2).f0) ≤ 16) = true := decide_eq_true c22
             clear c22
             (first | rw [c22b0] | (simp only [i64_w, i32_w]; rw [c22b0]) | skip)
             by_cases c23 : (wrap64 ((wrap64 (x5_2 + 1)) + ((rd_T24 t605 x5_2).f3))) < 0
             ·rw [if_pos c23] at H
              have c23b0 : decide ((wrap64 ((wrap64 (x5_2 + 1)) + ((rd_T24 t605 x5_2).f3))) < 0) = true := decide_eq_true c23
              clear c23
              have H' := Aside0.mk H
              clear H
              have p613 : 0 ≤ (x5_2 : Int) := of_decide_eq_true (by first | (with_reducible assumption) | assumption)
              have q613 : x5_2 < (t605.length : Int) := of_decide_eq_true (by first | (with_reducible assumption) | assumption)
              obtain ⟨ad613, e613, hx613_0, hx613_1, hx613_2, hx613_3, hx613_4, hx613_5⟩ := at_T24 (Kd.R_reads' HO_3.out).2.2 x5_2 p613 q613
              obtain rfl : ad611 = ad613 := (by injection e613)
              replace p613 := eq_true p613
              replace q613 := eq_true q613
              go_wp2_with (first | ((with_reducible refine gate_callee (f := 11) rfl ?_); refine gl 51 Try.func11 #[.agg #[.int .i64 ((rd_T24 t605 x5_2).f0), .int .i64 ((rd_T24 t605 x5_2).f1), .int .i64 ((rd_T24 t605 x5_2).f2), .int .i64 ((rd_T24 t605 x5_2).f3), .int .i64 ((rd_T24 t605 x5_2).f4), .int .i64 ((rd_T24 t605 x5_2).f5)]] ?_; (with_reducible refine (impl_InsOk.calls ((rd_T24 t605 x5_2).f0) ((rd_T24 t605 x5_2).f1) ((rd_T24 t605 x5_2).f2) ((rd_T24 t605 x5_2).f3) ((rd_T24 t605 x5_2).f4) ((rd_T24 t605 x5_2).f5) true _ A20.out).mono ?_); rintro e w24 ⟨rfl, hb⟩; refine ⟨_, rfl, ?_⟩; replace HO_3 := Aside0.mk (Kd.R_below (by (with_reducible repeat (first | apply Kd.R_alloc | apply Kd.R_drewN | apply Kd.R_drew)); exact HO_3.out) hb); replace HB := zS hb; try clear hb; have p615 : 0 ≤ (x5_2 : Int) := of_decide_eq_true (by first | (with_reducible assumption) | assumption); have q615 : x5_2 < (t605.length : Int) := of_decide_eq_true (by first | (with_reducible assumption) | assumption); obtain ⟨ad615, e615, hx615_0, hx615_1, hx615_2, hx615_3, hx615_4, hx615_5⟩ := at_T24 (Kd.R_reads' HO_3.out).2.2 x5_2 p615 q615; obtain rfl : ad611 = ad615 := (by injection e615); replace p615 := eq_true p615; replace q615 := eq_true q615))
              go_meet
              case rel => exact ⟨_, (true), (by first | rfl | (simp [*]; done)), (by first | rfl | (simp; done) | (simp [*]; done)), H', ⟨by have := HJ4.out; have := HK2.out; first | omega | exact Nat.le_refl _⟩, ⟨by (with_reducible repeat (first | apply Kd.R_alloc | apply Kd.R_drewN | apply Kd.R_drew)); exact HO_3.out⟩, ⟨zB⟩⟩
             ·rw [if_neg c23] at H
              have c23b0 : decide ((wrap64 ((wrap64 (x5_2 + 1)) + ((rd_T24 t605 x5_2).f3))) < 0) = false := decide_eq_false c23
              clear c23
              have H' := Aside0.mk H
              clear H
              have p613 : 0 ≤ (x5_2 : Int) := of_decide_eq_true (by first | (with_reducible assumption) | assumption)
              have q613 : x5_2 < (t605.length : Int) := of_decide_eq_true (by first | (with_reducible assumption) | assumption)
              obtain ⟨ad613, e613, hx613_0, hx613_1, hx613_2, hx613_3, hx613_4, hx613_5⟩ := at_T24 (Kd.R_reads' HO_3.out).2.2 x5_2 p613 q613
              obtain rfl : ad611 = ad613 := (by injection e613)
              replace p613 := eq_true p613
              replace q613 := eq_true q613
              go_wp2_with (first | ((with_reducible refine gate_callee (f := 11) rfl ?_); refine gl 51 Try.func11 #[.agg #[.int .i64 ((rd_T24 t605 x5_2).f0), .int .i64 ((rd_T24 t605 x5_2).f1), .int .i64 ((rd_T24 t605 x5_2).f2), .int .i64 ((rd_T24 t605 x5_2).f3), .int .i64 ((rd_T24 t605 x5_2).f4), .int .i64 ((rd_T24 t605 x5_2).f5)]] ?_; (with_reducible refine (impl_InsOk.calls ((rd_T24 t605 x5_2).f0) ((rd_T24 t605 x5_2).f1) ((rd_T24 t605 x5_2).f2) ((rd_T24 t605 x5_2).f3) ((rd_T24 t605 x5_2).f4) ((rd_T24 t605 x5_2).f5) true _ A20.out).mono ?_); rintro e w25 ⟨rfl, hb⟩; refine ⟨_, rfl, ?_⟩; replace HO_3 := Aside0.mk (Kd.R_below (by (with_reducible repeat (first | apply Kd.R_alloc | apply Kd.R_drewN | apply Kd.R_drew)); exact HO_3.out) hb); replace HB := zS hb; try clear hb; have p615 : 0 ≤ (x5_2 : Int) := of_decide_eq_true (by first | (with_reducible assumption) | assumption); have q615 : x5_2 < (t605.length : Int) := of_decide_eq_true (by first | (with_reducible assumption) | assumption); obtain ⟨ad615, e615, hx615_0, hx615_1, hx615_2, hx615_3, hx615_4, hx615_5⟩ := at_T24 (Kd.R_reads' HO_3.out).2.2 x5_2 p615 q615; obtain rfl : ad611 = ad615 := (by injection e615); replace p615 := eq_true p615; replace q615 := eq_true q615; have p616 : 0 ≤ (x5_2 : Int) := of_decide_eq_true (by first | (with_reducible assumption) | assumption); have q616 : x5_2 < (t605.length : Int) := of_decide_eq_true (by first | (with_reducible assumption) | assumption); obtain ⟨ad616, e616, hx616_0, hx616_1, hx616_2, hx616_3, hx616_4, hx616_5⟩ := at_T24 (Kd.R_reads' HO_3.out).2.2 x5_2 p616 q616; obtain rfl : ad611 = ad616 := (by injection e616); replace p616 := eq_true p616; replace q616 := eq_true q616))
              go_meet
              case rel => exact ⟨_, (decide ((wrap64 ((wrap64 (x5_2 + 1)) + ((rd_T24 t605 x5_2).f3))) ≥ (t605.length : Int))), (by first | rfl | (simp [*]; done)), (by first | rfl | (simp; done) | (simp [*]; done)), H', ⟨by have := HJ4.out; have := HK2.out; first | omega | exact Nat.le_refl _⟩, ⟨by (with_reducible repeat (first | apply Kd.R_alloc | apply Kd.R_drewN | apply Kd.R_drew)); exact HO_3.out⟩, ⟨zB⟩⟩
            ·rw [if_neg c22] at H
             have c22b0 : decide (((rd_T24 t605 x5_2).f0) ≤ 16) = false := decide_eq_false c22
             clear c22
             (first | rw [c22b0] | (simp only [i64_w, i32_w]; rw [c22b0]) | skip)
             have H' := Aside0.mk H
             clear H
             have p613 : 0 ≤ (x5_2 : Int) := of_decide_eq_true (by first | (with_reducible assumption) | assumption)
             have q613 : x5_2 < (t605.length : Int) := of_decide_eq_true (by first | (with_reducible assumption) | assumption)
             obtain ⟨ad613, e613, hx613_0, hx613_1, hx613_2, hx613_3, hx613_4, hx613_5⟩ := at_T24 (Kd.R_reads' HO_3.out).2.2 x5_2 p613 q613
             obtain rfl : ad611 = ad613 := (by injection e613)
             replace p613 := eq_true p613
             replace q613 := eq_true q613
             go_wp2_with (first | ((with_reducible refine gate_callee (f := 11) rfl ?_); refine gl 51 Try.func11 #[.agg #[.int .i64 ((rd_T24 t605 x5_2).f0), .int .i64 ((rd_T24 t605 x5_2).f1), .int .i64 ((rd_T24 t605 x5_2).f2), .int .i64 ((rd_T24 t605 x5_2).f3), .int .i64 ((rd_T24 t605 x5_2).f4), .int .i64 ((rd_T24 t605 x5_2).f5)]] ?_; (with_reducible refine (impl_InsOk.calls ((rd_T24 t605 x5_2).f0) ((rd_T24 t605 x5_2).f1) ((rd_T24 t605 x5_2).f2) ((rd_T24 t605 x5_2).f3) ((rd_T24 t605 x5_2).f4) ((rd_T24 t605 x5_2).f5) true _ A20.out).mono ?_); rintro e w26 ⟨rfl, hb⟩; refine ⟨_, rfl, ?_⟩; replace HO_3 := Aside0.mk (Kd.R_below (by (with_reducible repeat (first | apply Kd.R_alloc | apply Kd.R_drewN | apply Kd.R_drew)); exact HO_3.out) hb); replace HB := zS hb; try clear hb))
             go_meet
             case rel => exact ⟨_, (false), (by first | rfl | (simp [*]; done)), (by first | rfl | (simp; done) | (simp [*]; done)), H', ⟨by have := HJ4.out; have := HK2.out; first | omega | exact Nat.le_refl _⟩, ⟨by (with_reducible repeat (first | apply Kd.R_alloc | apply Kd.R_drewN | apply Kd.R_drew)); exact HO_3.out⟩, ⟨zB⟩⟩
           ·replace c21 := Bool.eq_false_iff.mpr c21
            subst c21
            rw [if_neg (show ¬ (false = true) by decide)] at H
            have H' := Aside0.mk H
            clear H
            have p613 : 0 ≤ (x5_2 : Int) := of_decide_eq_true (by first | (with_reducible assumption) | assumption)
            have q613 : x5_2 < (t605.length : Int) := of_decide_eq_true (by first | (with_reducible assumption) | assumption)
            obtain ⟨ad613, e613, hx613_0, hx613_1, hx613_2, hx613_3, hx613_4, hx613_5⟩ := at_T24 (Kd.R_reads' HO_3.out).2.2 x5_2 p613 q613
            obtain rfl : ad611 = ad613 := (by injection e613)
            replace p613 := eq_true p613
            replace q613 := eq_true q613
            go_wp2_with (first | ((with_reducible refine gate_callee (f := 11) rfl ?_); refine gl 51 Try.func11 #[.agg #[.int .i64 ((rd_T24 t605 x5_2).f0), .int .i64 ((rd_T24 t605 x5_2).f1), .int .i64 ((rd_T24 t605 x5_2).f2), .int .i64 ((rd_T24 t605 x5_2).f3), .int .i64 ((rd_T24 t605 x5_2).f4), .int .i64 ((rd_T24 t605 x5_2).f5)]] ?_; (with_reducible refine (impl_InsOk.calls ((rd_T24 t605 x5_2).f0) ((rd_T24 t605 x5_2).f1) ((rd_T24 t605 x5_2).f2) ((rd_T24 t605 x5_2).f3) ((rd_T24 t605 x5_2).f4) ((rd_T24 t605 x5_2).f5) false _ A20.out).mono ?_); rintro e w27 ⟨rfl, hb⟩; refine ⟨_, rfl, ?_⟩; replace HO_3 := Aside0.mk (Kd.R_below (by (with_reducible repeat (first | apply Kd.R_alloc | apply Kd.R_drewN | apply Kd.R_drew)); exact HO_3.out) hb); replace HB := zS hb; try clear hb))
            go_meet
            case rel => exact ⟨_, (true), (by first | rfl | (simp [*]; done)), (by first | rfl | (simp; done) | (simp [*]; done)), H', ⟨by have := HJ4.out; have := HK2.out; first | omega | exact Nat.le_refl _⟩, ⟨by (with_reducible repeat (first | apply Kd.R_alloc | apply Kd.R_drewN | apply Kd.R_drew)); exact HO_3.out⟩, ⟨zB⟩⟩
          case rest =>
           clear HC19
           try clear c1
           try clear c2
           try clear c2b0
           try clear c2b1
           try clear p2 p2
           try clear c5
           try clear p6
           try clear q6
           try clear hx6
           try clear c10
           try clear c10b0
           try clear c10b1
           try clear c11
           try clear c13
           try clear c16
           try clear c16b0
           try clear c17
           try clear c17b0
           try clear c18
           try clear c18b0
           try clear c21
           try clear c22
           try clear c22b0
           try clear c23
           try clear c23b0
           try clear hx611_0
           try clear hx611_1
           try clear hx611_2
           try clear hx611_3
           try clear hx611_4
           try clear hx611_5
           try clear hx612_0
           try clear hx612_1
           try clear hx612_2
           try clear hx612_3
           try clear hx612_4
           try clear hx612_5
           try clear hx613_0
           try clear hx613_1
           try clear hx613_2
           try clear hx613_3
           try clear hx613_4
           try clear hx613_5
           try clear hx615_0
           try clear hx615_1
           try clear hx615_2
           try clear hx615_3
           try clear hx615_4
           try clear hx615_5
           try clear hx616_0
           try clear hx616_1
           try clear hx616_2
           try clear hx616_3
           try clear hx616_4
           try clear hx616_5
           try clear p611
           try clear p612
           try clear p613
           try clear p615
           try clear p616
           try clear q611
           try clear q612
           try clear q613
           try clear q615
           try clear q616
           obtain ⟨kq, x79_18, rfl, rfl, HA, HJ18, HO_3, HB⟩ := hcut
           cases kq with
           | zero => exact absurd HA.out (by simp [laws_FnForm.j2])
           | succ kj18 =>
            have H := HA.out
            clear HA
            simp only [laws_FnForm.j2] at H
            by_cases c28 : x79_18 = true
            ·subst c28
             rw [if_pos rfl] at H
             exact absurd H (by simp)
            ·replace c28 := Bool.eq_false_iff.mpr c28
             subst c28
             rw [if_neg (show ¬ (false = true) by decide)] at H
             have H' := Aside0.mk H
             clear H
             go_wp2
             go_roundg kj18
             case measure => have := HJ4.out; have := HK2.out; have := HJ18.out; omega
             case rel => exact ⟨(wrap64 (x5_2 + 1)), (by first | rfl | (simp; done) | (simp [*]; done)), H', ⟨by have := HJ4.out; have := HK2.out; have := HJ18.out; omega⟩, ⟨by (with_reducible repeat (first | apply Kd.R_alloc | apply Kd.R_drewN | apply Kd.R_drew)); exact HO_3.out⟩, ⟨zB⟩⟩
         ·rw [if_neg c18] at H
          have c18b0 : decide (12 ≤ ((rd_T24 t605 x5_2).f0)) = false := decide_eq_false c18
          clear c18
          replace H := Option.bind_eq_some_iff.mp H
          obtain ⟨t618, A290, H⟩ := H
          try dsimp only at H
          have A29 := Aside0.mk A290
          clear A290
          by_cases c30 : t618 = true
          ·subst c30
           rw [if_pos rfl] at H
           have H' := Aside0.mk H
           clear H
           have p611 : 0 ≤ (x5_2 : Int) := of_decide_eq_true (by first | (with_reducible assumption) | assumption)
           have q611 : x5_2 < (t605.length : Int) := of_decide_eq_true (by first | (with_reducible assumption) | assumption)
           obtain ⟨ad611, e611, hx611_0, hx611_1, hx611_2, hx611_3, hx611_4, hx611_5⟩ := at_T24 (Kd.R_reads' HO_3.out).2.2 x5_2 p611 q611
           cases e611
           replace p611 := eq_true p611
           replace q611 := eq_true q611
           have p617 : 0 ≤ (x5_2 : Int) := of_decide_eq_true (by first | (with_reducible assumption) | assumption)
           have q617 : x5_2 < (t605.length : Int) := of_decide_eq_true (by first | (with_reducible assumption) | assumption)
           obtain ⟨ad617, e617, hx617_0, hx617_1, hx617_2, hx617_3, hx617_4, hx617_5⟩ := at_T24 (Kd.R_reads' HO_3.out).2.2 x5_2 p617 q617
           obtain rfl : ad611 = ad617 := (by injection e617)
           replace p617 := eq_true p617
           replace q617 := eq_true q617
           go_wp2_with (first | ((with_reducible refine gate_callee (f := 11) rfl ?_); refine gl 51 Try.func11 #[.agg #[.int .i64 ((rd_T24 t605 x5_2).f0), .int .i64 ((rd_T24 t605 x5_2).f1), .int .i64 ((rd_T24 t605 x5_2).f2), .int .i64 ((rd_T24 t605 x5_2).f3), .int .i64 ((rd_T24 t605 x5_2).f4), .int .i64 ((rd_T24 t605 x5_2).f5)]] ?_; (with_reducible refine (impl_InsOk.calls ((rd_T24 t605 x5_2).f0) ((rd_T24 t605 x5_2).f1) ((rd_T24 t605 x5_2).f2) ((rd_T24 t605 x5_2).f3) ((rd_T24 t605 x5_2).f4) ((rd_T24 t605 x5_2).f5) true _ A29.out).mono ?_); rintro e w31 ⟨rfl, hb⟩; refine ⟨_, rfl, ?_⟩; replace HO_3 := Aside0.mk (Kd.R_below (by (with_reducible repeat (first | apply Kd.R_alloc | apply Kd.R_drewN | apply Kd.R_drew)); exact HO_3.out) hb); replace HB := zS hb; try clear hb))
           go_roundg k2
           case measure => have := HJ4.out; have := HK2.out; omega
           case rel => exact ⟨(wrap64 (x5_2 + 1)), (by first | rfl | (simp; done) | (simp [*]; done)), H', ⟨by have := HJ4.out; have := HK2.out; omega⟩, ⟨by (with_reducible repeat (first | apply Kd.R_alloc | apply Kd.R_drewN | apply Kd.R_drew)); exact HO_3.out⟩, ⟨zB⟩⟩
          ·replace c30 := Bool.eq_false_iff.mpr c30
           subst c30
           rw [if_neg (show ¬ (false = true) by decide)] at H
           exact absurd H (by simp)
        ·rw [if_neg c17] at H
         exact absurd H (by simp)
       ·rw [if_neg c16] at H
        have c16b0 : decide (x5_2 < (t605.length : Int)) = false := decide_eq_false c16
        clear c16
        obtain ⟨y619, hy619⟩ : ∃ y_ : List (S24), y_ = (([(⟨1, 0, (-1), 0, 0, 0⟩ : S24)] : List (S24))) := ⟨_, rfl⟩
        replace H : (if y619.length + t605.length < 2932031007402 then ((some (y619 ++ t605 : List (S24))).bind fun y622 => ((impl_ProgForm.f k2 y622).bind fun t625 => (some ((t625 == 0) == (decide ((y622.length : Int) ≤ 48)))))) else (none)) = some r := by first | (rw [hy619]; with_reducible exact H) | (have H2_ := (Option.bind_some _ _).symm.trans H; rw [hy619]; with_reducible exact H2_) | (have H2_ := (Option.bind_some _ _).symm.trans H; with_reducible exact H2_) | with_reducible exact H | (rw [hy619]; exact H) | exact H
        have Ny619 := Aside0.mk hy619
        clear hy619
        by_cases c32 : y619.length + t605.length < 2932031007402
        ·rw [if_pos c32] at H
         have LMc32 := Aside0.mk c32
         clear c32
         obtain ⟨y622, hy622⟩ : ∃ y_ : List (S24), y_ = (y619 ++ t605) := ⟨_, rfl⟩
         replace H : ((impl_ProgForm.f k2 y622).bind fun t625 => (some ((t625 == 0) == (decide ((y622.length : Int) ≤ 48))))) = some r := by first | (rw [hy622]; with_reducible exact H) | (have H2_ := (Option.bind_some _ _).symm.trans H; rw [hy622]; with_reducible exact H2_) | (have H2_ := (Option.bind_some _ _).symm.trans H; with_reducible exact H2_) | with_reducible exact H | (rw [hy622]; exact H) | exact H
         have Ny622 := Aside0.mk hy622
         clear hy622
         replace H := Option.bind_eq_some_iff.mp H
         obtain ⟨t625, A330, H⟩ := H
         try dsimp only at H
         have A33 := Aside0.mk A330
         clear A330
         obtain rfl := Option.some.inj H
         go_wp2_with (first | ((with_reducible refine gate_dst (N := 81) rfl ?_); (try (refine gate_guard (by rfl) ?_; dsimp only)); refine Kd.R_lit k24 _ 24 ?hg (N := 81) ?hd (xs := ([(⟨1, 0, (-1), 0, 0, 0⟩ : S24)] : List (S24))) (inner := [.int .i64 1, .int .i64 0, .int .i64 (-1), .int .i64 0, .int .i64 0, .int .i64 0]) (ok := fun _ => True) (okp := fun _ => True) ?hr ?hp (fun _ hk => hk) trivial (Below.refl _ _) (Nat.le_refl _) (by simp) ?_; (case hd => rfl); (case hg => rfl); (case hr => first | (go_simp; done) | (go_simp; rfl)); (case hp => exact (Reps.c6 (show Kd.M k24 _ _ _ (⟨1, 0, (-1), 0, 0, 0⟩ : S24) [.int .i64 1, .int .i64 0, .int .i64 (-1), .int .i64 0, .int .i64 0, .int .i64 0] from (k24_mkM _ _ _ (⟨1, 0, (-1), 0, 0, 0⟩ : S24) )) (Reps.none _ _))); intro v620 w34 ho35 hb hg_ hnew_; clear hg_ hnew_; (first | rw [← Ny619.out] at ho35 | (simp only [Int.reduceToNat] at ho35; rw [← Ny619.out] at ho35)); have HO621 := Aside0.mk (Kd.R_lower (Kd.R_new' ho35 (Kd.R_lt (by (with_reducible repeat (first | apply Kd.R_alloc | apply Kd.R_drewN | apply Kd.R_drew)); exact HO_3.out))) (below_size zB)); replace HO_3 := Aside0.mk (Kd.R_elder' (by (with_reducible repeat (first | apply Kd.R_alloc | apply Kd.R_drewN | apply Kd.R_drew)); exact HO_3.out) (Kd.R_base ho35) hb); replace HB := zS hb; clear hb ho35) | ((with_reducible refine gate_builtin (b := .append) (xs := #[.tmp 81, .tmp 82]) rfl ?_); (try (refine gate_guard (by rfl) ?_; dsimp only)); at_builtin; refine Kd.R_append_rows k24 (w0 := w) w.heap.size rfl (.tmp 81) (.tmp 82) 32 24 (.agg #[(.int .i64 0), (.int .i64 0), (.int .i64 0), (.int .i64 0), (.int .i64 0), (.int .i64 0)]) 48 rfl Try.underlying32 info24 rfl (by decide) (by omega) v620 y619 t605 _ _ _ (fun k_ => some k_ ≠ (.slice Ao7 t605.length co7 : Value).ownBlock) (fun _ => False) rfl rfl ?aO ?aR (fun _ _ h => h) (fun _ h => h.elim) ?aF ?aB ?aS ?aL ?_; (case aR => repeat (first | exact (Kd.R_reads' HO_3.out).2.2 | (with_reducible refine Kd.C_alloc ?_ _) | (with_reducible refine Kd.C_drewN ?_ _) | (with_reducible refine Kd.C_drew ?_))); (case aB => exact zB); (case aF => exact (fun k_ hk => Kd.fresh' (Kd.R_lt (by (with_reducible repeat (first | apply Kd.R_alloc | apply Kd.R_drewN | apply Kd.R_drew)); exact HO_3.out)) k_ hk)); (case aO => exact (by (with_reducible repeat (first | apply Kd.R_alloc | apply Kd.R_drewN | apply Kd.R_drew)); exact Kd.R_mono HO621.out (fun _ hk => hk.2))); (case aS => exact (below_size zB)); (case aL => have := LMc32.out; omega); intro v623 w36 ho hb hg hat; rw [← Ny622.out] at ho; have n0_ := Aside0.mk (Kd.R_after (ok := (fun _ => True)) (by (with_reducible repeat (first | apply Kd.R_alloc | apply Kd.R_drewN | apply Kd.R_drew)); exact HO_3.out) hg hat); have n1_ := Aside0.mk (hb); have n2_ := Aside0.mk (ho); clear HO_3; clear HB; clear HO621; have HO_3 := n0_; have HB := n1_; have HO624 := n2_; clear n0_ n1_ n2_; clear ho hb hg hat; obtain ⟨Ao37, co37, eo37⟩ := Kd.R_slice HO624.out; subst eo37) | ((with_reducible refine gate_callee (f := 17) rfl ?_); refine gl 85 Try.func17 #[.slice Ao37 y622.length co37] ?_; (with_reducible refine (impl_ProgForm.calls k2 _ _ y622 t625 _ ?side1 ?side2 A33.out).mono ?_); (case side1 => repeat (first | exact (Kd.R_reads' HO624.out).2.2 | (with_reducible refine Kd.C_alloc ?_ _) | (with_reducible refine Kd.C_drewN ?_ _) | (with_reducible refine Kd.C_drew ?_))); (case side2 => exact (Kd.R_reads' HO624.out).2.1); rintro e w38 ⟨rfl, hb⟩; refine ⟨_, rfl, ?_⟩; replace HO_3 := Aside0.mk (Kd.R_below (by (with_reducible repeat (first | apply Kd.R_alloc | apply Kd.R_drewN | apply Kd.R_drew)); exact HO_3.out) hb); replace HO624 := Aside0.mk (Kd.R_below (by (with_reducible repeat (first | apply Kd.R_alloc | apply Kd.R_drewN | apply Kd.R_drew)); exact HO624.out) hb); replace HB := zS hb; try clear hb))
         go_ret
         exact ⟨zR, zB⟩
        ·rw [if_neg c32] at H
         exact absurd H (by simp)

/-- THE ONE PURE STATEMENT of laws_FnForm: yours. -/
def laws_FnForm.Pure : Prop := ∀ (l0 : List Int), l0.length ≤ maxLen → l0.length * 1 ≤ 140737488351232 → (∀ x ∈ l0, (Lit.int .u8 x).wf = true) → ∃ k, laws_FnForm.f k l0 = some true
theorem laws_FnForm.walk (P : laws_FnForm.Pure) (a0 : Option Addr) (len0 cap0 : Nat) (z0 : List Int) (w : World) (w0 : (a0 = none ∧ len0 = 0 ∧ cap0 = 0 ∧ z0 = []) ∨ ∃ x, a0 = some x ∧ len0 ≤ cap0 ∧ cap0 ≤ maxLen ∧ z0.length = cap0 ∧ (∀ i, i < z0.length → w.cell? (x.add i) = some (.int .u8 (z0.getD i 0))) ∧ ∀ n ∈ z0, (Lit.int .u8 n).wf = true) (y0 : len0 * 1 ≤ 140737488351232) :
  Calls Try.prog 5 #[.slice a0 len0 cap0] w fun e w' => e = .returned (.bool true) ∧ Below w.heap.size w w' := by
 obtain ⟨l0, rfl, hr0, hm0, hw0, hc0⟩ := ReadsInt.ofRowC w0
 obtain ⟨k, h⟩ := P l0 hm0 y0 hw0
 refine (laws_FnForm.calls k _ _ l0 true w (Kd.C_of_reads (d := (0 : Int)) (h1 := fun _ => rfl) hr0) hc0 h).mono ?_
 rintro e w' ⟨rfl, hd⟩
 exact ⟨rfl, hd⟩

end Go.Proofs.Ythhcdkmfpdpieaa.Q
