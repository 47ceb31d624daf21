/- The machine's side of this seat's laws: Go functions as Lean functions, and their contracts. By a program of this work over the kit's print. -/
import Derived.Test.YtdfgaaeieneaoaaQ0
import Derived.Test.YtdfgaaeieneaoaaQ13
import Derived.Test.YtdfgaaeieneaoaaQ17
import Derived.Test.YtdfgaaeieneaoaaQ18
import Derived.Test.YtdfgaaeieneaoaaQ19
import Derived.Test.YtdfgaaeieneaoaaQ20
namespace Go.Proofs.Ytdfgaaeieneaoaa.Q
open Go.RowKit Go.Proofs.YtdfgaaeieneaoaaW.PrintWords Go.Proofs.YtdfgaaeieneaoaaW.PrintLast Go.Proofs.YtdfgaaeieneaoaaW.PrintMore
attribute [local go_sem] max2_int min2_int max_two min_two max_three min_three max_four min_four Go.Proofs.YtdfgaaeieneaoaaN.not_i64 Go.Proofs.YtdfgaaeieneaoaaN.isSome_setCell   -- for this text's walks alone
set_option linter.unusedVariables false
set_option linter.unusedSimpArgs false
theorem dz21 {p : Prop} [Decidable p] (h : decide p = true := by first | (with_reducible assumption) | assumption) : p := of_decide_eq_true h
theorem zK21 {w W : World} {g : Nat} {r : Option Nat} (h : KeepBut w W g r := by repeat (first | (with_reducible first | exact HK.out | apply KeepBut.set_ | apply keep_drewN | apply keep_drew | apply keep_alloc) | exact HK.out)) : KeepBut w W g r := h
theorem zI21HI0 {w0 W : World} {g : Nat} {f0 : List Int} {f1 : Int} (h : IsS69 w0 W g f0 f1 := by repeat (first | (with_reducible first | exact HI0.out | apply IsS69.alloc | apply IsS69.drewN | apply IsS69.drew | apply IsS69.set_1) | exact HI0.out)) : IsS69 w0 W g f0 f1 := h
theorem zB21HI0 {b : Nat} {w W : World} (h : Below b w W := by repeat (first | (with_reducible first | exact HB.out | apply below_alloc | apply pw_below_drewN | apply below_drew1 | refine below_set ?_ (IsS69.ge HI0.out)) | exact HB.out)) : Below b w W := h
def spec_l20Prog.j0 : Nat → List (S38) → List Int → Int → Option ((List (S38)) × Int)
 | 0, _, _, _ => none
 | k + 1, x3, x1000, x1001 => (spec_l20Rd_pick.f k x1000 x1001 4).bind fun bt597 => (if bt597.1 = 0 then ((spec_l20Rd_pick.f k x1000 bt597.2 (x3.length : Int)).bind fun bt599 => ((spec_l20Rd_pick.f k x1000 bt599.2 6).bind fun bt601 => (if bt601.1 = 0 then ((spec_l20Imm.f k x1000 bt601.2).bind fun bt603 => (if 0 ≤ bt599.1 then (if bt599.1 < (x3.length : Int) then (some ((x3.set (bt599.1 : Int).toNat (⟨(rd_T38 x3 bt599.1).f0, (rd_T38 x3 bt599.1).f1, (rd_T38 x3 bt599.1).f2, (rd_T38 x3 bt599.1).f3, bt603.1, (rd_T38 x3 bt599.1).f5⟩ : S38)), bt603.2)) else (none)) else (none))) else (if bt601.1 = 1 then ((spec_l20Rd_one.f k x1000 bt601.2 (([(-1), 0, 1, 2, (-2), 12, 200] : List Int))).bind fun bt609 => (if 0 ≤ bt599.1 then (if bt599.1 < (x3.length : Int) then (some ((x3.set (bt599.1 : Int).toNat (⟨(rd_T38 x3 bt599.1).f0, (rd_T38 x3 bt599.1).f1, (rd_T38 x3 bt599.1).f2, bt609.1, (rd_T38 x3 bt599.1).f4, (rd_T38 x3 bt599.1).f5⟩ : S38)), bt609.2)) else (none)) else (none))) else (if bt601.1 = 2 then ((spec_l20Rd_pick.f k x1000 bt601.2 12).bind fun bt612 => (if 0 ≤ bt599.1 then (if bt599.1 < (x3.length : Int) then (some ((x3.set (bt599.1 : Int).toNat (⟨(rd_T38 x3 bt599.1).f0, bt612.1, (rd_T38 x3 bt599.1).f2, (rd_T38 x3 bt599.1).f3, (rd_T38 x3 bt599.1).f4, (rd_T38 x3 bt599.1).f5⟩ : S38)), bt612.2)) else (none)) else (none))) else (if bt601.1 = 3 then ((spec_l20Rd_pick.f k x1000 bt601.2 22).bind fun bt615 => (if 0 ≤ bt599.1 then (if bt599.1 < (x3.length : Int) then (some ((x3.set (bt599.1 : Int).toNat (⟨bt615.1, (rd_T38 x3 bt599.1).f1, (rd_T38 x3 bt599.1).f2, (rd_T38 x3 bt599.1).f3, (rd_T38 x3 bt599.1).f4, (rd_T38 x3 bt599.1).f5⟩ : S38)), bt615.2)) else (none)) else (none))) else (if bt601.1 = 4 then ((spec_l20Rd_pick.f k x1000 bt601.2 12).bind fun bt618 => (if 0 ≤ bt599.1 then (if bt599.1 < (x3.length : Int) then (some ((x3.set (bt599.1 : Int).toNat (⟨(rd_T38 x3 bt599.1).f0, (rd_T38 x3 bt599.1).f1, wrap64 (bt618.1 - 1), (rd_T38 x3 bt599.1).f3, (rd_T38 x3 bt599.1).f4, (rd_T38 x3 bt599.1).f5⟩ : S38)), bt618.2)) else (none)) else (none))) else ((some (([] : List (S38)) : List (S38))).bind fun y621 => (if 0 ≤ bt599.1 then (if bt599.1 ≤ (x3.length : Int) then ((some (x3.take (bt599.1 : Int).toNat : List (S38))).bind fun y624 => (if y621.length + y624.length < 2932031007402 then ((some (y621 ++ y624 : List (S38))).bind fun y629 => ((spec_l20Alu.f k x1000 bt601.2).bind fun bt632 => (if y629.length < 2932031007402 then ((some (y629 ++ [(⟨bt632.1, bt632.2.1, bt632.2.2.1, bt632.2.2.2.1, bt632.2.2.2.2.1, bt632.2.2.2.2.2.1⟩ : S38)] : List (S38))).bind fun y639 => ((some (x3.drop (bt599.1 : Int).toNat : List (S38))).bind fun y642 => (if y639.length + y642.length < 2932031007402 then (some ((y639 ++ y642), bt632.2.2.2.2.2.2)) else (none)))) else (none)))) else (none))) else (none)) else (none)))))))))) else (some (x3, bt597.2)))
def spec_l20Prog.f (k : Nat) (s0_0 : List Int) (s0_1 : Int) : Option ((List (S38)) × Int) := (spec_l20Make.f k s0_0 s0_1).bind fun bt582 => ((spec_l20Rd_pick.f k s0_0 bt582.2 2).bind fun bt586 => (if bt586.1 = 0 then ((spec_l20Lines.f).bind fun t588 => ((spec_l20Rd_pick.f k s0_0 bt586.2 (t588.length : Int)).bind fun bt591 => (if 0 ≤ bt591.1 then (if bt591.1 < (t588.length : Int) then ((spec_l20Read.f k (rd_L6 t588 bt591.1)).bind fun t594 => (spec_l20Prog.j0 k t594 s0_0 bt591.2)) else (none)) else (none)))) else (spec_l20Prog.j0 k bt582.1 s0_0 bt586.2)))
def spec_l20Prog.T8 : Bool × List (List Nat × List Nat) := (true, [([], []), ([], []), ([], []), ([1, 2], [1, 2]), ([0, 3], [0, 3]), ([], []), ([5, 4], [5]), ([6], [6]), ([4, 7, 6], [4, 7]), ([], []), ([], []), ([9, 10], [9, 10]), ([8, 11, 8], [8, 11]), ([12, 12, 0, 1, 2, 3, 4, 5, 6, 7, 8, 9, 10, 11, 12], [12])])
def spec_l20Prog.B8 : List Nat := [0, 0, 0, 6, 15, 0, 63, 127, 255, 0, 0, 1536, 4095, 8191]
theorem spec_l20Prog.tab8 : rtab .any (opsOf Try.f35 8) = spec_l20Prog.T8 := by kernel_rfl
theorem spec_l20Prog.bits8 : waitsOk spec_l20Prog.T8.2 spec_l20Prog.B8 = true := by kernel_rfl
set_option maxHeartbeats 8000000 in
set_option maxRecDepth 100000 in
theorem spec_l20Prog.calls (k : Nat) (g : Nat) (s0_0 : List Int) (s0_1 : Int) (r1 : List (S38)) (r2 : Int) (w0 w : World) (hI : IsS69 w0 w g s0_0 s0_1) (hB : Below w0.heap.size w0 w) (h : spec_l20Prog.f k s0_0 s0_1 = some (r1, r2)) :
  Calls Try.prog 35 #[.pointer (some ⟨g, 0, none⟩)] w fun e w' => ∃ v0_ : Value, e = .returned (v0_) ∧ Kd.R k38 38 w' w.heap.size (fun _ => True) v0_ r1 ∧ IsS69 w0 w' g s0_0 r2 ∧ Below w0.heap.size w0 w' ∧ KeepBut w w' g none := by
 have HI0 := Aside0.mk hI
 have HK := Aside0.mk (KeepBut.refl w g none)
 have HL := Aside0.mk hB.size
 clear hI
 have HW0 := Aside0.mk hB.size
 have HB := Aside0.mk hB
 clear hB
 have H : ((spec_l20Make.f k s0_0 s0_1).bind fun bt582 => ((spec_l20Rd_pick.f k s0_0 bt582.2 2).bind fun bt586 => (if bt586.1 = 0 then ((spec_l20Lines.f).bind fun t588 => ((spec_l20Rd_pick.f k s0_0 bt586.2 (t588.length : Int)).bind fun bt591 => (if 0 ≤ bt591.1 then (if bt591.1 < (t588.length : Int) then ((spec_l20Read.f k (rd_L6 t588 bt591.1)).bind fun t594 => (spec_l20Prog.j0 k t594 s0_0 bt591.2)) else (none)) else (none)))) else (spec_l20Prog.j0 k bt582.1 s0_0 bt586.2)))) = some (r1, r2) := h
 clear h
 replace H := Option.bind_eq_some_iff.mp H
 obtain ⟨⟨t582, t585⟩, A20, H⟩ := H
 try dsimp only at H
 have A2 := Aside0.mk A20
 clear A20
 replace H := Option.bind_eq_some_iff.mp H
 obtain ⟨⟨t586, t587⟩, A30, H⟩ := H
 try dsimp only at H
 have A3 := Aside0.mk A30
 clear A30
 have HC4 := Aside0.mk H
 clear H
 go_enter Try.func35, Try.ntmps35
 go_upto_if 10 with (first | ((with_reducible refine gate_callee (f := 49) rfl ?_); refine gl 7 Try.func49 #[.pointer (some ⟨g, 0, none⟩)] ?_; (with_reducible refine (spec_l20Make.calls k g s0_0 s0_1 t582 t585 w0 _ ?side1 ?side2 A2.out).mono ?_); (case side1 => exact zI21HI0); (case side2 => exact zB21HI0); rintro e w5 ⟨v583, rfl, ho0, hi, hb, hk⟩; refine ⟨_, rfl, ?_⟩; have HO584 := Aside0.mk (Kd.R_lower ho0 (keep_size (w := w) (g := g) (row := none) zK21)); replace HK := Aside0.mk (KeepBut.trans zK21 hk (.inl rfl)); replace HB := Aside0.mk hb; replace HI0 := Aside0.mk hi; (try clear hb); (try clear hb2); (try clear hk); (try clear hi); (try clear ho0)) | ((with_reducible refine gate_callee (f := 36) rfl ?_); refine gl 9 Try.func36 #[.pointer (some ⟨g, 0, none⟩), .int .i64 2] ?_; (with_reducible refine (spec_l20Rd_pick.calls k g s0_0 t585 2 t586 t587 w0 _ ?side1 ?side2 A3.out).mono ?_); (case side1 => exact zI21HI0); (case side2 => exact zB21HI0); rintro e w6 ⟨rfl, hi, hb, hk⟩; refine ⟨_, rfl, ?_⟩; replace HO584 := Aside0.mk (Kd.R_mono (Kd.R_keep (IsS69.apart (show IsS69 w0 _ g s0_0 t585 from zI21HI0) (by (with_reducible repeat (first | apply Kd.R_alloc | apply Kd.R_drewN | apply Kd.R_drew)); exact HO584.out) (by decide)) hk (fun _ h => h.2)) (fun _ h => h.1)); replace HK := Aside0.mk (KeepBut.trans zK21 hk (.inl rfl)); replace HB := Aside0.mk hb; replace HI0 := Aside0.mk hi; (try clear hb); (try clear hb2); (try clear hk); (try clear hi)))
 (try simp only [Act.put, List.setIfInBounds_toArray, List.set_cons_zero, List.set_cons_succ])
 go_cut [3] (fun v3 wc => ∃ (kq : Nat) (x3_3 : List (S38)) (x1001_3 : Int), Aside0 (spec_l20Prog.j0 kq x3_3 s0_0 x1001_3 = some (r1, r2)) ∧ Aside0 (kq ≤ k) ∧ Aside0 (Kd.R k38 38 wc w.heap.size (fun _ => True) v3 x3_3) ∧ Aside0 (IsS69 w0 wc g s0_0 x1001_3) ∧ Aside0 (KeepBut w wc g none) ∧ Aside0 (Below w0.heap.size w0 wc))
 case first =>
  have H := HC4.out
  clear HC4
  by_cases c7 : t586 = 0
  ·rw [if_pos c7] at H
   have c7b0 : (t586 == 0) = true := beq_iff_eq.mpr c7
   have c7b1 : (t586 != 0) = false := bne_eq_false_iff_eq.mpr c7
   clear c7
   (first | rw [c7b0] | (simp only [i64_w, i32_w]; rw [c7b0]) | skip)
   replace H := Option.bind_eq_some_iff.mp H
   obtain ⟨t588, A80, H⟩ := H
   try dsimp only at H
   have A8 := Aside0.mk A80
   clear A80
   replace H := Option.bind_eq_some_iff.mp H
   obtain ⟨⟨t591, t592⟩, A90, H⟩ := H
   try dsimp only at H
   have A9 := Aside0.mk A90
   clear A90
   by_cases c10 : 0 ≤ t591
   ·rw [if_pos c10] at H
    have c10b0 : decide (0 ≤ t591) = true := decide_eq_true c10
    clear c10
    by_cases c11 : t591 < (t588.length : Int)
    ·rw [if_pos c11] at H
     have c11b0 : decide (t591 < (t588.length : Int)) = true := decide_eq_true c11
     clear c11
     replace H := Option.bind_eq_some_iff.mp H
     obtain ⟨t594, A120, H⟩ := H
     try dsimp only at H
     have A12 := Aside0.mk A120
     clear A120
     have H' := Aside0.mk H
     clear H
     go_wp2_with (first | ((with_reducible refine gate_callee (f := 50) rfl ?_); refine gl 11 Try.func50 #[] ?_; (with_reducible refine (spec_l20Lines.calls  t588 _ A8.out).mono ?_); rintro e w13 ⟨v589, rfl, ho0, hb⟩; refine ⟨_, rfl, ?_⟩; have HO590 := Aside0.mk (Kd.N_lower (Kd.N_mono (ok' := fun k_ => some k_ ≠ (v583 : Value).ownBlock ∧ k_ ≠ g) ho0 (fun k_ hk_ => ⟨(Kd.fresh' (Kd.R_lt (by (with_reducible repeat (first | apply Kd.R_alloc | apply Kd.R_drewN | apply Kd.R_drew)); exact HO584.out)) k_ hk_), (IsS69.fresh zI21HI0 k_ hk_)⟩)) (keep_size (w := w) (g := g) (row := none) zK21)); replace HO584 := Aside0.mk (Kd.R_below (by (with_reducible repeat (first | apply Kd.R_alloc | apply Kd.R_drewN | apply Kd.R_drew)); exact HO584.out) hb); replace HK := Aside0.mk (KeepBut.trans zK21 (KeepBut.of_below hb g none) (.inl rfl)); replace HB := Aside0.mk (below_step (zB21HI0) hb); replace HI0 := Aside0.mk (IsS69.below zI21HI0 hb); (try clear hb); (try clear hb2); (try clear hk); (try clear hi); (try clear ho0); obtain ⟨Ao14, co14, eo14⟩ := Kd.N_slice HO590.out; subst eo14) | ((with_reducible refine gate_callee (f := 36) rfl ?_); refine gl 16 Try.func36 #[.pointer (some ⟨g, 0, none⟩), .int .i64 (t588.length : Int)] ?_; (with_reducible refine (spec_l20Rd_pick.calls k g s0_0 t587 (t588.length : Int) t591 t592 w0 _ ?side1 ?side2 A9.out).mono ?_); (case side1 => exact zI21HI0); (case side2 => exact zB21HI0); rintro e w15 ⟨rfl, hi, hb, hk⟩; refine ⟨_, rfl, ?_⟩; replace HO584 := Aside0.mk (Kd.R_mono (Kd.R_keep (IsS69.apart (show IsS69 w0 _ g s0_0 t587 from zI21HI0) (by (with_reducible repeat (first | apply Kd.R_alloc | apply Kd.R_drewN | apply Kd.R_drew)); exact HO584.out) (by decide)) hk (fun _ h => h.2)) (fun _ h => h.1)); replace HO590 := Aside0.mk (Kd.N_mono (Kd.N_keep (Kd.N_mono (ok := fun k_ => (some k_ ≠ (v583 : Value).ownBlock ∧ k_ ≠ g)) (by (with_reducible repeat (first | apply Kd.N_alloc | apply Kd.N_drewN | apply Kd.N_drew)); exact HO590.out) (fun k_ hk_ => (⟨hk_, hk_.2⟩ : _ ∧ k_ ≠ g))) hk (fun _ h => h.2)) (fun _ h => h.1)); replace HK := Aside0.mk (KeepBut.trans zK21 hk (.inl rfl)); replace HB := Aside0.mk hb; replace HI0 := Aside0.mk hi; (try clear hb); (try clear hb2); (try clear hk); (try clear hi); have p593 : 0 ≤ (t591 : Int) := dz21; have q593 : t591 < (t588.length : Int) := dz21; obtain ⟨ad593, A593_0, c593_0, e593, hx593_0, hl593_0, hi593_0⟩ := at_L6 (Kd.N_reads' HO590.out).2.2 t591 p593 q593; cases e593; obtain ⟨ce593, hce593, hMe593, hcc593⟩ := Kd.N_get HO590.out [] t591 p593 (by first | exact q593 | exact dz21 | (have e_ := (Kd.N_reads' HO590.out).1; omega)); obtain ⟨ua593_0, uc593_0, rfl, ul593_0, ge593_0⟩ := Kd.FK_slice_open hMe593; have hv593_0 := hcc593 0 _ rfl; rw [Nat.add_zero, show ((Kd.slice 9 Kd.string)).sz = 1 from rfl, Nat.mul_one] at hv593_0; replace hv593_0 := Option.some.inj (hv593_0.symm.trans hx593_0); injection hv593_0 with hva_ hvn_ hvc_; rw [hva_] at ge593_0; rw [hvc_] at ul593_0; have HL593_0 := Aside0.mk (show Kd.V Kd.string 9 _ w.heap.size _ _ (rd_L6 t588 t591) from Kd.V_mk ul593_0 ge593_0); clear hva_ hvn_ hvc_ ge593_0 ul593_0; clear hcc593 hce593; have HR593_0 := Aside0.mk hi593_0; have HC593_0 := Aside0.mk hl593_0; clear hi593_0 hl593_0; replace p593 := eq_true p593; replace q593 := eq_true q593) | ((with_reducible refine gate_callee (f := 51) rfl ?_); refine gl 19 Try.func51 #[.slice A593_0 (rd_L6 t588 t591).length c593_0] ?_; (with_reducible refine (spec_l20Read.calls k _ _ (rd_L6 t588 t591) t594 _ ?side1 ?side2 A12.out).mono ?_); (case side1 => repeat (first | exact (by repeat (first | (with_reducible exact HR593_0.out) | (with_reducible refine Kd.C_alloc ?_ _) | (with_reducible refine Kd.C_drewN ?_ _) | (with_reducible refine Kd.C_drew ?_) | exact HR593_0.out)) | (with_reducible refine Kd.C_alloc ?_ _) | (with_reducible refine Kd.C_drewN ?_ _) | (with_reducible refine Kd.C_drew ?_))); (case side2 => exact HC593_0.out); rintro e w16 ⟨v595, rfl, ho0, hb⟩; refine ⟨_, rfl, ?_⟩; replace HO590 := Aside0.mk (Kd.N_elder' (by (with_reducible repeat (first | apply Kd.N_alloc | apply Kd.N_drewN | apply Kd.N_drew)); exact HO590.out) (Kd.R_base ho0) hb); replace HL593_0 := Aside0.mk (Kd.V_elder' (by (with_reducible repeat (first | apply Kd.V_alloc | apply Kd.V_drewN | apply Kd.V_drew)); exact HL593_0.out) (Kd.R_base ho0) hb); have HO596 := Aside0.mk (Kd.R_lower (Kd.R_new' ho0 (Kd.R_lt (by (with_reducible repeat (first | apply Kd.R_alloc | apply Kd.R_drewN | apply Kd.R_drew)); exact HO584.out))) (keep_size (w := w) (g := g) (row := none) zK21)); replace HO584 := Aside0.mk (Kd.R_elder' (by (with_reducible repeat (first | apply Kd.R_alloc | apply Kd.R_drewN | apply Kd.R_drew)); exact HO584.out) (Kd.R_base ho0) hb); replace HR593_0 := Aside0.mk (Kd.C_below (by repeat (first | (with_reducible exact HR593_0.out) | (with_reducible refine Kd.C_alloc ?_ _) | (with_reducible refine Kd.C_drewN ?_ _) | (with_reducible refine Kd.C_drew ?_) | exact HR593_0.out)) hb); replace HK := Aside0.mk (KeepBut.trans zK21 (KeepBut.of_below hb g none) (.inl rfl)); replace HB := Aside0.mk (below_step (zB21HI0) hb); replace HI0 := Aside0.mk (IsS69.below zI21HI0 hb); (try clear hb); (try clear hb2); (try clear hk); (try clear hi); (try clear ho0)))
     go_meet
     case rel => exact ⟨_, (t594), (t592), H', ⟨by first | omega | exact Nat.le_refl _⟩, ⟨by (with_reducible repeat (first | apply Kd.R_alloc | apply Kd.R_drewN | apply Kd.R_drew)); exact Kd.R_mono HO596.out (fun _ hk => trivial)⟩, ⟨zI21HI0⟩, ⟨zK21⟩, ⟨zB21HI0⟩⟩
    ·rw [if_neg c11] at H
     exact absurd H (by simp)
   ·rw [if_neg c10] at H
    exact absurd H (by simp)
  ·rw [if_neg c7] at H
   have c7b0 : (t586 == 0) = false := beq_eq_false_iff_ne.mpr c7
   have c7b1 : (t586 != 0) = true := bne_iff_ne.mpr c7
   (first | rw [c7b0] | (simp only [i64_w, i32_w]; rw [c7b0]) | skip)
   have H' := Aside0.mk H
   clear H
   go_wp2
   go_meet
   case rel => exact ⟨_, (t582), (t587), H', ⟨by first | omega | exact Nat.le_refl _⟩, ⟨by (with_reducible repeat (first | apply Kd.R_alloc | apply Kd.R_drewN | apply Kd.R_drew)); exact HO584.out⟩, ⟨zI21HI0⟩, ⟨zK21⟩, ⟨zB21HI0⟩⟩
 case rest =>
  clear HC4
  try clear c1
  try clear p2
  try clear c3
  try clear c4
  try clear c5
  try clear p5
  try clear q5
  try clear hx5
  try clear c7
  try clear c7b0
  try clear c7b1
  try clear c10
  try clear c10b0
  try clear c11
  try clear c11b0
  try clear hx593_0
  try clear p593
  try clear q593
  obtain ⟨kq, x3_3, x1001_3, HA, HJ3, HO_3, HI0, HK, HB⟩ := hcut
  cases kq with
  | zero => exact absurd HA.out (by simp [spec_l20Prog.j0])
  | succ kj3 =>
   have H := HA.out
   clear HA
   simp only [spec_l20Prog.j0] at H
   replace H := Option.bind_eq_some_iff.mp H
   obtain ⟨⟨t597, t598⟩, A170, H⟩ := H
   try dsimp only at H
   have A17 := Aside0.mk A170
   clear A170
   by_cases c18 : t597 = 0
   ·rw [if_pos c18] at H
    have c18b0 : (t597 == 0) = true := beq_iff_eq.mpr c18
    have c18b1 : (t597 != 0) = false := bne_eq_false_iff_eq.mpr c18
    clear c18
    replace H := Option.bind_eq_some_iff.mp H
    obtain ⟨⟨t599, t600⟩, A190, H⟩ := H
    try dsimp only at H
    have A19 := Aside0.mk A190
    clear A190
    replace H := Option.bind_eq_some_iff.mp H
    obtain ⟨⟨t601, t602⟩, A200, H⟩ := H
    try dsimp only at H
    have A20 := Aside0.mk A200
    clear A200
    by_cases c21 : t601 = 0
    ·rw [if_pos c21] at H
     have c21b0 : (t601 == 0) = true := beq_iff_eq.mpr c21
     have c21b1 : (t601 != 0) = false := bne_eq_false_iff_eq.mpr c21
     clear c21
     replace H := Option.bind_eq_some_iff.mp H
     obtain ⟨⟨t603, t604⟩, A220, H⟩ := H
     try dsimp only at H
     have A22 := Aside0.mk A220
     clear A220
     by_cases c23 : 0 ≤ t599
     ·rw [if_pos c23] at H
      have c23b0 : decide (0 ≤ t599) = true := decide_eq_true c23
      clear c23
      by_cases c24 : t599 < (x3_3.length : Int)
      ·rw [if_pos c24] at H
       have c24b0 : decide (t599 < (x3_3.length : Int)) = true := decide_eq_true c24
       clear c24
       obtain ⟨y605, hy605⟩ : ∃ y_ : List (S38), y_ = (x3_3.set (t599 : Int).toNat (⟨(rd_T38 x3_3 t599).f0, (rd_T38 x3_3 t599).f1, (rd_T38 x3_3 t599).f2, (rd_T38 x3_3 t599).f3, t603, (rd_T38 x3_3 t599).f5⟩ : S38)) := ⟨_, rfl⟩
       replace H : (some (y605, t604)) = some (r1, r2) := by first | (rw [hy605]; with_reducible exact H) | (have H2_ := (Option.bind_some _ _).symm.trans H; rw [hy605]; with_reducible exact H2_) | (have H2_ := (Option.bind_some _ _).symm.trans H; with_reducible exact H2_) | with_reducible exact H | (rw [hy605]; exact H) | exact H
       have Ny605 := Aside0.mk hy605
       clear hy605
       simp only [Option.some.injEq, Prod.mk.injEq] at H
       obtain ⟨rfl, rfl⟩ := H
       go_wp2_with (first | ((with_reducible refine gate_callee (f := 36) rfl ?_); refine gl 21 Try.func36 #[.pointer (some ⟨g, 0, none⟩), .int .i64 4] ?_; (with_reducible refine (spec_l20Rd_pick.calls kj3 g s0_0 x1001_3 4 t597 t598 w0 _ ?side1 ?side2 A17.out).mono ?_); (case side1 => exact zI21HI0); (case side2 => exact zB21HI0); rintro e w26 ⟨rfl, hi, hb, hk⟩; refine ⟨_, rfl, ?_⟩; replace HO_3 := Aside0.mk (Kd.R_mono (Kd.R_keep (IsS69.apart (show IsS69 w0 _ g s0_0 x1001_3 from zI21HI0) (by (with_reducible repeat (first | apply Kd.R_alloc | apply Kd.R_drewN | apply Kd.R_drew)); exact HO_3.out) (by decide)) hk (fun _ h => h.2)) (fun _ h => h.1)); replace HK := Aside0.mk (KeepBut.trans zK21 hk (.inl rfl)); replace HB := Aside0.mk hb; replace HI0 := Aside0.mk hi; (try clear hb); (try clear hb2); (try clear hk); (try clear hi); obtain ⟨Ao27, co27, eo27⟩ := Kd.R_slice HO_3.out; subst eo27) | ((with_reducible refine gate_callee (f := 36) rfl ?_); refine gl 26 Try.func36 #[.pointer (some ⟨g, 0, none⟩), .int .i64 (x3_3.length : Int)] ?_; (with_reducible refine (spec_l20Rd_pick.calls kj3 g s0_0 t598 (x3_3.length : Int) t599 t600 w0 _ ?side1 ?side2 A19.out).mono ?_); (case side1 => exact zI21HI0); (case side2 => exact zB21HI0); rintro e w28 ⟨rfl, hi, hb, hk⟩; refine ⟨_, rfl, ?_⟩; replace HO_3 := Aside0.mk (Kd.R_mono (Kd.R_keep (IsS69.apart (show IsS69 w0 _ g s0_0 t598 from zI21HI0) (by (with_reducible repeat (first | apply Kd.R_alloc | apply Kd.R_drewN | apply Kd.R_drew)); exact HO_3.out) (by decide)) hk (fun _ h => h.2)) (fun _ h => h.1)); replace HK := Aside0.mk (KeepBut.trans zK21 hk (.inl rfl)); replace HB := Aside0.mk hb; replace HI0 := Aside0.mk hi; (try clear hb); (try clear hb2); (try clear hk); (try clear hi)) | ((with_reducible refine gate_callee (f := 36) rfl ?_); refine gl 28 Try.func36 #[.pointer (some ⟨g, 0, none⟩), .int .i64 6] ?_; (with_reducible refine (spec_l20Rd_pick.calls kj3 g s0_0 t600 6 t601 t602 w0 _ ?side1 ?side2 A20.out).mono ?_); (case side1 => exact zI21HI0); (case side2 => exact zB21HI0); rintro e w29 ⟨rfl, hi, hb, hk⟩; refine ⟨_, rfl, ?_⟩; replace HO_3 := Aside0.mk (Kd.R_mono (Kd.R_keep (IsS69.apart (show IsS69 w0 _ g s0_0 t600 from zI21HI0) (by (with_reducible repeat (first | apply Kd.R_alloc | apply Kd.R_drewN | apply Kd.R_drew)); exact HO_3.out) (by decide)) hk (fun _ h => h.2)) (fun _ h => h.1)); replace HK := Aside0.mk (KeepBut.trans zK21 hk (.inl rfl)); replace HB := Aside0.mk hb; replace HI0 := Aside0.mk hi; (try clear hb); (try clear hb2); (try clear hk); (try clear hi)) | ((with_reducible refine gate_callee (f := 52) rfl ?_); refine gl 47 Try.func52 #[.pointer (some ⟨g, 0, none⟩)] ?_; (with_reducible refine (spec_l20Imm.calls kj3 g s0_0 t602 t603 t604 w0 _ ?side1 ?side2 A22.out).mono ?_); (case side1 => exact zI21HI0); (case side2 => exact zB21HI0); rintro e w30 ⟨rfl, hi, hb, hk⟩; refine ⟨_, rfl, ?_⟩; replace HO_3 := Aside0.mk (Kd.R_mono (Kd.R_keep (IsS69.apart (show IsS69 w0 _ g s0_0 t602 from zI21HI0) (by (with_reducible repeat (first | apply Kd.R_alloc | apply Kd.R_drewN | apply Kd.R_drew)); exact HO_3.out) (by decide)) hk (fun _ h => h.2)) (fun _ h => h.1)); replace HK := Aside0.mk (KeepBut.trans zK21 hk (.inl rfl)); replace HB := Aside0.mk hb; replace HI0 := Aside0.mk hi; (try clear hb); (try clear hb2); (try clear hk); (try clear hi); have p25 : 0 ≤ (t599 : Int) := dz21; have q25 : (t599 : Int) < ((x3_3.length : Int) : Int) := dz21; obtain ⟨go25, co25, eo25, gb25, gl25, cl25, HG25⟩ := Kd.R_form HO_3.out (by omega); (first | cases eo25 | (injection eo25 with ea_ en_ ec_; (first | subst ea_ | (injection ea_ with ea_; subst ea_)); subst ec_; clear en_)); have GB25 := Aside0.mk gb25; have GG25 := Aside0.mk HG25; clear gb25 gl25 HG25; obtain ⟨ce25, hcl25, hM25, hcc25, hfr25⟩ := Kd.R_elem HO_3.out z38 (t599 : Int) p25 q25; obtain rfl := k38_openM hM25; have hx25_0 : w30.cell? ⟨go25, (t599 : Int).toNat * 6, none⟩ = some (.int .i64 ((rd_T38 x3_3 t599).f0)) := hcc25 0 _ rfl; have hx25_1 : w30.cell? ⟨go25, (t599 : Int).toNat * 6 + 1, none⟩ = some (.int .i64 ((rd_T38 x3_3 t599).f1)) := hcc25 1 _ rfl; have hx25_2 : w30.cell? ⟨go25, (t599 : Int).toNat * 6 + 2, none⟩ = some (.int .i64 ((rd_T38 x3_3 t599).f2)) := hcc25 2 _ rfl; have hx25_3 : w30.cell? ⟨go25, (t599 : Int).toNat * 6 + 3, none⟩ = some (.int .i64 ((rd_T38 x3_3 t599).f3)) := hcc25 3 _ rfl; have hx25_4 : w30.cell? ⟨go25, (t599 : Int).toNat * 6 + 4, none⟩ = some (.int .i64 ((rd_T38 x3_3 t599).f4)) := hcc25 4 _ rfl; have hx25_5 : w30.cell? ⟨go25, (t599 : Int).toNat * 6 + 5, none⟩ = some (.int .i64 ((rd_T38 x3_3 t599).f5)) := hcc25 5 _ rfl; have hf25_0 : w30.frozen? ⟨go25, (t599 : Int).toNat * 6, none⟩ = false := hfr25 0; have hf25_1 : w30.frozen? ⟨go25, (t599 : Int).toNat * 6 + 1, none⟩ = false := hfr25 1; have hf25_2 : w30.frozen? ⟨go25, (t599 : Int).toNat * 6 + 2, none⟩ = false := hfr25 2; have hf25_3 : w30.frozen? ⟨go25, (t599 : Int).toNat * 6 + 3, none⟩ = false := hfr25 3; have hf25_4 : w30.frozen? ⟨go25, (t599 : Int).toNat * 6 + 4, none⟩ = false := hfr25 4; have hf25_5 : w30.frozen? ⟨go25, (t599 : Int).toNat * 6 + 5, none⟩ = false := hfr25 5; clear hcl25 hcc25 hfr25 hM25; replace p25 := eq_true p25; replace q25 := eq_true q25; have HX31 := Aside0.mk (show Kd.R k38 38 w30 w.heap.size (fun _ => True) (.slice (some ⟨go25, 0, none⟩) x3_3.length co27) x3_3 from (by (with_reducible repeat (first | apply Kd.R_alloc | apply Kd.R_drewN | apply Kd.R_drew)); exact HO_3.out)); obtain ⟨ce31, hcl31, hM31, hcc31, hfr31⟩ := Kd.R_elem HX31.out z38 (t599 : Int) (dz21) (by have h_ : (t599 : Int) < ((x3_3.length : Int) : Int) := dz21; first | exact h_ | (have e_ := (Kd.R_reads' HO_3.out).1; omega) | simpa using h_); obtain rfl := k38_openM hM31; have HP31 := Kd.R_seg HX31.out (t599 : Int) (dz21) (by have h_ : (t599 : Int) < ((x3_3.length : Int) : Int) := dz21; first | exact h_ | (have e_ := (Kd.R_reads' HO_3.out).1; omega) | simpa using h_) (seg := [.int .i64 t603]) (j := 4) hcl31 hcc31 (show 5 ≤ 6 from by decide) (x' := (⟨(rd_T38 x3_3 t599).f0, (rd_T38 x3_3 t599).f1, (rd_T38 x3_3 t599).f2, (rd_T38 x3_3 t599).f3, t603, (rd_T38 x3_3 t599).f5⟩ : S38)) (k38_mkM _ _ _ (⟨(rd_T38 x3_3 t599).f0, (rd_T38 x3_3 t599).f1, (rd_T38 x3_3 t599).f2, (rd_T38 x3_3 t599).f3, t603, (rd_T38 x3_3 t599).f5⟩ : S38) ) (fun _ hk => hk); have hx31_4 := hcc31 4 _ rfl; (try simp only [show (k38).sz = 6 from rfl, Nat.mul_one, Nat.add_zero] at hx31_4); have hf31_4 := hfr31 4; (try simp only [show (k38).sz = 6 from rfl, Nat.mul_one, Nat.add_zero] at hf31_4); clear hcl31 hcc31 hfr31 hM31) | ((with_reducible refine gate_store (t := 3) (p := 49) rfl ?_); refine store_event (t := 3) (p := 49) (v := ?vo_w32) (w1 := (w30.setCell ⟨go25, (t599 : Int).toNat * 6 + 4, none⟩ (.int .i64 t603))) ?hg ?ho ?hn ?hr ?_; (case ho => rfl); (case hg => rfl); (case hn => rfl); (case hr => first | (go_simp; done) | (go_simp; rfl)); intro w32 hw; have hg : w30.grownBy w32 (some go25) := (by rw [hw]; exact HP31.2); have hp_ : Kd.R k38 38 w32 w.heap.size (fun _ => True) (.slice (some ⟨go25, 0, none⟩) x3_3.length co27) y605 := (by rw [hw, Ny605.out]; exact HP31.1); clear HP31; replace HI0 := Aside0.mk (IsS69.grown zI21HI0 hg (IsS69.own_ne HI0.out HO_3.out (by decide))); replace HB := Aside0.mk ((by rw [hw]; exact below_set (HB.out) (Nat.le_trans HL.out GB25.out) : Below w0.heap.size w0 w32)); replace HK := Aside0.mk (KeepBut.trans zK21 (KeepBut.of_grown hg g) (Kd.R_base2 HO_3.out)); replace HO_3 := Aside0.mk hp_; clear hg hw hp_))
       go_ret
       exact ⟨_, zR, by (with_reducible repeat (first | apply Kd.R_alloc | apply Kd.R_drewN | apply Kd.R_drew)); exact HO_3.out, zI21HI0, zB21HI0, zK21⟩
      ·rw [if_neg c24] at H
       exact absurd H (by simp)
     ·rw [if_neg c23] at H
      exact absurd H (by simp)
    ·rw [if_neg c21] at H
     have c21b0 : (t601 == 0) = false := beq_eq_false_iff_ne.mpr c21
     have c21b1 : (t601 != 0) = true := bne_iff_ne.mpr c21
     by_cases c33 : t601 = 1
     ·rw [if_pos c33] at H
      have c33b0 : (t601 == 1) = true := beq_iff_eq.mpr c33
      have c33b1 : (t601 != 1) = false := bne_eq_false_iff_eq.mpr c33
      clear c33
      obtain ⟨y606, hy606⟩ : ∃ y_ : List Int, y_ = (([(-1), 0, 1, 2, (-2), 12, 200] : List Int)) := ⟨_, rfl⟩
      replace H : ((spec_l20Rd_one.f kj3 s0_0 t602 y606).bind fun bt609 => (if 0 ≤ t599 then (if t599 < (x3_3.length : Int) then (some ((x3_3.set (t599 : Int).toNat (⟨(rd_T38 x3_3 t599).f0, (rd_T38 x3_3 t599).f1, (rd_T38 x3_3 t599).f2, bt609.1, (rd_T38 x3_3 t599).f4, (rd_T38 x3_3 t599).f5⟩ : S38)), bt609.2)) else (none)) else (none))) = some (r1, r2) := by first | (rw [hy606]; with_reducible exact H) | (have H2_ := (Option.bind_some _ _).symm.trans H; rw [hy606]; with_reducible exact H2_) | (have H2_ := (Option.bind_some _ _).symm.trans H; with_reducible exact H2_) | with_reducible exact H | (rw [hy606]; exact H) | exact H
      have Ny606 := Aside0.mk hy606
      clear hy606
      replace H := Option.bind_eq_some_iff.mp H
      obtain ⟨⟨t609, t610⟩, A340, H⟩ := H
      try dsimp only at H
      have A34 := Aside0.mk A340
      clear A340
      by_cases c35 : 0 ≤ t599
      ·rw [if_pos c35] at H
       have c35b0 : decide (0 ≤ t599) = true := decide_eq_true c35
       clear c35
       by_cases c36 : t599 < (x3_3.length : Int)
       ·rw [if_pos c36] at H
        have c36b0 : decide (t599 < (x3_3.length : Int)) = true := decide_eq_true c36
        clear c36
        obtain ⟨y611, hy611⟩ : ∃ y_ : List (S38), y_ = (x3_3.set (t599 : Int).toNat (⟨(rd_T38 x3_3 t599).f0, (rd_T38 x3_3 t599).f1, (rd_T38 x3_3 t599).f2, t609, (rd_T38 x3_3 t599).f4, (rd_T38 x3_3 t599).f5⟩ : S38)) := ⟨_, rfl⟩
        replace H : (some (y611, t610)) = some (r1, r2) := by first | (rw [hy611]; with_reducible exact H) | (have H2_ := (Option.bind_some _ _).symm.trans H; rw [hy611]; with_reducible exact H2_) | (have H2_ := (Option.bind_some _ _).symm.trans H; with_reducible exact H2_) | with_reducible exact H | (rw [hy611]; exact H) | exact H
        have Ny611 := Aside0.mk hy611
        clear hy611
        simp only [Option.some.injEq, Prod.mk.injEq] at H
        obtain ⟨rfl, rfl⟩ := H
        go_wp2_with (first | ((with_reducible refine gate_callee (f := 36) rfl ?_); refine gl 21 Try.func36 #[.pointer (some ⟨g, 0, none⟩), .int .i64 4] ?_; (with_reducible refine (spec_l20Rd_pick.calls kj3 g s0_0 x1001_3 4 t597 t598 w0 _ ?side1 ?side2 A17.out).mono ?_); (case side1 => exact zI21HI0); (case side2 => exact zB21HI0); rintro e w38 ⟨rfl, hi, hb, hk⟩; refine ⟨_, rfl, ?_⟩; replace HO_3 := Aside0.mk (Kd.R_mono (Kd.R_keep (IsS69.apart (show IsS69 w0 _ g s0_0 x1001_3 from zI21HI0) (by (with_reducible repeat (first | apply Kd.R_alloc | apply Kd.R_drewN | apply Kd.R_drew)); exact HO_3.out) (by decide)) hk (fun _ h => h.2)) (fun _ h => h.1)); replace HK := Aside0.mk (KeepBut.trans zK21 hk (.inl rfl)); replace HB := Aside0.mk hb; replace HI0 := Aside0.mk hi; (try clear hb); (try clear hb2); (try clear hk); (try clear hi); obtain ⟨Ao39, co39, eo39⟩ := Kd.R_slice HO_3.out; subst eo39) | ((with_reducible refine gate_callee (f := 36) rfl ?_); refine gl 26 Try.func36 #[.pointer (some ⟨g, 0, none⟩), .int .i64 (x3_3.length : Int)] ?_; (with_reducible refine (spec_l20Rd_pick.calls kj3 g s0_0 t598 (x3_3.length : Int) t599 t600 w0 _ ?side1 ?side2 A19.out).mono ?_); (case side1 => exact zI21HI0); (case side2 => exact zB21HI0); rintro e w40 ⟨rfl, hi, hb, hk⟩; refine ⟨_, rfl, ?_⟩; replace HO_3 := Aside0.mk (Kd.R_mono (Kd.R_keep (IsS69.apart (show IsS69 w0 _ g s0_0 t598 from zI21HI0) (by (with_reducible repeat (first | apply Kd.R_alloc | apply Kd.R_drewN | apply Kd.R_drew)); exact HO_3.out) (by decide)) hk (fun _ h => h.2)) (fun _ h => h.1)); replace HK := Aside0.mk (KeepBut.trans zK21 hk (.inl rfl)); replace HB := Aside0.mk hb; replace HI0 := Aside0.mk hi; (try clear hb); (try clear hb2); (try clear hk); (try clear hi)) | ((with_reducible refine gate_callee (f := 36) rfl ?_); refine gl 28 Try.func36 #[.pointer (some ⟨g, 0, none⟩), .int .i64 6] ?_; (with_reducible refine (spec_l20Rd_pick.calls kj3 g s0_0 t600 6 t601 t602 w0 _ ?side1 ?side2 A20.out).mono ?_); (case side1 => exact zI21HI0); (case side2 => exact zB21HI0); rintro e w41 ⟨rfl, hi, hb, hk⟩; refine ⟨_, rfl, ?_⟩; replace HO_3 := Aside0.mk (Kd.R_mono (Kd.R_keep (IsS69.apart (show IsS69 w0 _ g s0_0 t600 from zI21HI0) (by (with_reducible repeat (first | apply Kd.R_alloc | apply Kd.R_drewN | apply Kd.R_drew)); exact HO_3.out) (by decide)) hk (fun _ h => h.2)) (fun _ h => h.1)); replace HK := Aside0.mk (KeepBut.trans zK21 hk (.inl rfl)); replace HB := Aside0.mk hb; replace HI0 := Aside0.mk hi; (try clear hb); (try clear hb2); (try clear hk); (try clear hi)) | ((with_reducible refine gate_dst (N := 55) rfl ?_); refine Kd.R_lit (Kd.int .i64) _ 3 ?hg (N := 55) ?hd (xs := ([(-1), 0, 1, 2, (-2), 12, 200] : List Int)) (inner := [.int .i64 (-1), .int .i64 0, .int .i64 1, .int .i64 2, .int .i64 (-2), .int .i64 12, .int .i64 200]) (ok := fun _ => True) (okp := fun _ => True) ?hr ?hp (fun _ hk => hk) trivial (Below.refl _ _) (Nat.le_refl _) (by simp) ?_; (case hd => rfl); (case hg => rfl); (case hr => first | (go_simp; done) | (go_simp; rfl)); (case hp => exact (Reps.one (show Kd.M (Kd.int .i64) _ _ _ (-1) [.int .i64 (-1)] from rfl) (Reps.one (show Kd.M (Kd.int .i64) _ _ _ 0 [.int .i64 0] from rfl) (Reps.one (show Kd.M (Kd.int .i64) _ _ _ 1 [.int .i64 1] from rfl) (Reps.one (show Kd.M (Kd.int .i64) _ _ _ 2 [.int .i64 2] from rfl) (Reps.one (show Kd.M (Kd.int .i64) _ _ _ (-2) [.int .i64 (-2)] from rfl) (Reps.one (show Kd.M (Kd.int .i64) _ _ _ 12 [.int .i64 12] from rfl) (Reps.one (show Kd.M (Kd.int .i64) _ _ _ 200 [.int .i64 200] from rfl) (Reps.none _ _))))))))); intro v607 w42 ho43 hb hg_ hnew_; clear hg_ hnew_; (first | rw [← Ny606.out] at ho43 | (simp only [Int.reduceToNat] at ho43; rw [← Ny606.out] at ho43)); replace HO_3 := Aside0.mk (Kd.R_below (by (with_reducible repeat (first | apply Kd.R_alloc | apply Kd.R_drewN | apply Kd.R_drew)); exact HO_3.out) hb); have HO608 := Aside0.mk (Kd.R_lower ho43 (keep_size (w := w) (g := g) (row := none) zK21)); replace HK := Aside0.mk (KeepBut.trans zK21 (KeepBut.of_below hb g none) (.inl rfl)); replace HB := Aside0.mk (below_step (zB21HI0) hb); replace HI0 := Aside0.mk (IsS69.below zI21HI0 hb); clear hb ho43; obtain ⟨Ao44, co44, eo44⟩ := Kd.R_slice HO608.out; subst eo44) | ((with_reducible refine gate_callee (f := 53) rfl ?_); refine gl 56 Try.func53 #[.pointer (some ⟨g, 0, none⟩), .slice Ao44 y606.length co44] ?_; (with_reducible refine (spec_l20Rd_one.calls kj3 g s0_0 t602 _ _ y606 t609 t610 w0 _ ?side1 ?side2 ?side3 ?side4 ?side5 A34.out).mono ?_); (case side1 => exact zI21HI0); (case side2 => exact zB21HI0); (case side3 => repeat (first | exact (Kd.R_reads' HO608.out).2.2 | (with_reducible refine Kd.C_alloc ?_ _) | (with_reducible refine Kd.C_drewN ?_ _) | (with_reducible refine Kd.C_drew ?_))); (case side4 => exact (Kd.R_reads' HO608.out).2.1); (case side5 => exact far_slice (IsS69.own_ne HI0.out HO608.out (by decide))); rintro e w45 ⟨rfl, hi, hb, hk⟩; refine ⟨_, rfl, ?_⟩; replace HO_3 := Aside0.mk (Kd.R_mono (Kd.R_keep (IsS69.apart (show IsS69 w0 _ g s0_0 t602 from zI21HI0) (by (with_reducible repeat (first | apply Kd.R_alloc | apply Kd.R_drewN | apply Kd.R_drew)); exact HO_3.out) (by decide)) hk (fun _ h => h.2)) (fun _ h => h.1)); replace HO608 := Aside0.mk (Kd.R_mono (Kd.R_keep (IsS69.apart (show IsS69 w0 _ g s0_0 t602 from zI21HI0) (by (with_reducible repeat (first | apply Kd.R_alloc | apply Kd.R_drewN | apply Kd.R_drew)); exact HO608.out) (by decide)) hk (fun _ h => h.2)) (fun _ h => h.1)); replace HK := Aside0.mk (KeepBut.trans zK21 hk (.inl rfl)); replace HB := Aside0.mk hb; replace HI0 := Aside0.mk hi; (try clear hb); (try clear hb2); (try clear hk); (try clear hi); have p37 : 0 ≤ (t599 : Int) := dz21; have q37 : (t599 : Int) < ((x3_3.length : Int) : Int) := dz21; obtain ⟨go37, co37, eo37, gb37, gl37, cl37, HG37⟩ := Kd.R_form HO_3.out (by omega); (first | cases eo37 | (injection eo37 with ea_ en_ ec_; (first | subst ea_ | (injection ea_ with ea_; subst ea_)); subst ec_; clear en_)); have GB37 := Aside0.mk gb37; have GG37 := Aside0.mk HG37; clear gb37 gl37 HG37; obtain ⟨ce37, hcl37, hM37, hcc37, hfr37⟩ := Kd.R_elem HO_3.out z38 (t599 : Int) p37 q37; obtain rfl := k38_openM hM37; have hx37_0 : w45.cell? ⟨go37, (t599 : Int).toNat * 6, none⟩ = some (.int .i64 ((rd_T38 x3_3 t599).f0)) := hcc37 0 _ rfl; have hx37_1 : w45.cell? ⟨go37, (t599 : Int).toNat * 6 + 1, none⟩ = some (.int .i64 ((rd_T38 x3_3 t599).f1)) := hcc37 1 _ rfl; have hx37_2 : w45.cell? ⟨go37, (t599 : Int).toNat * 6 + 2, none⟩ = some (.int .i64 ((rd_T38 x3_3 t599).f2)) := hcc37 2 _ rfl; have hx37_3 : w45.cell? ⟨go37, (t599 : Int).toNat * 6 + 3, none⟩ = some (.int .i64 ((rd_T38 x3_3 t599).f3)) := hcc37 3 _ rfl; have hx37_4 : w45.cell? ⟨go37, (t599 : Int).toNat * 6 + 4, none⟩ = some (.int .i64 ((rd_T38 x3_3 t599).f4)) := hcc37 4 _ rfl; have hx37_5 : w45.cell? ⟨go37, (t599 : Int).toNat * 6 + 5, none⟩ = some (.int .i64 ((rd_T38 x3_3 t599).f5)) := hcc37 5 _ rfl; have hf37_0 : w45.frozen? ⟨go37, (t599 : Int).toNat * 6, none⟩ = false := hfr37 0; have hf37_1 : w45.frozen? ⟨go37, (t599 : Int).toNat * 6 + 1, none⟩ = false := hfr37 1; have hf37_2 : w45.frozen? ⟨go37, (t599 : Int).toNat * 6 + 2, none⟩ = false := hfr37 2; have hf37_3 : w45.frozen? ⟨go37, (t599 : Int).toNat * 6 + 3, none⟩ = false := hfr37 3; have hf37_4 : w45.frozen? ⟨go37, (t599 : Int).toNat * 6 + 4, none⟩ = false := hfr37 4; have hf37_5 : w45.frozen? ⟨go37, (t599 : Int).toNat * 6 + 5, none⟩ = false := hfr37 5; clear hcl37 hcc37 hfr37 hM37; replace p37 := eq_true p37; replace q37 := eq_true q37; have HX46 := Aside0.mk (show Kd.R k38 38 w45 w.heap.size (fun _ => True) (.slice (some ⟨go37, 0, none⟩) x3_3.length co39) x3_3 from (by (with_reducible repeat (first | apply Kd.R_alloc | apply Kd.R_drewN | apply Kd.R_drew)); exact HO_3.out)); obtain ⟨ce46, hcl46, hM46, hcc46, hfr46⟩ := Kd.R_elem HX46.out z38 (t599 : Int) (dz21) (by have h_ : (t599 : Int) < ((x3_3.length : Int) : Int) := dz21; first | exact h_ | (have e_ := (Kd.R_reads' HO_3.out).1; omega) | simpa using h_); obtain rfl := k38_openM hM46; have HP46 := Kd.R_seg HX46.out (t599 : Int) (dz21) (by have h_ : (t599 : Int) < ((x3_3.length : Int) : Int) := dz21; first | exact h_ | (have e_ := (Kd.R_reads' HO_3.out).1; omega) | simpa using h_) (seg := [.int .i64 t609]) (j := 3) hcl46 hcc46 (show 4 ≤ 6 from by decide) (x' := (⟨(rd_T38 x3_3 t599).f0, (rd_T38 x3_3 t599).f1, (rd_T38 x3_3 t599).f2, t609, (rd_T38 x3_3 t599).f4, (rd_T38 x3_3 t599).f5⟩ : S38)) (k38_mkM _ _ _ (⟨(rd_T38 x3_3 t599).f0, (rd_T38 x3_3 t599).f1, (rd_T38 x3_3 t599).f2, t609, (rd_T38 x3_3 t599).f4, (rd_T38 x3_3 t599).f5⟩ : S38) ) (fun _ hk => hk); have hx46_3 := hcc46 3 _ rfl; (try simp only [show (k38).sz = 6 from rfl, Nat.mul_one, Nat.add_zero] at hx46_3); have hf46_3 := hfr46 3; (try simp only [show (k38).sz = 6 from rfl, Nat.mul_one, Nat.add_zero] at hf46_3); clear hcl46 hcc46 hfr46 hM46) | ((with_reducible refine gate_store (t := 3) (p := 58) rfl ?_); refine store_event (t := 3) (p := 58) (v := ?vo_w47) (w1 := (w45.setCell ⟨go37, (t599 : Int).toNat * 6 + 3, none⟩ (.int .i64 t609))) ?hg ?ho ?hn ?hr ?_; (case ho => rfl); (case hg => rfl); (case hn => rfl); (case hr => first | (go_simp; done) | (go_simp; rfl)); intro w47 hw; have hg : w45.grownBy w47 (some go37) := (by rw [hw]; exact HP46.2); have hp_ : Kd.R k38 38 w47 w.heap.size (fun _ => True) (.slice (some ⟨go37, 0, none⟩) x3_3.length co39) y611 := (by rw [hw, Ny611.out]; exact HP46.1); clear HP46; replace HI0 := Aside0.mk (IsS69.grown zI21HI0 hg (IsS69.own_ne HI0.out HO_3.out (by decide))); replace HO608 := Aside0.mk (Kd.R_over' (v := (.slice (some ⟨go37, 0, none⟩) x3_3.length co39)) (by (with_reducible repeat (first | apply Kd.R_alloc | apply Kd.R_drewN | apply Kd.R_drew)); exact HO608.out) (Kd.R_typed HO_3.out) (by decide) hg); replace HB := Aside0.mk ((by rw [hw]; exact below_set (HB.out) (Nat.le_trans HL.out GB37.out) : Below w0.heap.size w0 w47)); replace HK := Aside0.mk (KeepBut.trans zK21 (KeepBut.of_grown hg g) (Kd.R_base2 HO_3.out)); replace HO_3 := Aside0.mk hp_; clear hg hw hp_))
        go_ret
        exact ⟨_, zR, by (with_reducible repeat (first | apply Kd.R_alloc | apply Kd.R_drewN | apply Kd.R_drew)); exact HO_3.out, zI21HI0, zB21HI0, zK21⟩
       ·rw [if_neg c36] at H
        exact absurd H (by simp)
      ·rw [if_neg c35] at H
       exact absurd H (by simp)
     ·rw [if_neg c33] at H
      have c33b0 : (t601 == 1) = false := beq_eq_false_iff_ne.mpr c33
      have c33b1 : (t601 != 1) = true := bne_iff_ne.mpr c33
      by_cases c48 : t601 = 2
      ·rw [if_pos c48] at H
       have c48b0 : (t601 == 2) = true := beq_iff_eq.mpr c48
       have c48b1 : (t601 != 2) = false := bne_eq_false_iff_eq.mpr c48
       clear c48
       replace H := Option.bind_eq_some_iff.mp H
       obtain ⟨⟨t612, t613⟩, A490, H⟩ := H
       try dsimp only at H
       have A49 := Aside0.mk A490
       clear A490
       by_cases c50 : 0 ≤ t599
       ·rw [if_pos c50] at H
        have c50b0 : decide (0 ≤ t599) = true := decide_eq_true c50
        clear c50
        by_cases c51 : t599 < (x3_3.length : Int)
        ·rw [if_pos c51] at H
         have c51b0 : decide (t599 < (x3_3.length : Int)) = true := decide_eq_true c51
         clear c51
         obtain ⟨y614, hy614⟩ : ∃ y_ : List (S38), y_ = (x3_3.set (t599 : Int).toNat (⟨(rd_T38 x3_3 t599).f0, t612, (rd_T38 x3_3 t599).f2, (rd_T38 x3_3 t599).f3, (rd_T38 x3_3 t599).f4, (rd_T38 x3_3 t599).f5⟩ : S38)) := ⟨_, rfl⟩
         replace H : (some (y614, t613)) = some (r1, r2) := by first | (rw [hy614]; with_reducible exact H) | (have H2_ := (Option.bind_some _ _).symm.trans H; rw [hy614]; with_reducible exact H2_) | (have H2_ := (Option.bind_some _ _).symm.trans H; with_reducible exact H2_) | with_reducible exact H | (rw [hy614]; exact H) | exact H
         have Ny614 := Aside0.mk hy614
         clear hy614
         simp only [Option.some.injEq, Prod.mk.injEq] at H
         obtain ⟨rfl, rfl⟩ := H
         go_wp2_with (first | ((with_reducible refine gate_callee (f := 36) rfl ?_); refine gl 21 Try.func36 #[.pointer (some ⟨g, 0, none⟩), .int .i64 4] ?_; (with_reducible refine (spec_l20Rd_pick.calls kj3 g s0_0 x1001_3 4 t597 t598 w0 _ ?side1 ?side2 A17.out).mono ?_); (case side1 => exact zI21HI0); (case side2 => exact zB21HI0); rintro e w53 ⟨rfl, hi, hb, hk⟩; refine ⟨_, rfl, ?_⟩; replace HO_3 := Aside0.mk (Kd.R_mono (Kd.R_keep (IsS69.apart (show IsS69 w0 _ g s0_0 x1001_3 from zI21HI0) (by (with_reducible repeat (first | apply Kd.R_alloc | apply Kd.R_drewN | apply Kd.R_drew)); exact HO_3.out) (by decide)) hk (fun _ h => h.2)) (fun _ h => h.1)); replace HK := Aside0.mk (KeepBut.trans zK21 hk (.inl rfl)); replace HB := Aside0.mk hb; replace HI0 := Aside0.mk hi; (try clear hb); (try clear hb2); (try clear hk); (try clear hi); obtain ⟨Ao54, co54, eo54⟩ := Kd.R_slice HO_3.out; subst eo54) | ((with_reducible refine gate_callee (f := 36) rfl ?_); refine gl 26 Try.func36 #[.pointer (some ⟨g, 0, none⟩), .int .i64 (x3_3.length : Int)] ?_; (with_reducible refine (spec_l20Rd_pick.calls kj3 g s0_0 t598 (x3_3.length : Int) t599 t600 w0 _ ?side1 ?side2 A19.out).mono ?_); (case side1 => exact zI21HI0); (case side2 => exact zB21HI0); rintro e w55 ⟨rfl, hi, hb, hk⟩; refine ⟨_, rfl, ?_⟩; replace HO_3 := Aside0.mk (Kd.R_mono (Kd.R_keep (IsS69.apart (show IsS69 w0 _ g s0_0 t598 from zI21HI0) (by (with_reducible repeat (first | apply Kd.R_alloc | apply Kd.R_drewN | apply Kd.R_drew)); exact HO_3.out) (by decide)) hk (fun _ h => h.2)) (fun _ h => h.1)); replace HK := Aside0.mk (KeepBut.trans zK21 hk (.inl rfl)); replace HB := Aside0.mk hb; replace HI0 := Aside0.mk hi; (try clear hb); (try clear hb2); (try clear hk); (try clear hi)) | ((with_reducible refine gate_callee (f := 36) rfl ?_); refine gl 28 Try.func36 #[.pointer (some ⟨g, 0, none⟩), .int .i64 6] ?_; (with_reducible refine (spec_l20Rd_pick.calls kj3 g s0_0 t600 6 t601 t602 w0 _ ?side1 ?side2 A20.out).mono ?_); (case side1 => exact zI21HI0); (case side2 => exact zB21HI0); rintro e w56 ⟨rfl, hi, hb, hk⟩; refine ⟨_, rfl, ?_⟩; replace HO_3 := Aside0.mk (Kd.R_mono (Kd.R_keep (IsS69.apart (show IsS69 w0 _ g s0_0 t600 from zI21HI0) (by (with_reducible repeat (first | apply Kd.R_alloc | apply Kd.R_drewN | apply Kd.R_drew)); exact HO_3.out) (by decide)) hk (fun _ h => h.2)) (fun _ h => h.1)); replace HK := Aside0.mk (KeepBut.trans zK21 hk (.inl rfl)); replace HB := Aside0.mk hb; replace HI0 := Aside0.mk hi; (try clear hb); (try clear hb2); (try clear hk); (try clear hi)) | ((with_reducible refine gate_callee (f := 36) rfl ?_); refine gl 64 Try.func36 #[.pointer (some ⟨g, 0, none⟩), .int .i64 12] ?_; (with_reducible refine (spec_l20Rd_pick.calls kj3 g s0_0 t602 12 t612 t613 w0 _ ?side1 ?side2 A49.out).mono ?_); (case side1 => exact zI21HI0); (case side2 => exact zB21HI0); rintro e w57 ⟨rfl, hi, hb, hk⟩; refine ⟨_, rfl, ?_⟩; replace HO_3 := Aside0.mk (Kd.R_mono (Kd.R_keep (IsS69.apart (show IsS69 w0 _ g s0_0 t602 from zI21HI0) (by (with_reducible repeat (first | apply Kd.R_alloc | apply Kd.R_drewN | apply Kd.R_drew)); exact HO_3.out) (by decide)) hk (fun _ h => h.2)) (fun _ h => h.1)); replace HK := Aside0.mk (KeepBut.trans zK21 hk (.inl rfl)); replace HB := Aside0.mk hb; replace HI0 := Aside0.mk hi; (try clear hb); (try clear hb2); (try clear hk); (try clear hi); have p52 : 0 ≤ (t599 : Int) := dz21; have q52 : (t599 : Int) < ((x3_3.length : Int) : Int) := dz21; obtain ⟨go52, co52, eo52, gb52, gl52, cl52, HG52⟩ := Kd.R_form HO_3.out (by omega); (first | cases eo52 | (injection eo52 with ea_ en_ ec_; (first | subst ea_ | (injection ea_ with ea_; subst ea_)); subst ec_; clear en_)); have GB52 := Aside0.mk gb52; have GG52 := Aside0.mk HG52; clear gb52 gl52 HG52; obtain ⟨ce52, hcl52, hM52, hcc52, hfr52⟩ := Kd.R_elem HO_3.out z38 (t599 : Int) p52 q52; obtain rfl := k38_openM hM52; have hx52_0 : w57.cell? ⟨go52, (t599 : Int).toNat * 6, none⟩ = some (.int .i64 ((rd_T38 x3_3 t599).f0)) := hcc52 0 _ rfl; have hx52_1 : w57.cell? ⟨go52, (t599 : Int).toNat * 6 + 1, none⟩ = some (.int .i64 ((rd_T38 x3_3 t599).f1)) := hcc52 1 _ rfl; have hx52_2 : w57.cell? ⟨go52, (t599 : Int).toNat * 6 + 2, none⟩ = some (.int .i64 ((rd_T38 x3_3 t599).f2)) := hcc52 2 _ rfl; have hx52_3 : w57.cell? ⟨go52, (t599 : Int).toNat * 6 + 3, none⟩ = some (.int .i64 ((rd_T38 x3_3 t599).f3)) := hcc52 3 _ rfl; have hx52_4 : w57.cell? ⟨go52, (t599 : Int).toNat * 6 + 4, none⟩ = some (.int .i64 ((rd_T38 x3_3 t599).f4)) := hcc52 4 _ rfl; have hx52_5 : w57.cell? ⟨go52, (t599 : Int).toNat * 6 + 5, none⟩ = some (.int .i64 ((rd_T38 x3_3 t599).f5)) := hcc52 5 _ rfl; have hf52_0 : w57.frozen? ⟨go52, (t599 : Int).toNat * 6, none⟩ = false := hfr52 0; have hf52_1 : w57.frozen? ⟨go52, (t599 : Int).toNat * 6 + 1, none⟩ = false := hfr52 1; have hf52_2 : w57.frozen? ⟨go52, (t599 : Int).toNat * 6 + 2, none⟩ = false := hfr52 2; have hf52_3 : w57.frozen? ⟨go52, (t599 : Int).toNat * 6 + 3, none⟩ = false := hfr52 3; have hf52_4 : w57.frozen? ⟨go52, (t599 : Int).toNat * 6 + 4, none⟩ = false := hfr52 4; have hf52_5 : w57.frozen? ⟨go52, (t599 : Int).toNat * 6 + 5, none⟩ = false := hfr52 5; clear hcl52 hcc52 hfr52 hM52; replace p52 := eq_true p52; replace q52 := eq_true q52; have HX58 := Aside0.mk (show Kd.R k38 38 w57 w.heap.size (fun _ => True) (.slice (some ⟨go52, 0, none⟩) x3_3.length co54) x3_3 from (by (with_reducible repeat (first | apply Kd.R_alloc | apply Kd.R_drewN | apply Kd.R_drew)); exact HO_3.out)); obtain ⟨ce58, hcl58, hM58, hcc58, hfr58⟩ := Kd.R_elem HX58.out z38 (t599 : Int) (dz21) (by have h_ : (t599 : Int) < ((x3_3.length : Int) : Int) := dz21; first | exact h_ | (have e_ := (Kd.R_reads' HO_3.out).1; omega) | simpa using h_); obtain rfl := k38_openM hM58; have HP58 := Kd.R_seg HX58.out (t599 : Int) (dz21) (by have h_ : (t599 : Int) < ((x3_3.length : Int) : Int) := dz21; first | exact h_ | (have e_ := (Kd.R_reads' HO_3.out).1; omega) | simpa using h_) (seg := [.int .i64 t612]) (j := 1) hcl58 hcc58 (show 2 ≤ 6 from by decide) (x' := (⟨(rd_T38 x3_3 t599).f0, t612, (rd_T38 x3_3 t599).f2, (rd_T38 x3_3 t599).f3, (rd_T38 x3_3 t599).f4, (rd_T38 x3_3 t599).f5⟩ : S38)) (k38_mkM _ _ _ (⟨(rd_T38 x3_3 t599).f0, t612, (rd_T38 x3_3 t599).f2, (rd_T38 x3_3 t599).f3, (rd_T38 x3_3 t599).f4, (rd_T38 x3_3 t599).f5⟩ : S38) ) (fun _ hk => hk); have hx58_1 := hcc58 1 _ rfl; (try simp only [show (k38).sz = 6 from rfl, Nat.mul_one, Nat.add_zero] at hx58_1); have hf58_1 := hfr58 1; (try simp only [show (k38).sz = 6 from rfl, Nat.mul_one, Nat.add_zero] at hf58_1); clear hcl58 hcc58 hfr58 hM58) | ((with_reducible refine gate_store (t := 3) (p := 66) rfl ?_); refine store_event (t := 3) (p := 66) (v := ?vo_w59) (w1 := (w57.setCell ⟨go52, (t599 : Int).toNat * 6 + 1, none⟩ (.int .i64 t612))) ?hg ?ho ?hn ?hr ?_; (case ho => rfl); (case hg => rfl); (case hn => rfl); (case hr => first | (go_simp; done) | (go_simp; rfl)); intro w59 hw; have hg : w57.grownBy w59 (some go52) := (by rw [hw]; exact HP58.2); have hp_ : Kd.R k38 38 w59 w.heap.size (fun _ => True) (.slice (some ⟨go52, 0, none⟩) x3_3.length co54) y614 := (by rw [hw, Ny614.out]; exact HP58.1); clear HP58; replace HI0 := Aside0.mk (IsS69.grown zI21HI0 hg (IsS69.own_ne HI0.out HO_3.out (by decide))); replace HB := Aside0.mk ((by rw [hw]; exact below_set (HB.out) (Nat.le_trans HL.out GB52.out) : Below w0.heap.size w0 w59)); replace HK := Aside0.mk (KeepBut.trans zK21 (KeepBut.of_grown hg g) (Kd.R_base2 HO_3.out)); replace HO_3 := Aside0.mk hp_; clear hg hw hp_))
         go_ret
         exact ⟨_, zR, by (with_reducible repeat (first | apply Kd.R_alloc | apply Kd.R_drewN | apply Kd.R_drew)); exact HO_3.out, zI21HI0, zB21HI0, zK21⟩
        ·rw [if_neg c51] at H
         exact absurd H (by simp)
       ·rw [if_neg c50] at H
        exact absurd H (by simp)
      ·rw [if_neg c48] at H
       have c48b0 : (t601 == 2) = false := beq_eq_false_iff_ne.mpr c48
       have c48b1 : (t601 != 2) = true := bne_iff_ne.mpr c48
       by_cases c60 : t601 = 3
       ·rw [if_pos c60] at H
        have c60b0 : (t601 == 3) = true := beq_iff_eq.mpr c60
        have c60b1 : (t601 != 3) = false := bne_eq_false_iff_eq.mpr c60
        clear c60
        replace H := Option.bind_eq_some_iff.mp H
        obtain ⟨⟨t615, t616⟩, A610, H⟩ := H
        try dsimp only at H
        have A61 := Aside0.mk A610
        clear A610
        by_cases c62 : 0 ≤ t599
        ·rw [if_pos c62] at H
         have c62b0 : decide (0 ≤ t599) = true := decide_eq_true c62
         clear c62
         by_cases c63 : t599 < (x3_3.length : Int)
         ·rw [if_pos c63] at H
          have c63b0 : decide (t599 < (x3_3.length : Int)) = true := decide_eq_true c63
          clear c63
          obtain ⟨y617, hy617⟩ : ∃ y_ : List (S38), y_ = (x3_3.set (t599 : Int).toNat (⟨t615, (rd_T38 x3_3 t599).f1, (rd_T38 x3_3 t599).f2, (rd_T38 x3_3 t599).f3, (rd_T38 x3_3 t599).f4, (rd_T38 x3_3 t599).f5⟩ : S38)) := ⟨_, rfl⟩
          replace H : (some (y617, t616)) = some (r1, r2) := by first | (rw [hy617]; with_reducible exact H) | (have H2_ := (Option.bind_some _ _).symm.trans H; rw [hy617]; with_reducible exact H2_) | (have H2_ := (Option.bind_some _ _).symm.trans H; with_reducible exact H2_) | with_reducible exact H | (rw [hy617]; exact H) | exact H
          have Ny617 := Aside0.mk hy617
          clear hy617
          simp only [Option.some.injEq, Prod.mk.injEq] at H
          obtain ⟨rfl, rfl⟩ := H
          go_wp2_with (first | ((with_reducible refine gate_callee (f := 36) rfl ?_); refine gl 21 Try.func36 #[.pointer (some ⟨g, 0, none⟩), .int .i64 4] ?_; (with_reducible refine (spec_l20Rd_pick.calls kj3 g s0_0 x1001_3 4 t597 t598 w0 _ ?side1 ?side2 A17.out).mono ?_); (case side1 => exact zI21HI0); (case side2 => exact zB21HI0); rintro e w65 ⟨rfl, hi, hb, hk⟩; refine ⟨_, rfl, ?_⟩; replace HO_3 := Aside0.mk (Kd.R_mono (Kd.R_keep (IsS69.apart (show IsS69 w0 _ g s0_0 x1001_3 from zI21HI0) (by (with_reducible repeat (first | apply Kd.R_alloc | apply Kd.R_drewN | apply Kd.R_drew)); exact HO_3.out) (by decide)) hk (fun _ h => h.2)) (fun _ h => h.1)); replace HK := Aside0.mk (KeepBut.trans zK21 hk (.inl rfl)); replace HB := Aside0.mk hb; replace HI0 := Aside0.mk hi; (try clear hb); (try clear hb2); (try clear hk); (try clear hi); obtain ⟨Ao66, co66, eo66⟩ := Kd.R_slice HO_3.out; subst eo66) | ((with_reducible refine gate_callee (f := 36) rfl ?_); refine gl 26 Try.func36 #[.pointer (some ⟨g, 0, none⟩), .int .i64 (x3_3.length : Int)] ?_; (with_reducible refine (spec_l20Rd_pick.calls kj3 g s0_0 t598 (x3_3.length : Int) t599 t600 w0 _ ?side1 ?side2 A19.out).mono ?_); (case side1 => exact zI21HI0); (case side2 => exact zB21HI0); rintro e w67 ⟨rfl, hi, hb, hk⟩; refine ⟨_, rfl, ?_⟩; replace HO_3 := Aside0.mk (Kd.R_mono (Kd.R_keep (IsS69.apart (show IsS69 w0 _ g s0_0 t598 from zI21HI0) (by (with_reducible repeat (first | apply Kd.R_alloc | apply Kd.R_drewN | apply Kd.R_drew)); exact HO_3.out) (by decide)) hk (fun _ h => h.2)) (fun _ h => h.1)); replace HK := Aside0.mk (KeepBut.trans zK21 hk (.inl rfl)); replace HB := Aside0.mk hb; replace HI0 := Aside0.mk hi; (try clear hb); (try clear hb2); (try clear hk); (try clear hi)) | ((with_reducible refine gate_callee (f := 36) rfl ?_); refine gl 28 Try.func36 #[.pointer (some ⟨g, 0, none⟩), .int .i64 6] ?_; (with_reducible refine (spec_l20Rd_pick.calls kj3 g s0_0 t600 6 t601 t602 w0 _ ?side1 ?side2 A20.out).mono ?_); (case side1 => exact zI21HI0); (case side2 => exact zB21HI0); rintro e w68 ⟨rfl, hi, hb, hk⟩; refine ⟨_, rfl, ?_⟩; replace HO_3 := Aside0.mk (Kd.R_mono (Kd.R_keep (IsS69.apart (show IsS69 w0 _ g s0_0 t600 from zI21HI0) (by (with_reducible repeat (first | apply Kd.R_alloc | apply Kd.R_drewN | apply Kd.R_drew)); exact HO_3.out) (by decide)) hk (fun _ h => h.2)) (fun _ h => h.1)); replace HK := Aside0.mk (KeepBut.trans zK21 hk (.inl rfl)); replace HB := Aside0.mk hb; replace HI0 := Aside0.mk hi; (try clear hb); (try clear hb2); (try clear hk); (try clear hi)) | ((with_reducible refine gate_callee (f := 36) rfl ?_); refine gl 72 Try.func36 #[.pointer (some ⟨g, 0, none⟩), .int .i64 22] ?_; (with_reducible refine (spec_l20Rd_pick.calls kj3 g s0_0 t602 22 t615 t616 w0 _ ?side1 ?side2 A61.out).mono ?_); (case side1 => exact zI21HI0); (case side2 => exact zB21HI0); rintro e w69 ⟨rfl, hi, hb, hk⟩; refine ⟨_, rfl, ?_⟩; replace HO_3 := Aside0.mk (Kd.R_mono (Kd.R_keep (IsS69.apart (show IsS69 w0 _ g s0_0 t602 from zI21HI0) (by (with_reducible repeat (first | apply Kd.R_alloc | apply Kd.R_drewN | apply Kd.R_drew)); exact HO_3.out) (by decide)) hk (fun _ h => h.2)) (fun _ h => h.1)); replace HK := Aside0.mk (KeepBut.trans zK21 hk (.inl rfl)); replace HB := Aside0.mk hb; replace HI0 := Aside0.mk hi; (try clear hb); (try clear hb2); (try clear hk); (try clear hi); have p64 : 0 ≤ (t599 : Int) := dz21; have q64 : (t599 : Int) < ((x3_3.length : Int) : Int) := dz21; obtain ⟨go64, co64, eo64, gb64, gl64, cl64, HG64⟩ := Kd.R_form HO_3.out (by omega); (first | cases eo64 | (injection eo64 with ea_ en_ ec_; (first | subst ea_ | (injection ea_ with ea_; subst ea_)); subst ec_; clear en_)); have GB64 := Aside0.mk gb64; have GG64 := Aside0.mk HG64; clear gb64 gl64 HG64; obtain ⟨ce64, hcl64, hM64, hcc64, hfr64⟩ := Kd.R_elem HO_3.out z38 (t599 : Int) p64 q64; obtain rfl := k38_openM hM64; have hx64_0 : w69.cell? ⟨go64, (t599 : Int).toNat * 6, none⟩ = some (.int .i64 ((rd_T38 x3_3 t599).f0)) := hcc64 0 _ rfl; have hx64_1 : w69.cell? ⟨go64, (t599 : Int).toNat * 6 + 1, none⟩ = some (.int .i64 ((rd_T38 x3_3 t599).f1)) := hcc64 1 _ rfl; have hx64_2 : w69.cell? ⟨go64, (t599 : Int).toNat * 6 + 2, none⟩ = some (.int .i64 ((rd_T38 x3_3 t599).f2)) := hcc64 2 _ rfl; have hx64_3 : w69.cell? ⟨go64, (t599 : Int).toNat * 6 + 3, none⟩ = some (.int .i64 ((rd_T38 x3_3 t599).f3)) := hcc64 3 _ rfl; have hx64_4 : w69.cell? ⟨go64, (t599 : Int).toNat * 6 + 4, none⟩ = some (.int .i64 ((rd_T38 x3_3 t599).f4)) := hcc64 4 _ rfl; have hx64_5 : w69.cell? ⟨go64, (t599 : Int).toNat * 6 + 5, none⟩ = some (.int .i64 ((rd_T38 x3_3 t599).f5)) := hcc64 5 _ rfl; have hf64_0 : w69.frozen? ⟨go64, (t599 : Int).toNat * 6, none⟩ = false := hfr64 0; have hf64_1 : w69.frozen? ⟨go64, (t599 : Int).toNat * 6 + 1, none⟩ = false := hfr64 1; have hf64_2 : w69.frozen? ⟨go64, (t599 : Int).toNat * 6 + 2, none⟩ = false := hfr64 2; have hf64_3 : w69.frozen? ⟨go64, (t599 : Int).toNat * 6 + 3, none⟩ = false := hfr64 3; have hf64_4 : w69.frozen? ⟨go64, (t599 : Int).toNat * 6 + 4, none⟩ = false := hfr64 4; have hf64_5 : w69.frozen? ⟨go64, (t599 : Int).toNat * 6 + 5, none⟩ = false := hfr64 5; clear hcl64 hcc64 hfr64 hM64; replace p64 := eq_true p64; replace q64 := eq_true q64; have HX70 := Aside0.mk (show Kd.R k38 38 w69 w.heap.size (fun _ => True) (.slice (some ⟨go64, 0, none⟩) x3_3.length co66) x3_3 from (by (with_reducible repeat (first | apply Kd.R_alloc | apply Kd.R_drewN | apply Kd.R_drew)); exact HO_3.out)); obtain ⟨ce70, hcl70, hM70, hcc70, hfr70⟩ := Kd.R_elem HX70.out z38 (t599 : Int) (dz21) (by have h_ : (t599 : Int) < ((x3_3.length : Int) : Int) := dz21; first | exact h_ | (have e_ := (Kd.R_reads' HO_3.out).1; omega) | simpa using h_); obtain rfl := k38_openM hM70; have HP70 := Kd.R_seg HX70.out (t599 : Int) (dz21) (by have h_ : (t599 : Int) < ((x3_3.length : Int) : Int) := dz21; first | exact h_ | (have e_ := (Kd.R_reads' HO_3.out).1; omega) | simpa using h_) (seg := [.int .i64 t615]) (j := 0) hcl70 hcc70 (show 1 ≤ 6 from by decide) (x' := (⟨t615, (rd_T38 x3_3 t599).f1, (rd_T38 x3_3 t599).f2, (rd_T38 x3_3 t599).f3, (rd_T38 x3_3 t599).f4, (rd_T38 x3_3 t599).f5⟩ : S38)) (k38_mkM _ _ _ (⟨t615, (rd_T38 x3_3 t599).f1, (rd_T38 x3_3 t599).f2, (rd_T38 x3_3 t599).f3, (rd_T38 x3_3 t599).f4, (rd_T38 x3_3 t599).f5⟩ : S38) ) (fun _ hk => hk); have hx70_0 := hcc70 0 _ rfl; (try simp only [show (k38).sz = 6 from rfl, Nat.mul_one, Nat.add_zero] at hx70_0); have hf70_0 := hfr70 0; (try simp only [show (k38).sz = 6 from rfl, Nat.mul_one, Nat.add_zero] at hf70_0); clear hcl70 hcc70 hfr70 hM70) | ((with_reducible refine gate_store (t := 3) (p := 74) rfl ?_); refine store_event (t := 3) (p := 74) (v := ?vo_w71) (w1 := (w69.setCell ⟨go64, (t599 : Int).toNat * 6, none⟩ (.int .i64 t615))) ?hg ?ho ?hn ?hr ?_; (case ho => rfl); (case hg => rfl); (case hn => rfl); (case hr => first | (go_simp; done) | (go_simp; rfl)); intro w71 hw; have hg : w69.grownBy w71 (some go64) := (by rw [hw]; exact HP70.2); have hp_ : Kd.R k38 38 w71 w.heap.size (fun _ => True) (.slice (some ⟨go64, 0, none⟩) x3_3.length co66) y617 := (by rw [hw, Ny617.out]; exact HP70.1); clear HP70; replace HI0 := Aside0.mk (IsS69.grown zI21HI0 hg (IsS69.own_ne HI0.out HO_3.out (by decide))); replace HB := Aside0.mk ((by rw [hw]; exact below_set (HB.out) (Nat.le_trans HL.out GB64.out) : Below w0.heap.size w0 w71)); replace HK := Aside0.mk (KeepBut.trans zK21 (KeepBut.of_grown hg g) (Kd.R_base2 HO_3.out)); replace HO_3 := Aside0.mk hp_; clear hg hw hp_))
          go_ret
          exact ⟨_, zR, by (with_reducible repeat (first | apply Kd.R_alloc | apply Kd.R_drewN | apply Kd.R_drew)); exact HO_3.out, zI21HI0, zB21HI0, zK21⟩
         ·rw [if_neg c63] at H
          exact absurd H (by simp)
        ·rw [if_neg c62] at H
         exact absurd H (by simp)
       ·rw [if_neg c60] at H
        have c60b0 : (t601 == 3) = false := beq_eq_false_iff_ne.mpr c60
        have c60b1 : (t601 != 3) = true := bne_iff_ne.mpr c60
        by_cases c72 : t601 = 4
        ·rw [if_pos c72] at H
         have c72b0 : (t601 == 4) = true := beq_iff_eq.mpr c72
         have c72b1 : (t601 != 4) = false := bne_eq_false_iff_eq.mpr c72
         clear c72
         replace H := Option.bind_eq_some_iff.mp H
         obtain ⟨⟨t618, t619⟩, A730, H⟩ := H
         try dsimp only at H
         have A73 := Aside0.mk A730
         clear A730
         by_cases c74 : 0 ≤ t599
         ·rw [if_pos c74] at H
          have c74b0 : decide (0 ≤ t599) = true := decide_eq_true c74
          clear c74
          by_cases c75 : t599 < (x3_3.length : Int)
          ·rw [if_pos c75] at H
           have c75b0 : decide (t599 < (x3_3.length : Int)) = true := decide_eq_true c75
           clear c75
           obtain ⟨y620, hy620⟩ : ∃ y_ : List (S38), y_ = (x3_3.set (t599 : Int).toNat (⟨(rd_T38 x3_3 t599).f0, (rd_T38 x3_3 t599).f1, wrap64 (t618 - 1), (rd_T38 x3_3 t599).f3, (rd_T38 x3_3 t599).f4, (rd_T38 x3_3 t599).f5⟩ : S38)) := ⟨_, rfl⟩
           replace H : (some (y620, t619)) = some (r1, r2) := by first | (rw [hy620]; with_reducible exact H) | (have H2_ := (Option.bind_some _ _).symm.trans H; rw [hy620]; with_reducible exact H2_) | (have H2_ := (Option.bind_some _ _).symm.trans H; with_reducible exact H2_) | with_reducible exact H | (rw [hy620]; exact H) | exact H
           have Ny620 := Aside0.mk hy620
           clear hy620
           simp only [Option.some.injEq, Prod.mk.injEq] at H
           obtain ⟨rfl, rfl⟩ := H
           go_wp2_with (first | ((with_reducible refine gate_callee (f := 36) rfl ?_); refine gl 21 Try.func36 #[.pointer (some ⟨g, 0, none⟩), .int .i64 4] ?_; (with_reducible refine (spec_l20Rd_pick.calls kj3 g s0_0 x1001_3 4 t597 t598 w0 _ ?side1 ?side2 A17.out).mono ?_); (case side1 => exact zI21HI0); (case side2 => exact zB21HI0); rintro e w77 ⟨rfl, hi, hb, hk⟩; refine ⟨_, rfl, ?_⟩; replace HO_3 := Aside0.mk (Kd.R_mono (Kd.R_keep (IsS69.apart (show IsS69 w0 _ g s0_0 x1001_3 from zI21HI0) (by (with_reducible repeat (first | apply Kd.R_alloc | apply Kd.R_drewN | apply Kd.R_drew)); exact HO_3.out) (by decide)) hk (fun _ h => h.2)) (fun _ h => h.1)); replace HK := Aside0.mk (KeepBut.trans zK21 hk (.inl rfl)); replace HB := Aside0.mk hb; replace HI0 := Aside0.mk hi; (try clear hb); (try clear hb2); (try clear hk); (try clear hi); obtain ⟨Ao78, co78, eo78⟩ := Kd.R_slice HO_3.out; subst eo78) | ((with_reducible refine gate_callee (f := 36) rfl ?_); refine gl 26 Try.func36 #[.pointer (some ⟨g, 0, none⟩), .int .i64 (x3_3.length : Int)] ?_; (with_reducible refine (spec_l20Rd_pick.calls kj3 g s0_0 t598 (x3_3.length : Int) t599 t600 w0 _ ?side1 ?side2 A19.out).mono ?_); (case side1 => exact zI21HI0); (case side2 => exact zB21HI0); rintro e w79 ⟨rfl, hi, hb, hk⟩; refine ⟨_, rfl, ?_⟩; replace HO_3 := Aside0.mk (Kd.R_mono (Kd.R_keep (IsS69.apart (show IsS69 w0 _ g s0_0 t598 from zI21HI0) (by (with_reducible repeat (first | apply Kd.R_alloc | apply Kd.R_drewN | apply Kd.R_drew)); exact HO_3.out) (by decide)) hk (fun _ h => h.2)) (fun _ h => h.1)); replace HK := Aside0.mk (KeepBut.trans zK21 hk (.inl rfl)); replace HB := Aside0.mk hb; replace HI0 := Aside0.mk hi; (try clear hb); (try clear hb2); (try clear hk); (try clear hi)) | ((with_reducible refine gate_callee (f := 36) rfl ?_); refine gl 28 Try.func36 #[.pointer (some ⟨g, 0, none⟩), .int .i64 6] ?_; (with_reducible refine (spec_l20Rd_pick.calls kj3 g s0_0 t600 6 t601 t602 w0 _ ?side1 ?side2 A20.out).mono ?_); (case side1 => exact zI21HI0); (case side2 => exact zB21HI0); rintro e w80 ⟨rfl, hi, hb, hk⟩; refine ⟨_, rfl, ?_⟩; replace HO_3 := Aside0.mk (Kd.R_mono (Kd.R_keep (IsS69.apart (show IsS69 w0 _ g s0_0 t600 from zI21HI0) (by (with_reducible repeat (first | apply Kd.R_alloc | apply Kd.R_drewN | apply Kd.R_drew)); exact HO_3.out) (by decide)) hk (fun _ h => h.2)) (fun _ h => h.1)); replace HK := Aside0.mk (KeepBut.trans zK21 hk (.inl rfl)); replace HB := Aside0.mk hb; replace HI0 := Aside0.mk hi; (try clear hb); (try clear hb2); (try clear hk); (try clear hi)) | ((with_reducible refine gate_callee (f := 36) rfl ?_); refine gl 80 Try.func36 #[.pointer (some ⟨g, 0, none⟩), .int .i64 12] ?_; (with_reducible refine (spec_l20Rd_pick.calls kj3 g s0_0 t602 12 t618 t619 w0 _ ?side1 ?side2 A73.out).mono ?_); (case side1 => exact zI21HI0); (case side2 => exact zB21HI0); rintro e w81 ⟨rfl, hi, hb, hk⟩; refine ⟨_, rfl, ?_⟩; replace HO_3 := Aside0.mk (Kd.R_mono (Kd.R_keep (IsS69.apart (show IsS69 w0 _ g s0_0 t602 from zI21HI0) (by (with_reducible repeat (first | apply Kd.R_alloc | apply Kd.R_drewN | apply Kd.R_drew)); exact HO_3.out) (by decide)) hk (fun _ h => h.2)) (fun _ h => h.1)); replace HK := Aside0.mk (KeepBut.trans zK21 hk (.inl rfl)); replace HB := Aside0.mk hb; replace HI0 := Aside0.mk hi; (try clear hb); (try clear hb2); (try clear hk); (try clear hi); have p76 : 0 ≤ (t599 : Int) := dz21; have q76 : (t599 : Int) < ((x3_3.length : Int) : Int) := dz21; obtain ⟨go76, co76, eo76, gb76, gl76, cl76, HG76⟩ := Kd.R_form HO_3.out (by omega); (first | cases eo76 | (injection eo76 with ea_ en_ ec_; (first | subst ea_ | (injection ea_ with ea_; subst ea_)); subst ec_; clear en_)); have GB76 := Aside0.mk gb76; have GG76 := Aside0.mk HG76; clear gb76 gl76 HG76; obtain ⟨ce76, hcl76, hM76, hcc76, hfr76⟩ := Kd.R_elem HO_3.out z38 (t599 : Int) p76 q76; obtain rfl := k38_openM hM76; have hx76_0 : w81.cell? ⟨go76, (t599 : Int).toNat * 6, none⟩ = some (.int .i64 ((rd_T38 x3_3 t599).f0)) := hcc76 0 _ rfl; have hx76_1 : w81.cell? ⟨go76, (t599 : Int).toNat * 6 + 1, none⟩ = some (.int .i64 ((rd_T38 x3_3 t599).f1)) := hcc76 1 _ rfl; have hx76_2 : w81.cell? ⟨go76, (t599 : Int).toNat * 6 + 2, none⟩ = some (.int .i64 ((rd_T38 x3_3 t599).f2)) := hcc76 2 _ rfl; have hx76_3 : w81.cell? ⟨go76, (t599 : Int).toNat * 6 + 3, none⟩ = some (.int .i64 ((rd_T38 x3_3 t599).f3)) := hcc76 3 _ rfl; have hx76_4 : w81.cell? ⟨go76, (t599 : Int).toNat * 6 + 4, none⟩ = some (.int .i64 ((rd_T38 x3_3 t599).f4)) := hcc76 4 _ rfl; have hx76_5 : w81.cell? ⟨go76, (t599 : Int).toNat * 6 + 5, none⟩ = some (.int .i64 ((rd_T38 x3_3 t599).f5)) := hcc76 5 _ rfl; have hf76_0 : w81.frozen? ⟨go76, (t599 : Int).toNat * 6, none⟩ = false := hfr76 0; have hf76_1 : w81.frozen? ⟨go76, (t599 : Int).toNat * 6 + 1, none⟩ = false := hfr76 1; have hf76_2 : w81.frozen? ⟨go76, (t599 : Int).toNat * 6 + 2, none⟩ = false := hfr76 2; have hf76_3 : w81.frozen? ⟨go76, (t599 : Int).toNat * 6 + 3, none⟩ = false := hfr76 3; have hf76_4 : w81.frozen? ⟨go76, (t599 : Int).toNat * 6 + 4, none⟩ = false := hfr76 4; have hf76_5 : w81.frozen? ⟨go76, (t599 : Int).toNat * 6 + 5, none⟩ = false := hfr76 5; clear hcl76 hcc76 hfr76 hM76; replace p76 := eq_true p76; replace q76 := eq_true q76; have HX82 := Aside0.mk (show Kd.R k38 38 w81 w.heap.size (fun _ => True) (.slice (some ⟨go76, 0, none⟩) x3_3.length co78) x3_3 from (by (with_reducible repeat (first | apply Kd.R_alloc | apply Kd.R_drewN | apply Kd.R_drew)); exact HO_3.out)); obtain ⟨ce82, hcl82, hM82, hcc82, hfr82⟩ := Kd.R_elem HX82.out z38 (t599 : Int) (dz21) (by have h_ : (t599 : Int) < ((x3_3.length : Int) : Int) := dz21; first | exact h_ | (have e_ := (Kd.R_reads' HO_3.out).1; omega) | simpa using h_); obtain rfl := k38_openM hM82; have HP82 := Kd.R_seg HX82.out (t599 : Int) (dz21) (by have h_ : (t599 : Int) < ((x3_3.length : Int) : Int) := dz21; first | exact h_ | (have e_ := (Kd.R_reads' HO_3.out).1; omega) | simpa using h_) (seg := [.int .i64 (wrap64 (t618 - 1))]) (j := 2) hcl82 hcc82 (show 3 ≤ 6 from by decide) (x' := (⟨(rd_T38 x3_3 t599).f0, (rd_T38 x3_3 t599).f1, wrap64 (t618 - 1), (rd_T38 x3_3 t599).f3, (rd_T38 x3_3 t599).f4, (rd_T38 x3_3 t599).f5⟩ : S38)) (k38_mkM _ _ _ (⟨(rd_T38 x3_3 t599).f0, (rd_T38 x3_3 t599).f1, wrap64 (t618 - 1), (rd_T38 x3_3 t599).f3, (rd_T38 x3_3 t599).f4, (rd_T38 x3_3 t599).f5⟩ : S38) ) (fun _ hk => hk); have hx82_2 := hcc82 2 _ rfl; (try simp only [show (k38).sz = 6 from rfl, Nat.mul_one, Nat.add_zero] at hx82_2); have hf82_2 := hfr82 2; (try simp only [show (k38).sz = 6 from rfl, Nat.mul_one, Nat.add_zero] at hf82_2); clear hcl82 hcc82 hfr82 hM82) | ((with_reducible refine gate_store (t := 3) (p := 83) rfl ?_); refine store_event (t := 3) (p := 83) (v := ?vo_w83) (w1 := (w81.setCell ⟨go76, (t599 : Int).toNat * 6 + 2, none⟩ (.int .i64 (wrap64 (t618 - 1))))) ?hg ?ho ?hn ?hr ?_; (case ho => rfl); (case hg => rfl); (case hn => rfl); (case hr => first | (go_simp; done) | (go_simp; rfl)); intro w83 hw; have hg : w81.grownBy w83 (some go76) := (by rw [hw]; exact HP82.2); have hp_ : Kd.R k38 38 w83 w.heap.size (fun _ => True) (.slice (some ⟨go76, 0, none⟩) x3_3.length co78) y620 := (by rw [hw, Ny620.out]; exact HP82.1); clear HP82; replace HI0 := Aside0.mk (IsS69.grown zI21HI0 hg (IsS69.own_ne HI0.out HO_3.out (by decide))); replace HB := Aside0.mk ((by rw [hw]; exact below_set (HB.out) (Nat.le_trans HL.out GB76.out) : Below w0.heap.size w0 w83)); replace HK := Aside0.mk (KeepBut.trans zK21 (KeepBut.of_grown hg g) (Kd.R_base2 HO_3.out)); replace HO_3 := Aside0.mk hp_; clear hg hw hp_))
           go_ret
           exact ⟨_, zR, by (with_reducible repeat (first | apply Kd.R_alloc | apply Kd.R_drewN | apply Kd.R_drew)); exact HO_3.out, zI21HI0, zB21HI0, zK21⟩
          ·rw [if_neg c75] at H
           exact absurd H (by simp)
         ·rw [if_neg c74] at H
          exact absurd H (by simp)
        ·rw [if_neg c72] at H
         have c72b0 : (t601 == 4) = false := beq_eq_false_iff_ne.mpr c72
         have c72b1 : (t601 != 4) = true := bne_iff_ne.mpr c72
         obtain ⟨y621, hy621⟩ : ∃ y_ : List (S38), y_ = (([] : List (S38))) := ⟨_, rfl⟩
         replace H : (if 0 ≤ t599 then (if t599 ≤ (x3_3.length : Int) then ((some (x3_3.take (t599 : Int).toNat : List (S38))).bind fun y624 => (if y621.length + y624.length < 2932031007402 then ((some (y621 ++ y624 : List (S38))).bind fun y629 => ((spec_l20Alu.f kj3 s0_0 t602).bind fun bt632 => (if y629.length < 2932031007402 then ((some (y629 ++ [(⟨bt632.1, bt632.2.1, bt632.2.2.1, bt632.2.2.2.1, bt632.2.2.2.2.1, bt632.2.2.2.2.2.1⟩ : S38)] : List (S38))).bind fun y639 => ((some (x3_3.drop (t599 : Int).toNat : List (S38))).bind fun y642 => (if y639.length + y642.length < 2932031007402 then (some ((y639 ++ y642), bt632.2.2.2.2.2.2)) else (none)))) else (none)))) else (none))) else (none)) else (none)) = some (r1, r2) := by first | (rw [hy621]; with_reducible exact H) | (have H2_ := (Option.bind_some _ _).symm.trans H; rw [hy621]; with_reducible exact H2_) | (have H2_ := (Option.bind_some _ _).symm.trans H; with_reducible exact H2_) | with_reducible exact H | (rw [hy621]; exact H) | exact H
         have Ny621 := Aside0.mk hy621
         clear hy621
         by_cases c84 : 0 ≤ t599
         ·rw [if_pos c84] at H
          have c84b0 := eq_true c84
          have c84b1 : decide (0 ≤ t599) = true := decide_eq_true c84
          clear c84
          by_cases c85 : t599 ≤ (x3_3.length : Int)
          ·rw [if_pos c85] at H
           have c85b0 := eq_true c85
           have c85b1 : decide (t599 ≤ (x3_3.length : Int)) = true := decide_eq_true c85
           clear c85
           obtain ⟨y624, hy624⟩ : ∃ y_ : List (S38), y_ = (x3_3.take (t599 : Int).toNat) := ⟨_, rfl⟩
           replace H : (if y621.length + y624.length < 2932031007402 then ((some (y621 ++ y624 : List (S38))).bind fun y629 => ((spec_l20Alu.f kj3 s0_0 t602).bind fun bt632 => (if y629.length < 2932031007402 then ((some (y629 ++ [(⟨bt632.1, bt632.2.1, bt632.2.2.1, bt632.2.2.2.1, bt632.2.2.2.2.1, bt632.2.2.2.2.2.1⟩ : S38)] : List (S38))).bind fun y639 => ((some (x3_3.drop (t599 : Int).toNat : List (S38))).bind fun y642 => (if y639.length + y642.length < 2932031007402 then (some ((y639 ++ y642), bt632.2.2.2.2.2.2)) else (none)))) else (none)))) else (none)) = some (r1, r2) := by first | (rw [hy624]; with_reducible exact H) | (have H2_ := (Option.bind_some _ _).symm.trans H; rw [hy624]; with_reducible exact H2_) | (have H2_ := (Option.bind_some _ _).symm.trans H; with_reducible exact H2_) | with_reducible exact H | (rw [hy624]; exact H) | exact H
           have Ny624 := Aside0.mk hy624
           clear hy624
           by_cases c86 : y621.length + y624.length < 2932031007402
           ·rw [if_pos c86] at H
            have LMc86 := Aside0.mk c86
            clear c86
            obtain ⟨y629, hy629⟩ : ∃ y_ : List (S38), y_ = (y621 ++ y624) := ⟨_, rfl⟩
            replace H : ((spec_l20Alu.f kj3 s0_0 t602).bind fun bt632 => (if y629.length < 2932031007402 then ((some (y629 ++ [(⟨bt632.1, bt632.2.1, bt632.2.2.1, bt632.2.2.2.1, bt632.2.2.2.2.1, bt632.2.2.2.2.2.1⟩ : S38)] : List (S38))).bind fun y639 => ((some (x3_3.drop (t599 : Int).toNat : List (S38))).bind fun y642 => (if y639.length + y642.length < 2932031007402 then (some ((y639 ++ y642), bt632.2.2.2.2.2.2)) else (none)))) else (none))) = some (r1, r2) := by first | (rw [hy629]; with_reducible exact H) | (have H2_ := (Option.bind_some _ _).symm.trans H; rw [hy629]; with_reducible exact H2_) | (have H2_ := (Option.bind_some _ _).symm.trans H; with_reducible exact H2_) | with_reducible exact H | (rw [hy629]; exact H) | exact H
            have Ny629 := Aside0.mk hy629
            clear hy629
            replace H := Option.bind_eq_some_iff.mp H
            obtain ⟨⟨t632, t633, t634, t635, t636, t637, t638⟩, A870, H⟩ := H
            try dsimp only at H
            have A87 := Aside0.mk A870
            clear A870
            by_cases c88 : y629.length < 2932031007402
            ·rw [if_pos c88] at H
             have LMc88 := Aside0.mk c88
             clear c88
             obtain ⟨y639, hy639⟩ : ∃ y_ : List (S38), y_ = (y629 ++ [(⟨t632, t633, t634, t635, t636, t637⟩ : S38)]) := ⟨_, rfl⟩
             replace H : ((some (x3_3.drop (t599 : Int).toNat : List (S38))).bind fun y642 => (if y639.length + y642.length < 2932031007402 then (some ((y639 ++ y642), t638)) else (none))) = some (r1, r2) := by first | (rw [hy639]; with_reducible exact H) | (have H2_ := (Option.bind_some _ _).symm.trans H; rw [hy639]; with_reducible exact H2_) | (have H2_ := (Option.bind_some _ _).symm.trans H; with_reducible exact H2_) | with_reducible exact H | (rw [hy639]; exact H) | exact H
             have Ny639 := Aside0.mk hy639
             clear hy639
             have c89b0 := eq_true (dz21 : 0 ≤ t599)
             have c90b0 := eq_true (dz21 : t599 ≤ (x3_3.length : Int))
             obtain ⟨y642, hy642⟩ : ∃ y_ : List (S38), y_ = (x3_3.drop (t599 : Int).toNat) := ⟨_, rfl⟩
             replace H : (if y639.length + y642.length < 2932031007402 then (some ((y639 ++ y642), t638)) else (none)) = some (r1, r2) := by first | (rw [hy642]; with_reducible exact H) | (have H2_ := (Option.bind_some _ _).symm.trans H; rw [hy642]; with_reducible exact H2_) | (have H2_ := (Option.bind_some _ _).symm.trans H; with_reducible exact H2_) | with_reducible exact H | (rw [hy642]; exact H) | exact H
             have Ny642 := Aside0.mk hy642
             clear hy642
             by_cases c91 : y639.length + y642.length < 2932031007402
             ·rw [if_pos c91] at H
              have LMc91 := Aside0.mk c91
              clear c91
              obtain ⟨y647, hy647⟩ : ∃ y_ : List (S38), y_ = (y639 ++ y642) := ⟨_, rfl⟩
              replace H : (some (y647, t638)) = some (r1, r2) := by first | (rw [hy647]; with_reducible exact H) | (have H2_ := (Option.bind_some _ _).symm.trans H; rw [hy647]; with_reducible exact H2_) | (have H2_ := (Option.bind_some _ _).symm.trans H; with_reducible exact H2_) | with_reducible exact H | (rw [hy647]; exact H) | exact H
              have Ny647 := Aside0.mk hy647
              clear hy647
              simp only [Option.some.injEq, Prod.mk.injEq] at H
              obtain ⟨rfl, rfl⟩ := H
              try go_wp2_with (first | ((with_reducible refine gate_callee (f := 36) rfl ?_); refine gl 21 Try.func36 #[.pointer (some ⟨g, 0, none⟩), .int .i64 4] ?_; (with_reducible refine (spec_l20Rd_pick.calls kj3 g s0_0 x1001_3 4 t597 t598 w0 _ ?side1 ?side2 A17.out).mono ?_); (case side1 => exact zI21HI0); (case side2 => exact zB21HI0); rintro e w92 ⟨rfl, hi, hb, hk⟩; refine ⟨_, rfl, ?_⟩; replace HO_3 := Aside0.mk (Kd.R_mono (Kd.R_keep (IsS69.apart (show IsS69 w0 _ g s0_0 x1001_3 from zI21HI0) (by (with_reducible repeat (first | apply Kd.R_alloc | apply Kd.R_drewN | apply Kd.R_drew)); exact HO_3.out) (by decide)) hk (fun _ h => h.2)) (fun _ h => h.1)); replace HK := Aside0.mk (KeepBut.trans zK21 hk (.inl rfl)); replace HB := Aside0.mk hb; replace HI0 := Aside0.mk hi; (try clear hb); (try clear hb2); (try clear hk); (try clear hi); obtain ⟨Ao93, co93, eo93⟩ := Kd.R_slice HO_3.out; subst eo93) | ((with_reducible refine gate_callee (f := 36) rfl ?_); refine gl 26 Try.func36 #[.pointer (some ⟨g, 0, none⟩), .int .i64 (x3_3.length : Int)] ?_; (with_reducible refine (spec_l20Rd_pick.calls kj3 g s0_0 t598 (x3_3.length : Int) t599 t600 w0 _ ?side1 ?side2 A19.out).mono ?_); (case side1 => exact zI21HI0); (case side2 => exact zB21HI0); rintro e w94 ⟨rfl, hi, hb, hk⟩; refine ⟨_, rfl, ?_⟩; replace HO_3 := Aside0.mk (Kd.R_mono (Kd.R_keep (IsS69.apart (show IsS69 w0 _ g s0_0 t598 from zI21HI0) (by (with_reducible repeat (first | apply Kd.R_alloc | apply Kd.R_drewN | apply Kd.R_drew)); exact HO_3.out) (by decide)) hk (fun _ h => h.2)) (fun _ h => h.1)); replace HK := Aside0.mk (KeepBut.trans zK21 hk (.inl rfl)); replace HB := Aside0.mk hb; replace HI0 := Aside0.mk hi; (try clear hb); (try clear hb2); (try clear hk); (try clear hi)) | ((with_reducible refine gate_callee (f := 36) rfl ?_); refine gl 28 Try.func36 #[.pointer (some ⟨g, 0, none⟩), .int .i64 6] ?_; (with_reducible refine (spec_l20Rd_pick.calls kj3 g s0_0 t600 6 t601 t602 w0 _ ?side1 ?side2 A20.out).mono ?_); (case side1 => exact zI21HI0); (case side2 => exact zB21HI0); rintro e w95 ⟨rfl, hi, hb, hk⟩; refine ⟨_, rfl, ?_⟩; replace HO_3 := Aside0.mk (Kd.R_mono (Kd.R_keep (IsS69.apart (show IsS69 w0 _ g s0_0 t600 from zI21HI0) (by (with_reducible repeat (first | apply Kd.R_alloc | apply Kd.R_drewN | apply Kd.R_drew)); exact HO_3.out) (by decide)) hk (fun _ h => h.2)) (fun _ h => h.1)); replace HK := Aside0.mk (KeepBut.trans zK21 hk (.inl rfl)); replace HB := Aside0.mk hb; replace HI0 := Aside0.mk hi; (try clear hb); (try clear hb2); (try clear hk); (try clear hi)))
              replace HO_3 := Aside0.mk (Kd.R_drew HO_3.out)
              replace HI0 := Aside0.mk (IsS69.drew HI0.out)
              replace HK := Aside0.mk (keep_drew HK.out)
              replace HB := Aside0.mk (below_drew1 HB.out)
              have q97 : (t599 : Int) ≤ ((x3_3.length : Int) : Int) := dz21
              obtain ⟨i097, hi097, _, hsz97, _⟩ := info_parts info38
              have hroom97 : x3_3.length ≤ co93 := (Kd.R_reads' HO_3.out).2.1
              have hC97 : Kd.F k38 _ _ Ao93 x3_3.length x3_3 := (Kd.V_at (base := w.heap.size) (Kd.R_V (IsS69.apart HI0.out (HO_3.out) (by decide)))).2.2
              have hcut97 := cut_to (P := Try.prog) 25 38 .i64 Try.underlying25 hi097 Ao93 x3_3.length co93 t599 (dz21) q97 hroom97
              have hr97 := Kd.F_take (m := (t599 : Int).toNat) hC97 (by omega)
              have hy97 : y624.length = (t599 : Int).toNat := (by rw [Ny624.out, List.length_take]; omega)
              rw [← Ny624.out] at hr97
              rw [← hy97] at hcut97
              have HO628 := Aside0.mk (show Kd.V k38 38 _ w.heap.size _ (.slice Ao93 y624.length co93) y624 from Kd.V_mk (by omega) hr97)
              have HC628 := Aside0.mk (show y624.length ≤ co93 from by omega)
              clear hr97 hC97 hroom97 hi097 hsz97
              have KY97 := Aside0.mk hy97
              clear hy97
              replace q97 := eq_true q97
              have q98 : (t599 : Int) ≤ ((x3_3.length : Int) : Int) := dz21
              obtain ⟨i098, hi098, _, hsz98, _⟩ := info_parts info38
              have hroom98 : x3_3.length ≤ co93 := (Kd.R_reads' HO_3.out).2.1
              have hC98 : Kd.F k38 _ _ Ao93 x3_3.length x3_3 := (Kd.V_at (base := w.heap.size) (Kd.R_V (IsS69.apart HI0.out (HO_3.out) (by decide)))).2.2
              have q098 : (0 : Int) ≤ (t599 : Int) := dz21
              have hcut98 := cut_from (P := Try.prog) 25 38 .i64 Try.underlying25 hi098 6 hsz98 Ao93 x3_3.length co93 t599 q098 q98
              have hr98 := Kd.F_cut (m := (t599 : Int).toNat) (c := co93) hC98 (by omega) hroom98
              obtain ⟨A98, hA98⟩ : ∃ A1, A1 = (if co93 = (t599 : Int).toNat then Ao93 else (Ao93 : Option Addr).map (·.add ((t599 : Int).toNat * 6))) := ⟨_, rfl⟩
              obtain ⟨c98, hc98⟩ : ∃ c1, c1 = co93 - (t599 : Int).toNat := ⟨_, rfl⟩
              have hy98 : y642.length = x3_3.length - (t599 : Int).toNat := (by rw [Ny642.out, List.length_drop] <;> omega)
              rw [show (x3_3).drop (t599 : Int).toNat = y642 from Ny642.out.symm] at hr98
              replace hr98 : Kd.F k38 _ _ A98 y642.length y642 := (by rw [hA98]; exact hr98)
              rw [← hy98, ← hA98, ← hc98] at hcut98
              have HO646 := Aside0.mk (show Kd.V k38 38 _ w.heap.size _ (.slice A98 y642.length c98) y642 from Kd.V_mk (by rw [hy98, hc98]; exact Nat.sub_le_sub_right hroom98 _) hr98)
              have HC646 := Aside0.mk (show y642.length ≤ c98 from by rw [hy98, hc98]; exact Nat.sub_le_sub_right hroom98 _)
              clear hr98 hC98 hroom98 hi098 hsz98 hc98
              have KY98 := Aside0.mk hy98
              have KA98 := Aside0.mk hA98
              clear hy98 hA98
              replace q98 := eq_true q98
              refine start_ (n := 14) (S := fun w' => True) (ds := []) #[false, false, false, false, false, false, false, false, false, false, false, false, false, false] (by kernel_rfl) rfl rfl trivial (fun hHeld => ?_); refine with_tabW spec_l20Prog.tab8 spec_l20Prog.bits8 (fun HT_ HW_ => ?_)
              generalize w95.drew = w96 at HO_3 HI0 HK HB HO628 HO646 hHeld ⊢
              refine pz 1 30 ?_
              refine pz 2 31 ?_
              refine pz 3 32 ?_
              refine pz 5 34 ?_
              refine pz 9 38 ?_
              refine pz 10 39 ?_
              refine pz 11 40 ?_
              refine oz 0 29 fun K hK => ?_
              refine Kd.R_lit_step k38 _ 38 ?hg (N := 29) ?hd (xs := ([] : List (S38))) (inner := []) (ok := fun _ => True) (okp := fun _ => True) ?hr ?hp (fun _ hk => hk) trivial (Below.refl _ _) (Nat.le_refl _) (by simp) ?_; (case hd => rfl); (case hg => rfl); (case hr => first | (go_simp; done) | (go_simp; rfl)); (case hp => exact (Reps.none _ _))
              intro v622 w99 ho100 hb hg_ hnew_
              clear hg_ hnew_
              (first | rw [← Ny621.out] at ho100 | (simp only [Int.reduceToNat] at ho100; rw [← Ny621.out] at ho100))
              replace HO628 := Aside0.mk (Kd.V_elder' (by (with_reducible repeat (first | apply Kd.V_alloc | apply Kd.V_drewN | apply Kd.V_drew)); exact HO628.out) (Kd.R_base ho100) hb)
              replace HO646 := Aside0.mk (Kd.V_elder' (by (with_reducible repeat (first | apply Kd.V_alloc | apply Kd.V_drewN | apply Kd.V_drew)); exact HO646.out) (Kd.R_base ho100) hb)
              have HO623 := Aside0.mk (Kd.R_lower (Kd.R_new' ho100 (Kd.R_lt (by (with_reducible repeat (first | apply Kd.R_alloc | apply Kd.R_drewN | apply Kd.R_drew)); exact HO_3.out))) (keep_size (w := w) (g := g) (row := none) zK21))
              replace HO_3 := Aside0.mk (Kd.R_elder' (by (with_reducible repeat (first | apply Kd.R_alloc | apply Kd.R_drewN | apply Kd.R_drew)); exact HO_3.out) (Kd.R_base ho100) hb)
              replace HK := Aside0.mk (KeepBut.trans zK21 (KeepBut.of_below hb g none) (.inl rfl))
              replace HB := Aside0.mk (below_step (zB21HI0) hb)
              replace HI0 := Aside0.mk (IsS69.below zI21HI0 hb)
              clear hb ho100
              refine hK.out _ _ trivial (fun hHeld => ?_)
              clear hK K
              refine nz ?_
              refine oz 4 33 fun K hK => ?_
              refine Kd.R_append_rows_step k38 w.heap.size (by rfl) (.tmp 29) (.tmp 32) 25 38 (.agg #[(.int .i64 0), (.int .i64 0), (.int .i64 0), (.int .i64 0), (.int .i64 0), (.int .i64 0)]) 48 rfl Try.underlying25 info38 rfl (by decide) (by omega) v622 y621 y624 _ _ _ (fun k_ => some k_ ≠ (.slice Ao93 x3_3.length co93 : Value).ownBlock) (fun _ => False) rfl rfl ?aO ?aR (fun _ _ h => h) (fun _ h => h.elim) ?aF (Below.refl _ _) ?aS ?aL ?_
              (case aR => repeat (first | exact (Kd.V_reads' HO628.out).2.2 | (with_reducible refine Kd.C_alloc ?_ _) | (with_reducible refine Kd.C_drewN ?_ _) | (with_reducible refine Kd.C_drew ?_)))
              (case aF => exact (fun k_ hk => Kd.fresh' (Kd.R_lt (by (with_reducible repeat (first | apply Kd.R_alloc | apply Kd.R_drewN | apply Kd.R_drew)); exact HO_3.out)) k_ hk))
              (case aO => exact (by (with_reducible repeat (first | apply Kd.R_alloc | apply Kd.R_drewN | apply Kd.R_drew)); exact Kd.R_mono HO623.out (fun _ hk => hk.2)))
              (case aS => exact (keep_size (w := w) (g := g) (row := none) zK21))
              (case aL => have := LMc86.out; omega)
              intro v630 w101 ho hb hg hat
              rw [← Ny629.out] at ho
              have n0_ := Aside0.mk (Kd.R_after (ok := (fun _ => True)) (by (with_reducible repeat (first | apply Kd.R_alloc | apply Kd.R_drewN | apply Kd.R_drew)); exact HO_3.out) hg hat)
              have n1_ := Aside0.mk (IsS69.grown zI21HI0 hg (IsS69.own_ne HI0.out HO623.out (by decide)))
              have n2_ := Aside0.mk (Kd.V_afterv (ok := (fun k_ => k_ ≠ g)) (by (with_reducible repeat (first | apply Kd.V_alloc | apply Kd.V_drewN | apply Kd.V_drew)); exact Kd.V_mono HO628.out (fun _ hk => ⟨hk.1.2, hk.2⟩)) hg hat)
              have n3_ := Aside0.mk (Kd.V_afterv (ok := (fun k_ => k_ ≠ g)) (by (with_reducible repeat (first | apply Kd.V_alloc | apply Kd.V_drewN | apply Kd.V_drew)); exact Kd.V_mono HO646.out (fun _ hk => ⟨hk.1.2, hk.2⟩)) hg hat)
              have n4_ := Aside0.mk (below_weaken (zB21HI0) HL.out hb)
              have n5_ := Aside0.mk (KeepBut.trans zK21 (KeepBut.of_grown hg g) (Kd.R_base2 HO623.out))
              have n6_ := Aside0.mk (ho)
              clear HO_3
              clear HI0
              clear HO628
              clear HO646
              clear HB
              clear HK
              clear HO623
              have HO_3 := n0_
              have HI0 := n1_
              have HO628 := n2_
              have HO646 := n3_
              have HB := n4_
              have HK := n5_
              have HO631 := n6_
              clear n0_ n1_ n2_ n3_ n4_ n5_ n6_
              clear ho hb hg hat
              refine hK.out _ _ trivial (fun hHeld => ?_)
              clear hK K
              refine nz ?_
              refine oz 6 35 fun K hK => ?_
              refine gz Try.func54 #[.pointer (some ⟨g, 0, none⟩)] ?_
              with_reducible refine (spec_l20Alu.calls kj3 g s0_0 t602 t632 t633 t634 t635 t636 t637 t638 w0 _ ?side1 ?side2 A87.out).mono ?_
              (case side1 => exact zI21HI0)
              (case side2 => exact zB21HI0)
              rintro e w102 ⟨rfl, hi, hb, hk⟩
              refine ⟨_, rfl, ?_⟩
              replace HO_3 := Aside0.mk (Kd.R_mono (Kd.R_keep (IsS69.apart (show IsS69 w0 _ g s0_0 t602 from zI21HI0) (by (with_reducible repeat (first | apply Kd.R_alloc | apply Kd.R_drewN | apply Kd.R_drew)); exact HO_3.out) (by decide)) hk (fun _ h => h.2)) (fun _ h => h.1))
              replace HO628 := Aside0.mk (Kd.V_mono (Kd.V_keep (Kd.V_mono (ok := fun k_ => (k_ ≠ g ∧ some k_ ≠ (v630 : Value).ownBlock)) (by (with_reducible repeat (first | apply Kd.V_alloc | apply Kd.V_drewN | apply Kd.V_drew)); exact HO628.out) (fun k_ hk_ => (⟨hk_, hk_.1⟩ : _ ∧ k_ ≠ g))) hk (fun _ h => h.2)) (fun _ h => h.1))
              replace HO646 := Aside0.mk (Kd.V_mono (Kd.V_keep (Kd.V_mono (ok := fun k_ => (k_ ≠ g ∧ some k_ ≠ (v630 : Value).ownBlock)) (by (with_reducible repeat (first | apply Kd.V_alloc | apply Kd.V_drewN | apply Kd.V_drew)); exact HO646.out) (fun k_ hk_ => (⟨hk_, hk_.1⟩ : _ ∧ k_ ≠ g))) hk (fun _ h => h.2)) (fun _ h => h.1))
              replace HO631 := Aside0.mk (Kd.R_mono (Kd.R_keep (IsS69.apart (show IsS69 w0 _ g s0_0 t602 from zI21HI0) (by (with_reducible repeat (first | apply Kd.R_alloc | apply Kd.R_drewN | apply Kd.R_drew)); exact HO631.out) (by decide)) hk (fun _ h => h.2)) (fun _ h => h.1))
              replace HK := Aside0.mk (KeepBut.trans zK21 hk (.inl rfl))
              replace HB := Aside0.mk hb
              replace HI0 := Aside0.mk hi
              (try clear hb)
              (try clear hi)
              refine hK.out _ _ trivial (fun hHeld => ?_)
              clear hK K
              refine nz ?_
              refine oz 7 36 fun K hK => ?_
              refine value_ (w1 := ?_) (v := ?_) (by rfl) rfl ?_ ?_
              rotate_left 2
              ·go_simp
               constructor
               ·rfl
               ·rfl
              refine hK.out _ _ trivial (fun hHeld => ?_)
              clear hK K
              refine nz ?_
              refine oz 8 37 fun K hK => ?_
              refine Kd.R_append_step k38 w.heap.size (by rfl) (.tmp 33) (.tmp 36) 25 38 (.agg #[(.int .i64 0), (.int .i64 0), (.int .i64 0), (.int .i64 0), (.int .i64 0), (.int .i64 0)]) 48 rfl Try.underlying25 info38 rfl (by decide) (by omega) v630 y629 (⟨t632, t633, t634, t635, t636, t637⟩ : S38) [.int .i64 t632, .int .i64 t633, .int .i64 t634, .int .i64 t635, .int .i64 t636, .int .i64 t637] (fun k_ => some k_ ≠ (.slice Ao93 x3_3.length co93 : Value).ownBlock) (fun _ => False) rfl rfl ?aP (fun _ hk => hk.elim) ?aF ?aO (Below.refl _ _) ?aS ?aL ?_
              (case aP => exact k38_mkM _ _ _ (⟨t632, t633, t634, t635, t636, t637⟩ : S38))
              (case aF => exact (fun k_ hk => Kd.fresh' (Kd.R_lt (by (with_reducible repeat (first | apply Kd.R_alloc | apply Kd.R_drewN | apply Kd.R_drew)); exact HO_3.out)) k_ hk))
              (case aO => exact (by (with_reducible repeat (first | apply Kd.R_alloc | apply Kd.R_drewN | apply Kd.R_drew)); exact HO631.out))
              (case aS => exact (keep_size (w := w) (g := g) (row := none) zK21))
              (case aL => have := LMc88.out; omega)
              intro v640 w103 ho hb hg hat
              rw [← Ny639.out] at ho
              have n0_ := Aside0.mk (Kd.R_after (ok := (fun _ => True)) (by (with_reducible repeat (first | apply Kd.R_alloc | apply Kd.R_drewN | apply Kd.R_drew)); exact HO_3.out) hg hat)
              have n1_ := Aside0.mk (IsS69.grown zI21HI0 hg (IsS69.own_ne HI0.out HO631.out (by decide)))
              have n2_ := Aside0.mk (Kd.V_afterv (ok := (fun k_ => k_ ≠ g)) (by (with_reducible repeat (first | apply Kd.V_alloc | apply Kd.V_drewN | apply Kd.V_drew)); exact HO628.out) hg hat)
              have n3_ := Aside0.mk (Kd.V_afterv (ok := (fun k_ => k_ ≠ g)) (by (with_reducible repeat (first | apply Kd.V_alloc | apply Kd.V_drewN | apply Kd.V_drew)); exact HO646.out) hg hat)
              have n4_ := Aside0.mk (below_weaken (zB21HI0) HL.out hb)
              have n5_ := Aside0.mk (KeepBut.trans zK21 (KeepBut.of_grown hg g) (Kd.R_base2 HO631.out))
              have n6_ := Aside0.mk (ho)
              clear HO_3
              clear HI0
              clear HO628
              clear HO646
              clear HB
              clear HK
              clear HO631
              have HO_3 := n0_
              have HI0 := n1_
              have HO628 := n2_
              have HO646 := n3_
              have HB := n4_
              have HK := n5_
              have HO641 := n6_
              clear n0_ n1_ n2_ n3_ n4_ n5_ n6_
              clear ho hb hg hat
              refine hK.out _ _ trivial (fun hHeld => ?_)
              clear hK K
              refine nz ?_
              refine oz 12 41 fun K hK => ?_
              refine Kd.R_append_rows_step k38 w.heap.size (by rfl) (.tmp 37) (.tmp 40) 25 38 (.agg #[(.int .i64 0), (.int .i64 0), (.int .i64 0), (.int .i64 0), (.int .i64 0), (.int .i64 0)]) 48 rfl Try.underlying25 info38 rfl (by decide) (by omega) v640 y639 y642 _ _ _ (fun k_ => some k_ ≠ (.slice Ao93 x3_3.length co93 : Value).ownBlock) (fun _ => False) rfl rfl ?aO ?aR (fun _ _ h => h) (fun _ h => h.elim) ?aF (Below.refl _ _) ?aS ?aL ?_
              (case aR => repeat (first | exact (Kd.V_reads' HO646.out).2.2 | (with_reducible refine Kd.C_alloc ?_ _) | (with_reducible refine Kd.C_drewN ?_ _) | (with_reducible refine Kd.C_drew ?_)))
              (case aF => exact (fun k_ hk => Kd.fresh' (Kd.R_lt (by (with_reducible repeat (first | apply Kd.R_alloc | apply Kd.R_drewN | apply Kd.R_drew)); exact HO_3.out)) k_ hk))
              (case aO => exact (by (with_reducible repeat (first | apply Kd.R_alloc | apply Kd.R_drewN | apply Kd.R_drew)); exact HO641.out))
              (case aS => exact (keep_size (w := w) (g := g) (row := none) zK21))
              (case aL => have := LMc91.out; omega)
              intro v648 w104 ho hb hg hat
              rw [← Ny647.out] at ho
              have n0_ := Aside0.mk (Kd.R_after (ok := (fun _ => True)) (by (with_reducible repeat (first | apply Kd.R_alloc | apply Kd.R_drewN | apply Kd.R_drew)); exact HO_3.out) hg hat)
              have n1_ := Aside0.mk (IsS69.grown zI21HI0 hg (IsS69.own_ne HI0.out HO641.out (by decide)))
              have n2_ := Aside0.mk (Kd.V_afterv (ok := (fun k_ => k_ ≠ g)) (by (with_reducible repeat (first | apply Kd.V_alloc | apply Kd.V_drewN | apply Kd.V_drew)); exact HO628.out) hg hat)
              have n3_ := Aside0.mk (Kd.V_afterv (ok := (fun k_ => k_ ≠ g)) (by (with_reducible repeat (first | apply Kd.V_alloc | apply Kd.V_drewN | apply Kd.V_drew)); exact HO646.out) hg hat)
              have n4_ := Aside0.mk (below_weaken (zB21HI0) HL.out hb)
              have n5_ := Aside0.mk (KeepBut.trans zK21 (KeepBut.of_grown hg g) (Kd.R_base2 HO641.out))
              have n6_ := Aside0.mk (ho)
              clear HO_3
              clear HI0
              clear HO628
              clear HO646
              clear HB
              clear HK
              clear HO641
              have HO_3 := n0_
              have HI0 := n1_
              have HO628 := n2_
              have HO646 := n3_
              have HB := n4_
              have HK := n5_
              have HO649 := n6_
              clear n0_ n1_ n2_ n3_ n4_ n5_ n6_
              clear ho hb hg hat
              refine hK.out _ _ trivial (fun hHeld => ?_)
              clear hK K
              refine nz ?_
              refine pz 13 2 ?_
              refine done_ (done_of HT_.out (by kernel_rfl)) ?_
              try go_wp2
              go_ret
              exact ⟨_, zR, by (with_reducible repeat (first | apply Kd.R_alloc | apply Kd.R_drewN | apply Kd.R_drew)); exact Kd.R_mono HO649.out (fun _ hk => trivial), zI21HI0, zB21HI0, zK21⟩
             ·rw [if_neg c91] at H
              exact absurd H (by simp)
            ·rw [if_neg c88] at H
             exact absurd H (by simp)
           ·rw [if_neg c86] at H
            exact absurd H (by simp)
          ·rw [if_neg c85] at H
           exact absurd H (by simp)
         ·rw [if_neg c84] at H
          exact absurd H (by simp)
   ·rw [if_neg c18] at H
    have c18b0 : (t597 == 0) = false := beq_eq_false_iff_ne.mpr c18
    have c18b1 : (t597 != 0) = true := bne_iff_ne.mpr c18
    simp only [Option.some.injEq, Prod.mk.injEq] at H
    obtain ⟨rfl, rfl⟩ := H
    go_wp2_with (first | ((with_reducible refine gate_callee (f := 36) rfl ?_); refine gl 21 Try.func36 #[.pointer (some ⟨g, 0, none⟩), .int .i64 4] ?_; (with_reducible refine (spec_l20Rd_pick.calls kj3 g s0_0 x1001_3 4 t597 t598 w0 _ ?side1 ?side2 A17.out).mono ?_); (case side1 => exact zI21HI0); (case side2 => exact zB21HI0); rintro e w105 ⟨rfl, hi, hb, hk⟩; refine ⟨_, rfl, ?_⟩; replace HO_3 := Aside0.mk (Kd.R_mono (Kd.R_keep (IsS69.apart (show IsS69 w0 _ g s0_0 x1001_3 from zI21HI0) (by (with_reducible repeat (first | apply Kd.R_alloc | apply Kd.R_drewN | apply Kd.R_drew)); exact HO_3.out) (by decide)) hk (fun _ h => h.2)) (fun _ h => h.1)); replace HK := Aside0.mk (KeepBut.trans zK21 hk (.inl rfl)); replace HB := Aside0.mk hb; replace HI0 := Aside0.mk hi; (try clear hb); (try clear hb2); (try clear hk); (try clear hi)))
    go_ret
    exact ⟨_, zR, by (with_reducible repeat (first | apply Kd.R_alloc | apply Kd.R_drewN | apply Kd.R_drew)); exact HO_3.out, zI21HI0, zB21HI0, zK21⟩
end Go.Proofs.Ytdfgaaeieneaoaa.Q
