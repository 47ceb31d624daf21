/- The machine's side of this seat's laws: Go functions as Lean functions, and their contracts. By a program of this work over the kit's print. -/
import Derived.Test.YtllmbooicobmkaaGreatDoorQ0
import Derived.Test.YtllmbooicobmkaaGreatDoorQ2
import Derived.Test.YtllmbooicobmkaaGreatDoorQ8
import Derived.Test.YtllmbooicobmkaaGreatDoorQ9
import Derived.Test.YtllmbooicobmkaaGreatDoorQ10
import Derived.Test.YtllmbooicobmkaaGreatDoorQ11
namespace Go.Proofs.YtllmbooicobmkaaGreatDoor.Q
open Go.RowKit Go.Proofs.YtllmbooicobmkaaGreatDoorW.PrintWords Go.Proofs.YtllmbooicobmkaaGreatDoorW.PrintLast Go.Proofs.YtllmbooicobmkaaGreatDoorW.PrintMore
attribute [local go_sem] max2_int min2_int max_two min_two max_three min_three max_four min_four Go.Proofs.YtllmbooicobmkaaGreatDoorN.not_i64 Go.Proofs.YtllmbooicobmkaaGreatDoorN.isSome_setCell
set_option linter.unusedVariables false
set_option linter.unusedSimpArgs false
theorem dz12 {p : Prop} [Decidable p] (h : decide p = true := by first | (with_reducible assumption) | assumption) : p := of_decide_eq_true h
theorem zK12 {w W : World} {g : Nat} {r : Option Nat} (h : KeepBut w W g r := by repeat (first | (with_reducible first | exact HK.out | apply KeepBut.set_ | apply keep_drewN | apply keep_drew | apply keep_alloc) | exact HK.out)) : KeepBut w W g r := h
theorem zI12HI0 {w0 W : World} {g : Nat} {f0 : List Int} {f1 : Int} (h : IsS43 w0 W g f0 f1 := by repeat (first | (with_reducible first | exact HI0.out | apply IsS43.alloc | apply IsS43.drewN | apply IsS43.drew | apply IsS43.set_1) | exact HI0.out)) : IsS43 w0 W g f0 f1 := h
theorem zB12HI0 {b : Nat} {w W : World} (h : Below b w W := by repeat (first | (with_reducible first | exact HB.out | apply below_alloc | apply pw_below_drewN | apply below_drew1 | refine below_set ?_ (IsS43.ge HI0.out)) | exact HB.out)) : Below b w W := h
def spec_l20Prog.j0 : Nat → List (S24) → List Int → Int → Option ((List (S24)) × Int)
 | 0, _, _, _ => none
 | k + 1, x3, x1000, x1001 => (spec_l20Rd_pick.f k x1000 x1001 4).bind fun bt425 => (if bt425.1 = 0 then ((spec_l20Rd_pick.f k x1000 bt425.2 (x3.length : Int)).bind fun bt427 => ((spec_l20Rd_pick.f k x1000 bt427.2 6).bind fun bt429 => (if bt429.1 = 0 then ((spec_l20Imm.f k x1000 bt429.2).bind fun bt431 => (if 0 ≤ bt427.1 then (if bt427.1 < (x3.length : Int) then (some ((x3.set (bt427.1 : Int).toNat (⟨(rd_T24 x3 bt427.1).f0, (rd_T24 x3 bt427.1).f1, (rd_T24 x3 bt427.1).f2, (rd_T24 x3 bt427.1).f3, bt431.1, (rd_T24 x3 bt427.1).f5⟩ : S24)), bt431.2)) else (none)) else (none))) else (if bt429.1 = 1 then ((spec_l20Rd_one.f k x1000 bt429.2 (([(-1), 0, 1, 2, (-2), 12, 200] : List Int))).bind fun bt437 => (if 0 ≤ bt427.1 then (if bt427.1 < (x3.length : Int) then (some ((x3.set (bt427.1 : Int).toNat (⟨(rd_T24 x3 bt427.1).f0, (rd_T24 x3 bt427.1).f1, (rd_T24 x3 bt427.1).f2, bt437.1, (rd_T24 x3 bt427.1).f4, (rd_T24 x3 bt427.1).f5⟩ : S24)), bt437.2)) else (none)) else (none))) else (if bt429.1 = 2 then ((spec_l20Rd_pick.f k x1000 bt429.2 12).bind fun bt440 => (if 0 ≤ bt427.1 then (if bt427.1 < (x3.length : Int) then (some ((x3.set (bt427.1 : Int).toNat (⟨(rd_T24 x3 bt427.1).f0, bt440.1, (rd_T24 x3 bt427.1).f2, (rd_T24 x3 bt427.1).f3, (rd_T24 x3 bt427.1).f4, (rd_T24 x3 bt427.1).f5⟩ : S24)), bt440.2)) else (none)) else (none))) else (if bt429.1 = 3 then ((spec_l20Rd_pick.f k x1000 bt429.2 22).bind fun bt443 => (if 0 ≤ bt427.1 then (if bt427.1 < (x3.length : Int) then (some ((x3.set (bt427.1 : Int).toNat (⟨bt443.1, (rd_T24 x3 bt427.1).f1, (rd_T24 x3 bt427.1).f2, (rd_T24 x3 bt427.1).f3, (rd_T24 x3 bt427.1).f4, (rd_T24 x3 bt427.1).f5⟩ : S24)), bt443.2)) else (none)) else (none))) else (if bt429.1 = 4 then ((spec_l20Rd_pick.f k x1000 bt429.2 12).bind fun bt446 => (if 0 ≤ bt427.1 then (if bt427.1 < (x3.length : Int) then (some ((x3.set (bt427.1 : Int).toNat (⟨(rd_T24 x3 bt427.1).f0, (rd_T24 x3 bt427.1).f1, wrap64 (bt446.1 - 1), (rd_T24 x3 bt427.1).f3, (rd_T24 x3 bt427.1).f4, (rd_T24 x3 bt427.1).f5⟩ : S24)), bt446.2)) else (none)) else (none))) else ((some (([] : List (S24)) : List (S24))).bind fun y449 => (if 0 ≤ bt427.1 then (if bt427.1 ≤ (x3.length : Int) then ((some (x3.take (bt427.1 : Int).toNat : List (S24))).bind fun y452 => (if y449.length + y452.length < 2932031007402 then ((some (y449 ++ y452 : List (S24))).bind fun y457 => ((spec_l20Alu.f k x1000 bt429.2).bind fun bt460 => (if y457.length < 2932031007402 then ((some (y457 ++ [(⟨bt460.1, bt460.2.1, bt460.2.2.1, bt460.2.2.2.1, bt460.2.2.2.2.1, bt460.2.2.2.2.2.1⟩ : S24)] : List (S24))).bind fun y467 => ((some (x3.drop (bt427.1 : Int).toNat : List (S24))).bind fun y470 => (if y467.length + y470.length < 2932031007402 then (some ((y467 ++ y470), bt460.2.2.2.2.2.2)) else (none)))) else (none)))) else (none))) else (none)) else (none)))))))))) else (some (x3, bt425.2)))
def spec_l20Prog.f (k : Nat) (s0_0 : List Int) (s0_1 : Int) : Option ((List (S24)) × Int) := (spec_l20Make.f k s0_0 s0_1).bind fun bt410 => ((spec_l20Rd_pick.f k s0_0 bt410.2 2).bind fun bt414 => (if bt414.1 = 0 then ((spec_l20Lines.f).bind fun t416 => ((spec_l20Rd_pick.f k s0_0 bt414.2 (t416.length : Int)).bind fun bt419 => (if 0 ≤ bt419.1 then (if bt419.1 < (t416.length : Int) then ((spec_l20Read.f k (rd_L4 t416 bt419.1)).bind fun t422 => (spec_l20Prog.j0 k t422 s0_0 bt419.2)) else (none)) else (none)))) else (spec_l20Prog.j0 k bt410.1 s0_0 bt414.2)))
def spec_l20Prog.T8 : Bool × List (List Nat × List Nat) := (true, [([], []), ([], []), ([], []), ([1, 2], [1, 2]), ([0, 3], [0, 3]), ([], []), ([5, 4], [5]), ([6], [6]), ([4, 7, 6], [4, 7]), ([], []), ([], []), ([9, 10], [9, 10]), ([8, 11, 8], [8, 11]), ([12, 12, 0, 1, 2, 3, 4, 5, 6, 7, 8, 9, 10, 11, 12], [12])])
def spec_l20Prog.B8 : List Nat := [0, 0, 0, 6, 15, 0, 63, 127, 255, 0, 0, 1536, 4095, 8191]
theorem spec_l20Prog.tab8 : rtab .any (opsOf Tryz.f17 8) = spec_l20Prog.T8 := by kernel_rfl
theorem spec_l20Prog.bits8 : waitsOk spec_l20Prog.T8.2 spec_l20Prog.B8 = true := by kernel_rfl
set_option maxHeartbeats 8000000 in
set_option maxRecDepth 100000 in
theorem spec_l20Prog.calls (k g : Nat) (s0_0 : List Int) (s0_1 : Int) (r1 : List (S24)) (r2 : Int) (w0 w : World) (hI : IsS43 w0 w g s0_0 s0_1) (hB : Below w0.heap.size w0 w) (h : spec_l20Prog.f k s0_0 s0_1 = some (r1, r2)) :
  Calls Tryz.prog 17 #[.pointer (some ⟨g, 0, none⟩)] w fun e w' => ∃ v0_ : Value, e = .returned (v0_) ∧ Kd.R k24 24 w' w.heap.size (fun _ => True) v0_ r1 ∧ IsS43 w0 w' g s0_0 r2 ∧ Below w0.heap.size w0 w' ∧ KeepBut w w' g none := by
 have HI0 := Aside0.mk hI
 have HK := Aside0.mk (KeepBut.refl w g none)
 have HL := Aside0.mk hB.size
 clear hI
 have HW0 := Aside0.mk hB.size
 have HB := Aside0.mk hB
 clear hB
 have H := h
 clear h
 unfold spec_l20Prog.f at H
 replace H := oA H
 obtain ⟨⟨t410, t413⟩, A2, H⟩ := H
 try dsimp only at H
 replace H := oA H
 obtain ⟨⟨t414, t415⟩, A3, H⟩ := H
 try dsimp only at H
 have HC4 := Aside0.mk H
 clear H
 go_enter Tryz.func17, Tryz.ntmps17
 go_upto_if 10 with (first | ((with_reducible refine gate_callee (f := 43) rfl ?_); refine gl 7 Tryz.func43 #[.pointer (some ⟨g, 0, none⟩)] ?_; (with_reducible refine (spec_l20Make.calls k g s0_0 s0_1 t410 t413 w0 _ ?side1 ?side2 A2.out).mono ?_); (case side1 => exact zI12HI0); (case side2 => exact zB12HI0); rintro e w5 ⟨v411, rfl, ho0, hi, hb, hk⟩; refine ⟨_, rfl, ?_⟩; have HO412 := Aside0.mk (Kd.R_lower ho0 (keep_size (w := w) (g := g) (row := none) zK12)); replace HK := Aside0.mk (KeepBut.trans zK12 hk (.inl rfl)); replace HB := Aside0.mk hb; replace HI0 := Aside0.mk hi; (try clear hb); (try clear hb2); (try clear hk); (try clear hi); (try clear ho0)) | ((with_reducible refine gate_callee (f := 18) rfl ?_); refine gl 9 Tryz.func18 #[.pointer (some ⟨g, 0, none⟩), .int .i64 2] ?_; (with_reducible refine (spec_l20Rd_pick.calls k g s0_0 t413 2 t414 t415 w0 _ ?side1 ?side2 A3.out).mono ?_); (case side1 => exact zI12HI0); (case side2 => exact zB12HI0); rintro e w6 ⟨rfl, hi, hb, hk⟩; refine ⟨_, rfl, ?_⟩; replace HO412 := Aside0.mk (Kd.R_mono (Kd.R_keep (IsS43.apart (show IsS43 w0 _ g s0_0 t413 from zI12HI0) (zU HO412) (by decide)) hk (fun _ h => h.2)) (fun _ h => h.1)); replace HK := Aside0.mk (KeepBut.trans zK12 hk (.inl rfl)); replace HB := Aside0.mk hb; replace HI0 := Aside0.mk hi; (try clear hb); (try clear hb2); (try clear hk); (try clear hi)))
 (try simp only [Act.put, List.setIfInBounds_toArray, List.set_cons_zero, List.set_cons_succ])
 go_cut [3] (fun v3 wc => ∃ (kq : Nat) (x3_3 : List (S24)) (x1001_3 : Int), Aside0 (spec_l20Prog.j0 kq x3_3 s0_0 x1001_3 = some (r1, r2)) ∧ Aside0 (kq ≤ k) ∧ Aside0 (Kd.R k24 24 wc w.heap.size (fun _ => True) v3 x3_3) ∧ Aside0 (IsS43 w0 wc g s0_0 x1001_3) ∧ Aside0 (KeepBut w wc g none) ∧ Aside0 (Below w0.heap.size w0 wc))
 case first =>
  have H := HC4.out
  clear HC4
  by_cases c7 : t414 = 0
  ·rw [if_pos c7] at H
   have c7b0 : (t414 == 0) = true := beq_iff_eq.mpr c7
   have c7b1 : (t414 != 0) = false := bne_eq_false_iff_eq.mpr c7
   clear c7
   (first | rw [c7b0] | (simp only [i64_w, i32_w]; rw [c7b0]) | skip)
   replace H := oA H
   obtain ⟨t416, A8, H⟩ := H
   try dsimp only at H
   replace H := oA H
   obtain ⟨⟨t419, t420⟩, A9, H⟩ := H
   try dsimp only at H
   by_cases c10 : 0 ≤ t419
   ·rw [if_pos c10] at H
    have c10b0 : decide (0 ≤ t419) = true := decide_eq_true c10
    clear c10
    by_cases c11 : t419 < (t416.length : Int)
    ·rw [if_pos c11] at H
     have c11b0 : decide (t419 < (t416.length : Int)) = true := decide_eq_true c11
     clear c11
     replace H := oA H
     obtain ⟨t422, A12, H⟩ := H
     try dsimp only at H
     have H' := Aside0.mk H
     clear H
     go_wp2_with (first | ((with_reducible refine gate_callee (f := 44) rfl ?_); refine gl 11 Tryz.func44 #[] ?_; (with_reducible refine (spec_l20Lines.calls  t416 _ A8.out).mono ?_); rintro e w13 ⟨v417, rfl, ho0, hb⟩; refine ⟨_, rfl, ?_⟩; have HO418 := Aside0.mk (Kd.N_lower (Kd.N_mono (ok' := fun k_ => some k_ ≠ (v411 : Value).ownBlock ∧ k_ ≠ g) ho0 (fun k_ hk_ => ⟨(Kd.fresh' (Kd.R_lt (zU HO412)) k_ hk_), (IsS43.fresh zI12HI0 k_ hk_)⟩)) (keep_size (w := w) (g := g) (row := none) zK12)); replace HO412 := Aside0.mk (Kd.R_below (zU HO412) hb); replace HK := Aside0.mk (KeepBut.trans zK12 (KeepBut.of_below hb g none) (.inl rfl)); replace HB := Aside0.mk (below_step (zB12HI0) hb); replace HI0 := Aside0.mk (IsS43.below zI12HI0 hb); (try clear hb); (try clear hb2); (try clear hk); (try clear hi); (try clear ho0); obtain ⟨Ao14, co14, eo14⟩ := Kd.N_slice HO418.out; subst eo14) | ((with_reducible refine gate_callee (f := 18) rfl ?_); refine gl 16 Tryz.func18 #[.pointer (some ⟨g, 0, none⟩), .int .i64 (t416.length : Int)] ?_; (with_reducible refine (spec_l20Rd_pick.calls k g s0_0 t415 (t416.length : Int) t419 t420 w0 _ ?side1 ?side2 A9.out).mono ?_); (case side1 => exact zI12HI0); (case side2 => exact zB12HI0); rintro e w15 ⟨rfl, hi, hb, hk⟩; refine ⟨_, rfl, ?_⟩; replace HO412 := Aside0.mk (Kd.R_mono (Kd.R_keep (IsS43.apart (show IsS43 w0 _ g s0_0 t415 from zI12HI0) (zU HO412) (by decide)) hk (fun _ h => h.2)) (fun _ h => h.1)); replace HO418 := Aside0.mk (Kd.N_mono (Kd.N_keep (Kd.N_mono (ok := fun k_ => (some k_ ≠ (v411 : Value).ownBlock ∧ k_ ≠ g)) (by (with_reducible repeat (first | apply Kd.N_alloc | apply Kd.N_drewN | apply Kd.N_drew)); exact HO418.out) (fun k_ hk_ => (⟨hk_, hk_.2⟩ : _ ∧ k_ ≠ g))) hk (fun _ h => h.2)) (fun _ h => h.1)); replace HK := Aside0.mk (KeepBut.trans zK12 hk (.inl rfl)); replace HB := Aside0.mk hb; replace HI0 := Aside0.mk hi; (try clear hb); (try clear hb2); (try clear hk); (try clear hi); have p421 : 0 ≤ (t419 : Int) := dz12; have q421 : t419 < (t416.length : Int) := dz12; obtain ⟨ad421, A421_0, c421_0, e421, hx421_0, hl421_0, hi421_0⟩ := at_L4 (Kd.N_reads' HO418.out).2.2 t419 p421 q421; cases e421; obtain ⟨ce421, hce421, hMe421, hcc421⟩ := Kd.N_get HO418.out [] t419 p421 (by first | exact q421 | exact dz12 | (have e_ := (Kd.N_reads' HO418.out).1; omega)); obtain ⟨ua421_0, uc421_0, rfl, ul421_0, ge421_0⟩ := Kd.FK_slice_open hMe421; have hv421_0 := hcc421 0 _ rfl; rw [Nat.add_zero, show ((Kd.slice 9 Kd.string)).sz = 1 from rfl, Nat.mul_one] at hv421_0; replace hv421_0 := Option.some.inj (hv421_0.symm.trans hx421_0); injection hv421_0 with hva_ hvn_ hvc_; rw [hva_] at ge421_0; rw [hvc_] at ul421_0; have HL421_0 := Aside0.mk (show Kd.V Kd.string 9 _ w.heap.size _ _ (rd_L4 t416 t419) from Kd.V_mk ul421_0 ge421_0); clear hva_ hvn_ hvc_ ge421_0 ul421_0; clear hcc421 hce421; have HR421_0 := Aside0.mk hi421_0; have HC421_0 := Aside0.mk hl421_0; clear hi421_0 hl421_0; replace p421 := eq_true p421; replace q421 := eq_true q421) | ((with_reducible refine gate_callee (f := 45) rfl ?_); refine gl 19 Tryz.func45 #[.slice A421_0 (rd_L4 t416 t419).length c421_0] ?_; (with_reducible refine (spec_l20Read.calls k _ _ (rd_L4 t416 t419) t422 _ ?side1 ?side2 A12.out).mono ?_); (case side1 => repeat (first | exact (by repeat (first | (with_reducible exact HR421_0.out) | (with_reducible refine Kd.C_alloc ?_ _) | (with_reducible refine Kd.C_drewN ?_ _) | (with_reducible refine Kd.C_drew ?_) | exact HR421_0.out)) | (with_reducible refine Kd.C_alloc ?_ _) | (with_reducible refine Kd.C_drewN ?_ _) | (with_reducible refine Kd.C_drew ?_))); (case side2 => exact HC421_0.out); rintro e w16 ⟨v423, rfl, ho0, hb⟩; refine ⟨_, rfl, ?_⟩; replace HO418 := Aside0.mk (Kd.N_elder' (by (with_reducible repeat (first | apply Kd.N_alloc | apply Kd.N_drewN | apply Kd.N_drew)); exact HO418.out) (Kd.R_base ho0) hb); replace HL421_0 := Aside0.mk (Kd.V_elder' (by (with_reducible repeat (first | apply Kd.V_alloc | apply Kd.V_drewN | apply Kd.V_drew)); exact HL421_0.out) (Kd.R_base ho0) hb); have HO424 := Aside0.mk (Kd.R_lower (Kd.R_new' ho0 (Kd.R_lt (zU HO412))) (keep_size (w := w) (g := g) (row := none) zK12)); replace HO412 := Aside0.mk (Kd.R_elder' (zU HO412) (Kd.R_base ho0) hb); replace HR421_0 := Aside0.mk (Kd.C_below (by repeat (first | (with_reducible exact HR421_0.out) | (with_reducible refine Kd.C_alloc ?_ _) | (with_reducible refine Kd.C_drewN ?_ _) | (with_reducible refine Kd.C_drew ?_) | exact HR421_0.out)) hb); replace HK := Aside0.mk (KeepBut.trans zK12 (KeepBut.of_below hb g none) (.inl rfl)); replace HB := Aside0.mk (below_step (zB12HI0) hb); replace HI0 := Aside0.mk (IsS43.below zI12HI0 hb); (try clear hb); (try clear hb2); (try clear hk); (try clear hi); (try clear ho0)))
     go_meet
     case rel => exact ⟨_, (t422), (t420), H', ⟨by first | omega | exact Nat.le_refl _⟩, ⟨by (with_reducible repeat (first | apply Kd.R_alloc | apply Kd.R_drewN | apply Kd.R_drew)); exact Kd.R_mono HO424.out (fun _ hk => trivial)⟩, ⟨zI12HI0⟩, ⟨zK12⟩, ⟨zB12HI0⟩⟩
    ·exact absurd H (nN c11)
   ·exact absurd H (nN c10)
  ·rw [if_neg c7] at H
   have c7b0 : (t414 == 0) = false := beq_eq_false_iff_ne.mpr c7
   have c7b1 : (t414 != 0) = true := bne_iff_ne.mpr c7
   (first | rw [c7b0] | (simp only [i64_w, i32_w]; rw [c7b0]) | skip)
   have H' := Aside0.mk H
   clear H
   go_wp2
   go_meet
   case rel => exact ⟨_, (t410), (t415), H', ⟨by first | omega | exact Nat.le_refl _⟩, ⟨zU HO412⟩, ⟨zI12HI0⟩, ⟨zK12⟩, ⟨zB12HI0⟩⟩
 case rest =>
  clear HC4
  try clear c1
  try clear p2
  try clear c4
  try clear p4
  try clear q4
  try clear hx4
  try clear c7
  try clear c7b0
  try clear c7b1
  try clear c10
  try clear c10b0
  try clear c11
  try clear c11b0
  try clear hx421_0
  try clear p421
  try clear q421
  obtain ⟨kq, x3_3, x1001_3, HA, HJ3, HO_3, HI0, HK, HB⟩ := hcut
  cases kq with
  | zero => exact absurd HA.out (by simp [spec_l20Prog.j0])
  | succ kj3 =>
   have H := HA.out
   clear HA
   simp only [spec_l20Prog.j0] at H
   replace H := oA H
   obtain ⟨⟨t425, t426⟩, A17, H⟩ := H
   try dsimp only at H
   by_cases c18 : t425 = 0
   ·rw [if_pos c18] at H
    have c18b0 : (t425 == 0) = true := beq_iff_eq.mpr c18
    have c18b1 : (t425 != 0) = false := bne_eq_false_iff_eq.mpr c18
    clear c18
    replace H := oA H
    obtain ⟨⟨t427, t428⟩, A19, H⟩ := H
    try dsimp only at H
    replace H := oA H
    obtain ⟨⟨t429, t430⟩, A20, H⟩ := H
    try dsimp only at H
    by_cases c21 : t429 = 0
    ·rw [if_pos c21] at H
     have c21b0 : (t429 == 0) = true := beq_iff_eq.mpr c21
     have c21b1 : (t429 != 0) = false := bne_eq_false_iff_eq.mpr c21
     clear c21
     replace H := oA H
     obtain ⟨⟨t431, t432⟩, A22, H⟩ := H
     try dsimp only at H
     by_cases c23 : 0 ≤ t427
     ·rw [if_pos c23] at H
      have c23b0 : decide (0 ≤ t427) = true := decide_eq_true c23
      clear c23
      by_cases c24 : t427 < (x3_3.length : Int)
      ·rw [if_pos c24] at H
       have c24b0 : decide (t427 < (x3_3.length : Int)) = true := decide_eq_true c24
       clear c24
       obtain ⟨y433, hy433⟩ : ∃ y_ : List (S24), y_ = (x3_3.set (t427 : Int).toNat (⟨(rd_T24 x3_3 t427).f0, (rd_T24 x3_3 t427).f1, (rd_T24 x3_3 t427).f2, (rd_T24 x3_3 t427).f3, t431, (rd_T24 x3_3 t427).f5⟩ : S24)) := ⟨_, rfl⟩
       replace H : (some (y433, t432)) = some (r1, r2) := by first | (rw [hy433]; with_reducible exact H) | (have H2_ := (Option.bind_some _ _).symm.trans H; rw [hy433]; with_reducible exact H2_) | (have H2_ := (Option.bind_some _ _).symm.trans H; with_reducible exact H2_) | with_reducible exact H | (rw [hy433]; exact H) | exact H
       have Ny433 := Aside0.mk hy433
       clear hy433
       simp only [Option.some.injEq, Prod.mk.injEq] at H
       obtain ⟨rfl, rfl⟩ := H
       go_wp2_with (first | ((with_reducible refine gate_callee (f := 18) rfl ?_); refine gl 21 Tryz.func18 #[.pointer (some ⟨g, 0, none⟩), .int .i64 4] ?_; (with_reducible refine (spec_l20Rd_pick.calls kj3 g s0_0 x1001_3 4 t425 t426 w0 _ ?side1 ?side2 A17.out).mono ?_); (case side1 => exact zI12HI0); (case side2 => exact zB12HI0); rintro e w26 ⟨rfl, hi, hb, hk⟩; refine ⟨_, rfl, ?_⟩; replace HO_3 := Aside0.mk (Kd.R_mono (Kd.R_keep (IsS43.apart (show IsS43 w0 _ g s0_0 x1001_3 from zI12HI0) (zU HO_3) (by decide)) hk (fun _ h => h.2)) (fun _ h => h.1)); replace HK := Aside0.mk (KeepBut.trans zK12 hk (.inl rfl)); replace HB := Aside0.mk hb; replace HI0 := Aside0.mk hi; (try clear hb); (try clear hb2); (try clear hk); (try clear hi); obtain ⟨Ao27, co27, eo27⟩ := Kd.R_slice HO_3.out; subst eo27) | ((with_reducible refine gate_callee (f := 18) rfl ?_); refine gl 26 Tryz.func18 #[.pointer (some ⟨g, 0, none⟩), .int .i64 (x3_3.length : Int)] ?_; (with_reducible refine (spec_l20Rd_pick.calls kj3 g s0_0 t426 (x3_3.length : Int) t427 t428 w0 _ ?side1 ?side2 A19.out).mono ?_); (case side1 => exact zI12HI0); (case side2 => exact zB12HI0); rintro e w28 ⟨rfl, hi, hb, hk⟩; refine ⟨_, rfl, ?_⟩; replace HO_3 := Aside0.mk (Kd.R_mono (Kd.R_keep (IsS43.apart (show IsS43 w0 _ g s0_0 t426 from zI12HI0) (zU HO_3) (by decide)) hk (fun _ h => h.2)) (fun _ h => h.1)); replace HK := Aside0.mk (KeepBut.trans zK12 hk (.inl rfl)); replace HB := Aside0.mk hb; replace HI0 := Aside0.mk hi; (try clear hb); (try clear hb2); (try clear hk); (try clear hi)) | ((with_reducible refine gate_callee (f := 18) rfl ?_); refine gl 28 Tryz.func18 #[.pointer (some ⟨g, 0, none⟩), .int .i64 6] ?_; (with_reducible refine (spec_l20Rd_pick.calls kj3 g s0_0 t428 6 t429 t430 w0 _ ?side1 ?side2 A20.out).mono ?_); (case side1 => exact zI12HI0); (case side2 => exact zB12HI0); rintro e w29 ⟨rfl, hi, hb, hk⟩; refine ⟨_, rfl, ?_⟩; replace HO_3 := Aside0.mk (Kd.R_mono (Kd.R_keep (IsS43.apart (show IsS43 w0 _ g s0_0 t428 from zI12HI0) (zU HO_3) (by decide)) hk (fun _ h => h.2)) (fun _ h => h.1)); replace HK := Aside0.mk (KeepBut.trans zK12 hk (.inl rfl)); replace HB := Aside0.mk hb; replace HI0 := Aside0.mk hi; (try clear hb); (try clear hb2); (try clear hk); (try clear hi)) | ((with_reducible refine gate_callee (f := 46) rfl ?_); refine gl 47 Tryz.func46 #[.pointer (some ⟨g, 0, none⟩)] ?_; (with_reducible refine (spec_l20Imm.calls kj3 g s0_0 t430 t431 t432 w0 _ ?side1 ?side2 A22.out).mono ?_); (case side1 => exact zI12HI0); (case side2 => exact zB12HI0); rintro e w30 ⟨rfl, hi, hb, hk⟩; refine ⟨_, rfl, ?_⟩; replace HO_3 := Aside0.mk (Kd.R_mono (Kd.R_keep (IsS43.apart (show IsS43 w0 _ g s0_0 t430 from zI12HI0) (zU HO_3) (by decide)) hk (fun _ h => h.2)) (fun _ h => h.1)); replace HK := Aside0.mk (KeepBut.trans zK12 hk (.inl rfl)); replace HB := Aside0.mk hb; replace HI0 := Aside0.mk hi; (try clear hb); (try clear hb2); (try clear hk); (try clear hi); have p25 : 0 ≤ (t427 : Int) := dz12; have q25 : (t427 : Int) < ((x3_3.length : Int) : Int) := dz12; obtain ⟨go25, co25, eo25, gb25, gl25, cl25, HG25⟩ := Kd.R_form HO_3.out (by omega); (first | cases eo25 | (injection eo25 with ea_ en_ ec_; (first | subst ea_ | (injection ea_ with ea_; subst ea_)); subst ec_; clear en_)); have GB25 := Aside0.mk gb25; have GG25 := Aside0.mk HG25; clear gb25 gl25 HG25; obtain ⟨ce25, hcl25, hM25, hcc25, hfr25⟩ := Kd.R_elem HO_3.out z24 (t427 : Int) p25 q25; obtain rfl := k24_openM hM25; have hx25_0 : w30.cell? ⟨go25, (t427 : Int).toNat * 6, none⟩ = some (.int .i64 ((rd_T24 x3_3 t427).f0)) := hcc25 0 _ rfl; have hx25_1 : w30.cell? ⟨go25, (t427 : Int).toNat * 6 + 1, none⟩ = some (.int .i64 ((rd_T24 x3_3 t427).f1)) := hcc25 1 _ rfl; have hx25_2 : w30.cell? ⟨go25, (t427 : Int).toNat * 6 + 2, none⟩ = some (.int .i64 ((rd_T24 x3_3 t427).f2)) := hcc25 2 _ rfl; have hx25_3 : w30.cell? ⟨go25, (t427 : Int).toNat * 6 + 3, none⟩ = some (.int .i64 ((rd_T24 x3_3 t427).f3)) := hcc25 3 _ rfl; have hx25_4 : w30.cell? ⟨go25, (t427 : Int).toNat * 6 + 4, none⟩ = some (.int .i64 ((rd_T24 x3_3 t427).f4)) := hcc25 4 _ rfl; have hx25_5 : w30.cell? ⟨go25, (t427 : Int).toNat * 6 + 5, none⟩ = some (.int .i64 ((rd_T24 x3_3 t427).f5)) := hcc25 5 _ rfl; have hf25_0 : w30.frozen? ⟨go25, (t427 : Int).toNat * 6, none⟩ = false := hfr25 0; have hf25_1 : w30.frozen? ⟨go25, (t427 : Int).toNat * 6 + 1, none⟩ = false := hfr25 1; have hf25_2 : w30.frozen? ⟨go25, (t427 : Int).toNat * 6 + 2, none⟩ = false := hfr25 2; have hf25_3 : w30.frozen? ⟨go25, (t427 : Int).toNat * 6 + 3, none⟩ = false := hfr25 3; have hf25_4 : w30.frozen? ⟨go25, (t427 : Int).toNat * 6 + 4, none⟩ = false := hfr25 4; have hf25_5 : w30.frozen? ⟨go25, (t427 : Int).toNat * 6 + 5, none⟩ = false := hfr25 5; clear hcl25 hcc25 hfr25 hM25; replace p25 := eq_true p25; replace q25 := eq_true q25; have HX31 := Aside0.mk (show Kd.R k24 24 w30 w.heap.size (fun _ => True) (.slice (some ⟨go25, 0, none⟩) x3_3.length co27) x3_3 from (zU HO_3)); obtain ⟨ce31, hcl31, hM31, hcc31, hfr31⟩ := Kd.R_elem HX31.out z24 (t427 : Int) (dz12) (by have h_ : (t427 : Int) < ((x3_3.length : Int) : Int) := dz12; first | exact h_ | (have e_ := (Kd.R_reads' HO_3.out).1; omega) | simpa using h_); obtain rfl := k24_openM hM31; have HP31 := Kd.R_seg HX31.out (t427 : Int) (dz12) (by have h_ : (t427 : Int) < ((x3_3.length : Int) : Int) := dz12; first | exact h_ | (have e_ := (Kd.R_reads' HO_3.out).1; omega) | simpa using h_) (seg := [.int .i64 t431]) (j := 4) hcl31 hcc31 (show 5 ≤ 6 from by decide) (x' := (⟨(rd_T24 x3_3 t427).f0, (rd_T24 x3_3 t427).f1, (rd_T24 x3_3 t427).f2, (rd_T24 x3_3 t427).f3, t431, (rd_T24 x3_3 t427).f5⟩ : S24)) (k24_mkM _ _ _ (⟨(rd_T24 x3_3 t427).f0, (rd_T24 x3_3 t427).f1, (rd_T24 x3_3 t427).f2, (rd_T24 x3_3 t427).f3, t431, (rd_T24 x3_3 t427).f5⟩ : S24) ) (fun _ hk => hk); have hx31_4 := hcc31 4 _ rfl; (try simp only [show (k24).sz = 6 from rfl, Nat.mul_one, Nat.add_zero] at hx31_4); have hf31_4 := hfr31 4; (try simp only [show (k24).sz = 6 from rfl, Nat.mul_one, Nat.add_zero] at hf31_4); clear hcl31 hcc31 hfr31 hM31) | ((with_reducible refine gate_store (t := 3) (p := 49) rfl ?_); refine store_event (t := 3) (p := 49) (v := ?vo_w32) (w1 := (w30.setCell ⟨go25, (t427 : Int).toNat * 6 + 4, none⟩ (.int .i64 t431))) ?hg ?ho ?hn ?hr ?_; (case ho => rfl); (case hg => rfl); (case hn => rfl); (case hr => first | (go_simp; done) | (go_simp; rfl)); intro w32 hw; have hg : w30.grownBy w32 (some go25) := (by rw [hw]; exact HP31.2); have hp_ : Kd.R k24 24 w32 w.heap.size (fun _ => True) (.slice (some ⟨go25, 0, none⟩) x3_3.length co27) y433 := (by rw [hw, Ny433.out]; exact HP31.1); clear HP31; replace HI0 := Aside0.mk (IsS43.grown zI12HI0 hg (IsS43.own_ne HI0.out HO_3.out (by decide))); replace HB := Aside0.mk ((by rw [hw]; exact below_set (HB.out) (Nat.le_trans HL.out GB25.out) : Below w0.heap.size w0 w32)); replace HK := Aside0.mk (KeepBut.trans zK12 (KeepBut.of_grown hg g) (Kd.R_base2 HO_3.out)); replace HO_3 := Aside0.mk hp_; clear hg hw hp_))
       go_ret
       exact ⟨_, zR, zU HO_3, zI12HI0, zB12HI0, zK12⟩
      ·exact absurd H (nN c24)
     ·exact absurd H (nN c23)
    ·rw [if_neg c21] at H
     have c21b0 : (t429 == 0) = false := beq_eq_false_iff_ne.mpr c21
     have c21b1 : (t429 != 0) = true := bne_iff_ne.mpr c21
     by_cases c33 : t429 = 1
     ·rw [if_pos c33] at H
      have c33b0 : (t429 == 1) = true := beq_iff_eq.mpr c33
      have c33b1 : (t429 != 1) = false := bne_eq_false_iff_eq.mpr c33
      clear c33
      obtain ⟨y434, hy434⟩ : ∃ y_ : List Int, y_ = (([(-1), 0, 1, 2, (-2), 12, 200] : List Int)) := ⟨_, rfl⟩
      replace H : ((spec_l20Rd_one.f kj3 s0_0 t430 y434).bind fun bt437 => (if 0 ≤ t427 then (if t427 < (x3_3.length : Int) then (some ((x3_3.set (t427 : Int).toNat (⟨(rd_T24 x3_3 t427).f0, (rd_T24 x3_3 t427).f1, (rd_T24 x3_3 t427).f2, bt437.1, (rd_T24 x3_3 t427).f4, (rd_T24 x3_3 t427).f5⟩ : S24)), bt437.2)) else (none)) else (none))) = some (r1, r2) := by first | (rw [hy434]; with_reducible exact H) | (have H2_ := (Option.bind_some _ _).symm.trans H; rw [hy434]; with_reducible exact H2_) | (have H2_ := (Option.bind_some _ _).symm.trans H; with_reducible exact H2_) | with_reducible exact H | (rw [hy434]; exact H) | exact H
      have Ny434 := Aside0.mk hy434
      clear hy434
      replace H := oA H
      obtain ⟨⟨t437, t438⟩, A34, H⟩ := H
      try dsimp only at H
      by_cases c35 : 0 ≤ t427
      ·rw [if_pos c35] at H
       have c35b0 : decide (0 ≤ t427) = true := decide_eq_true c35
       clear c35
       by_cases c36 : t427 < (x3_3.length : Int)
       ·rw [if_pos c36] at H
        have c36b0 : decide (t427 < (x3_3.length : Int)) = true := decide_eq_true c36
        clear c36
        obtain ⟨y439, hy439⟩ : ∃ y_ : List (S24), y_ = (x3_3.set (t427 : Int).toNat (⟨(rd_T24 x3_3 t427).f0, (rd_T24 x3_3 t427).f1, (rd_T24 x3_3 t427).f2, t437, (rd_T24 x3_3 t427).f4, (rd_T24 x3_3 t427).f5⟩ : S24)) := ⟨_, rfl⟩
        replace H : (some (y439, t438)) = some (r1, r2) := by first | (rw [hy439]; with_reducible exact H) | (have H2_ := (Option.bind_some _ _).symm.trans H; rw [hy439]; with_reducible exact H2_) | (have H2_ := (Option.bind_some _ _).symm.trans H; with_reducible exact H2_) | with_reducible exact H | (rw [hy439]; exact H) | exact H
        have Ny439 := Aside0.mk hy439
        clear hy439
        simp only [Option.some.injEq, Prod.mk.injEq] at H
        obtain ⟨rfl, rfl⟩ := H
        go_wp2_with (first | ((with_reducible refine gate_callee (f := 18) rfl ?_); refine gl 21 Tryz.func18 #[.pointer (some ⟨g, 0, none⟩), .int .i64 4] ?_; (with_reducible refine (spec_l20Rd_pick.calls kj3 g s0_0 x1001_3 4 t425 t426 w0 _ ?side1 ?side2 A17.out).mono ?_); (case side1 => exact zI12HI0); (case side2 => exact zB12HI0); rintro e w38 ⟨rfl, hi, hb, hk⟩; refine ⟨_, rfl, ?_⟩; replace HO_3 := Aside0.mk (Kd.R_mono (Kd.R_keep (IsS43.apart (show IsS43 w0 _ g s0_0 x1001_3 from zI12HI0) (zU HO_3) (by decide)) hk (fun _ h => h.2)) (fun _ h => h.1)); replace HK := Aside0.mk (KeepBut.trans zK12 hk (.inl rfl)); replace HB := Aside0.mk hb; replace HI0 := Aside0.mk hi; (try clear hb); (try clear hb2); (try clear hk); (try clear hi); obtain ⟨Ao39, co39, eo39⟩ := Kd.R_slice HO_3.out; subst eo39) | ((with_reducible refine gate_callee (f := 18) rfl ?_); refine gl 26 Tryz.func18 #[.pointer (some ⟨g, 0, none⟩), .int .i64 (x3_3.length : Int)] ?_; (with_reducible refine (spec_l20Rd_pick.calls kj3 g s0_0 t426 (x3_3.length : Int) t427 t428 w0 _ ?side1 ?side2 A19.out).mono ?_); (case side1 => exact zI12HI0); (case side2 => exact zB12HI0); rintro e w40 ⟨rfl, hi, hb, hk⟩; refine ⟨_, rfl, ?_⟩; replace HO_3 := Aside0.mk (Kd.R_mono (Kd.R_keep (IsS43.apart (show IsS43 w0 _ g s0_0 t426 from zI12HI0) (zU HO_3) (by decide)) hk (fun _ h => h.2)) (fun _ h => h.1)); replace HK := Aside0.mk (KeepBut.trans zK12 hk (.inl rfl)); replace HB := Aside0.mk hb; replace HI0 := Aside0.mk hi; (try clear hb); (try clear hb2); (try clear hk); (try clear hi)) | ((with_reducible refine gate_callee (f := 18) rfl ?_); refine gl 28 Tryz.func18 #[.pointer (some ⟨g, 0, none⟩), .int .i64 6] ?_; (with_reducible refine (spec_l20Rd_pick.calls kj3 g s0_0 t428 6 t429 t430 w0 _ ?side1 ?side2 A20.out).mono ?_); (case side1 => exact zI12HI0); (case side2 => exact zB12HI0); rintro e w41 ⟨rfl, hi, hb, hk⟩; refine ⟨_, rfl, ?_⟩; replace HO_3 := Aside0.mk (Kd.R_mono (Kd.R_keep (IsS43.apart (show IsS43 w0 _ g s0_0 t428 from zI12HI0) (zU HO_3) (by decide)) hk (fun _ h => h.2)) (fun _ h => h.1)); replace HK := Aside0.mk (KeepBut.trans zK12 hk (.inl rfl)); replace HB := Aside0.mk hb; replace HI0 := Aside0.mk hi; (try clear hb); (try clear hb2); (try clear hk); (try clear hi)) | ((with_reducible refine gate_dst (N := 55) rfl ?_); refine Kd.R_lit (Kd.int .i64) _ 3 ?hg (N := 55) ?hd (xs := ([(-1), 0, 1, 2, (-2), 12, 200] : List Int)) (inner := [.int .i64 (-1), .int .i64 0, .int .i64 1, .int .i64 2, .int .i64 (-2), .int .i64 12, .int .i64 200]) (ok := fun _ => True) (okp := fun _ => True) ?hr ?hp (fun _ hk => hk) trivial (Below.refl _ _) (Nat.le_refl _) (by simp) ?_; (case hd => rfl); (case hg => rfl); (case hr => first | (go_simp; done) | (go_simp; rfl)); (case hp => exact (Reps.one (show Kd.M (Kd.int .i64) _ _ _ (-1) [.int .i64 (-1)] from rfl) (Reps.one (show Kd.M (Kd.int .i64) _ _ _ 0 [.int .i64 0] from rfl) (Reps.one (show Kd.M (Kd.int .i64) _ _ _ 1 [.int .i64 1] from rfl) (Reps.one (show Kd.M (Kd.int .i64) _ _ _ 2 [.int .i64 2] from rfl) (Reps.one (show Kd.M (Kd.int .i64) _ _ _ (-2) [.int .i64 (-2)] from rfl) (Reps.one (show Kd.M (Kd.int .i64) _ _ _ 12 [.int .i64 12] from rfl) (Reps.one (show Kd.M (Kd.int .i64) _ _ _ 200 [.int .i64 200] from rfl) (Reps.none _ _))))))))); intro v435 w42 ho43 hb hg_ hnew_; clear hg_ hnew_; (first | rw [← Ny434.out] at ho43 | (simp only [Int.reduceToNat] at ho43; rw [← Ny434.out] at ho43)); replace HO_3 := Aside0.mk (Kd.R_below (zU HO_3) hb); have HO436 := Aside0.mk (Kd.R_lower ho43 (keep_size (w := w) (g := g) (row := none) zK12)); replace HK := Aside0.mk (KeepBut.trans zK12 (KeepBut.of_below hb g none) (.inl rfl)); replace HB := Aside0.mk (below_step (zB12HI0) hb); replace HI0 := Aside0.mk (IsS43.below zI12HI0 hb); clear hb ho43; obtain ⟨Ao44, co44, eo44⟩ := Kd.R_slice HO436.out; subst eo44) | ((with_reducible refine gate_callee (f := 47) rfl ?_); refine gl 56 Tryz.func47 #[.pointer (some ⟨g, 0, none⟩), .slice Ao44 y434.length co44] ?_; (with_reducible refine (spec_l20Rd_one.calls kj3 g s0_0 t430 _ _ y434 t437 t438 w0 _ ?side1 ?side2 ?side3 ?side4 ?side5 A34.out).mono ?_); (case side1 => exact zI12HI0); (case side2 => exact zB12HI0); (case side3 => exact zC HO436); (case side4 => exact (Kd.R_reads' HO436.out).2.1); (case side5 => exact far_slice (IsS43.own_ne HI0.out HO436.out (by decide))); rintro e w45 ⟨rfl, hi, hb, hk⟩; refine ⟨_, rfl, ?_⟩; replace HO_3 := Aside0.mk (Kd.R_mono (Kd.R_keep (IsS43.apart (show IsS43 w0 _ g s0_0 t430 from zI12HI0) (zU HO_3) (by decide)) hk (fun _ h => h.2)) (fun _ h => h.1)); replace HO436 := Aside0.mk (Kd.R_mono (Kd.R_keep (IsS43.apart (show IsS43 w0 _ g s0_0 t430 from zI12HI0) (zU HO436) (by decide)) hk (fun _ h => h.2)) (fun _ h => h.1)); replace HK := Aside0.mk (KeepBut.trans zK12 hk (.inl rfl)); replace HB := Aside0.mk hb; replace HI0 := Aside0.mk hi; (try clear hb); (try clear hb2); (try clear hk); (try clear hi); have p37 : 0 ≤ (t427 : Int) := dz12; have q37 : (t427 : Int) < ((x3_3.length : Int) : Int) := dz12; obtain ⟨go37, co37, eo37, gb37, gl37, cl37, HG37⟩ := Kd.R_form HO_3.out (by omega); (first | cases eo37 | (injection eo37 with ea_ en_ ec_; (first | subst ea_ | (injection ea_ with ea_; subst ea_)); subst ec_; clear en_)); have GB37 := Aside0.mk gb37; have GG37 := Aside0.mk HG37; clear gb37 gl37 HG37; obtain ⟨ce37, hcl37, hM37, hcc37, hfr37⟩ := Kd.R_elem HO_3.out z24 (t427 : Int) p37 q37; obtain rfl := k24_openM hM37; have hx37_0 : w45.cell? ⟨go37, (t427 : Int).toNat * 6, none⟩ = some (.int .i64 ((rd_T24 x3_3 t427).f0)) := hcc37 0 _ rfl; have hx37_1 : w45.cell? ⟨go37, (t427 : Int).toNat * 6 + 1, none⟩ = some (.int .i64 ((rd_T24 x3_3 t427).f1)) := hcc37 1 _ rfl; have hx37_2 : w45.cell? ⟨go37, (t427 : Int).toNat * 6 + 2, none⟩ = some (.int .i64 ((rd_T24 x3_3 t427).f2)) := hcc37 2 _ rfl; have hx37_3 : w45.cell? ⟨go37, (t427 : Int).toNat * 6 + 3, none⟩ = some (.int .i64 ((rd_T24 x3_3 t427).f3)) := hcc37 3 _ rfl; have hx37_4 : w45.cell? ⟨go37, (t427 : Int).toNat * 6 + 4, none⟩ = some (.int .i64 ((rd_T24 x3_3 t427).f4)) := hcc37 4 _ rfl; have hx37_5 : w45.cell? ⟨go37, (t427 : Int).toNat * 6 + 5, none⟩ = some (.int .i64 ((rd_T24 x3_3 t427).f5)) := hcc37 5 _ rfl; have hf37_0 : w45.frozen? ⟨go37, (t427 : Int).toNat * 6, none⟩ = false := hfr37 0; have hf37_1 : w45.frozen? ⟨go37, (t427 : Int).toNat * 6 + 1, none⟩ = false := hfr37 1; have hf37_2 : w45.frozen? ⟨go37, (t427 : Int).toNat * 6 + 2, none⟩ = false := hfr37 2; have hf37_3 : w45.frozen? ⟨go37, (t427 : Int).toNat * 6 + 3, none⟩ = false := hfr37 3; have hf37_4 : w45.frozen? ⟨go37, (t427 : Int).toNat * 6 + 4, none⟩ = false := hfr37 4; have hf37_5 : w45.frozen? ⟨go37, (t427 : Int).toNat * 6 + 5, none⟩ = false := hfr37 5; clear hcl37 hcc37 hfr37 hM37; replace p37 := eq_true p37; replace q37 := eq_true q37; have HX46 := Aside0.mk (show Kd.R k24 24 w45 w.heap.size (fun _ => True) (.slice (some ⟨go37, 0, none⟩) x3_3.length co39) x3_3 from (zU HO_3)); obtain ⟨ce46, hcl46, hM46, hcc46, hfr46⟩ := Kd.R_elem HX46.out z24 (t427 : Int) (dz12) (by have h_ : (t427 : Int) < ((x3_3.length : Int) : Int) := dz12; first | exact h_ | (have e_ := (Kd.R_reads' HO_3.out).1; omega) | simpa using h_); obtain rfl := k24_openM hM46; have HP46 := Kd.R_seg HX46.out (t427 : Int) (dz12) (by have h_ : (t427 : Int) < ((x3_3.length : Int) : Int) := dz12; first | exact h_ | (have e_ := (Kd.R_reads' HO_3.out).1; omega) | simpa using h_) (seg := [.int .i64 t437]) (j := 3) hcl46 hcc46 (show 4 ≤ 6 from by decide) (x' := (⟨(rd_T24 x3_3 t427).f0, (rd_T24 x3_3 t427).f1, (rd_T24 x3_3 t427).f2, t437, (rd_T24 x3_3 t427).f4, (rd_T24 x3_3 t427).f5⟩ : S24)) (k24_mkM _ _ _ (⟨(rd_T24 x3_3 t427).f0, (rd_T24 x3_3 t427).f1, (rd_T24 x3_3 t427).f2, t437, (rd_T24 x3_3 t427).f4, (rd_T24 x3_3 t427).f5⟩ : S24) ) (fun _ hk => hk); have hx46_3 := hcc46 3 _ rfl; (try simp only [show (k24).sz = 6 from rfl, Nat.mul_one, Nat.add_zero] at hx46_3); have hf46_3 := hfr46 3; (try simp only [show (k24).sz = 6 from rfl, Nat.mul_one, Nat.add_zero] at hf46_3); clear hcl46 hcc46 hfr46 hM46) | ((with_reducible refine gate_store (t := 3) (p := 58) rfl ?_); refine store_event (t := 3) (p := 58) (v := ?vo_w47) (w1 := (w45.setCell ⟨go37, (t427 : Int).toNat * 6 + 3, none⟩ (.int .i64 t437))) ?hg ?ho ?hn ?hr ?_; (case ho => rfl); (case hg => rfl); (case hn => rfl); (case hr => first | (go_simp; done) | (go_simp; rfl)); intro w47 hw; have hg : w45.grownBy w47 (some go37) := (by rw [hw]; exact HP46.2); have hp_ : Kd.R k24 24 w47 w.heap.size (fun _ => True) (.slice (some ⟨go37, 0, none⟩) x3_3.length co39) y439 := (by rw [hw, Ny439.out]; exact HP46.1); clear HP46; replace HI0 := Aside0.mk (IsS43.grown zI12HI0 hg (IsS43.own_ne HI0.out HO_3.out (by decide))); replace HO436 := Aside0.mk (Kd.R_over' (v := (.slice (some ⟨go37, 0, none⟩) x3_3.length co39)) (zU HO436) (Kd.R_typed HO_3.out) (by decide) hg); replace HB := Aside0.mk ((by rw [hw]; exact below_set (HB.out) (Nat.le_trans HL.out GB37.out) : Below w0.heap.size w0 w47)); replace HK := Aside0.mk (KeepBut.trans zK12 (KeepBut.of_grown hg g) (Kd.R_base2 HO_3.out)); replace HO_3 := Aside0.mk hp_; clear hg hw hp_))
        go_ret
        exact ⟨_, zR, zU HO_3, zI12HI0, zB12HI0, zK12⟩
       ·exact absurd H (nN c36)
      ·exact absurd H (nN c35)
     ·rw [if_neg c33] at H
      have c33b0 : (t429 == 1) = false := beq_eq_false_iff_ne.mpr c33
      have c33b1 : (t429 != 1) = true := bne_iff_ne.mpr c33
      by_cases c48 : t429 = 2
      ·rw [if_pos c48] at H
       have c48b0 : (t429 == 2) = true := beq_iff_eq.mpr c48
       have c48b1 : (t429 != 2) = false := bne_eq_false_iff_eq.mpr c48
       clear c48
       replace H := oA H
       obtain ⟨⟨t440, t441⟩, A49, H⟩ := H
       try dsimp only at H
       by_cases c50 : 0 ≤ t427
       ·rw [if_pos c50] at H
        have c50b0 : decide (0 ≤ t427) = true := decide_eq_true c50
        clear c50
        by_cases c51 : t427 < (x3_3.length : Int)
        ·rw [if_pos c51] at H
         have c51b0 : decide (t427 < (x3_3.length : Int)) = true := decide_eq_true c51
         clear c51
         obtain ⟨y442, hy442⟩ : ∃ y_ : List (S24), y_ = (x3_3.set (t427 : Int).toNat (⟨(rd_T24 x3_3 t427).f0, t440, (rd_T24 x3_3 t427).f2, (rd_T24 x3_3 t427).f3, (rd_T24 x3_3 t427).f4, (rd_T24 x3_3 t427).f5⟩ : S24)) := ⟨_, rfl⟩
         replace H : (some (y442, t441)) = some (r1, r2) := by first | (rw [hy442]; with_reducible exact H) | (have H2_ := (Option.bind_some _ _).symm.trans H; rw [hy442]; with_reducible exact H2_) | (have H2_ := (Option.bind_some _ _).symm.trans H; with_reducible exact H2_) | with_reducible exact H | (rw [hy442]; exact H) | exact H
         have Ny442 := Aside0.mk hy442
         clear hy442
         simp only [Option.some.injEq, Prod.mk.injEq] at H
         obtain ⟨rfl, rfl⟩ := H
         go_wp2_with (first | ((with_reducible refine gate_callee (f := 18) rfl ?_); refine gl 21 Tryz.func18 #[.pointer (some ⟨g, 0, none⟩), .int .i64 4] ?_; (with_reducible refine (spec_l20Rd_pick.calls kj3 g s0_0 x1001_3 4 t425 t426 w0 _ ?side1 ?side2 A17.out).mono ?_); (case side1 => exact zI12HI0); (case side2 => exact zB12HI0); rintro e w53 ⟨rfl, hi, hb, hk⟩; refine ⟨_, rfl, ?_⟩; replace HO_3 := Aside0.mk (Kd.R_mono (Kd.R_keep (IsS43.apart (show IsS43 w0 _ g s0_0 x1001_3 from zI12HI0) (zU HO_3) (by decide)) hk (fun _ h => h.2)) (fun _ h => h.1)); replace HK := Aside0.mk (KeepBut.trans zK12 hk (.inl rfl)); replace HB := Aside0.mk hb; replace HI0 := Aside0.mk hi; (try clear hb); (try clear hb2); (try clear hk); (try clear hi); obtain ⟨Ao54, co54, eo54⟩ := Kd.R_slice HO_3.out; subst eo54) | ((with_reducible refine gate_callee (f := 18) rfl ?_); refine gl 26 Tryz.func18 #[.pointer (some ⟨g, 0, none⟩), .int .i64 (x3_3.length : Int)] ?_; (with_reducible refine (spec_l20Rd_pick.calls kj3 g s0_0 t426 (x3_3.length : Int) t427 t428 w0 _ ?side1 ?side2 A19.out).mono ?_); (case side1 => exact zI12HI0); (case side2 => exact zB12HI0); rintro e w55 ⟨rfl, hi, hb, hk⟩; refine ⟨_, rfl, ?_⟩; replace HO_3 := Aside0.mk (Kd.R_mono (Kd.R_keep (IsS43.apart (show IsS43 w0 _ g s0_0 t426 from zI12HI0) (zU HO_3) (by decide)) hk (fun _ h => h.2)) (fun _ h => h.1)); replace HK := Aside0.mk (KeepBut.trans zK12 hk (.inl rfl)); replace HB := Aside0.mk hb; replace HI0 := Aside0.mk hi; (try clear hb); (try clear hb2); (try clear hk); (try clear hi)) | ((with_reducible refine gate_callee (f := 18) rfl ?_); refine gl 28 Tryz.func18 #[.pointer (some ⟨g, 0, none⟩), .int .i64 6] ?_; (with_reducible refine (spec_l20Rd_pick.calls kj3 g s0_0 t428 6 t429 t430 w0 _ ?side1 ?side2 A20.out).mono ?_); (case side1 => exact zI12HI0); (case side2 => exact zB12HI0); rintro e w56 ⟨rfl, hi, hb, hk⟩; refine ⟨_, rfl, ?_⟩; replace HO_3 := Aside0.mk (Kd.R_mono (Kd.R_keep (IsS43.apart (show IsS43 w0 _ g s0_0 t428 from zI12HI0) (zU HO_3) (by decide)) hk (fun _ h => h.2)) (fun _ h => h.1)); replace HK := Aside0.mk (KeepBut.trans zK12 hk (.inl rfl)); replace HB := Aside0.mk hb; replace HI0 := Aside0.mk hi; (try clear hb); (try clear hb2); (try clear hk); (try clear hi)) | ((with_reducible refine gate_callee (f := 18) rfl ?_); refine gl 64 Tryz.func18 #[.pointer (some ⟨g, 0, none⟩), .int .i64 12] ?_; (with_reducible refine (spec_l20Rd_pick.calls kj3 g s0_0 t430 12 t440 t441 w0 _ ?side1 ?side2 A49.out).mono ?_); (case side1 => exact zI12HI0); (case side2 => exact zB12HI0); rintro e w57 ⟨rfl, hi, hb, hk⟩; refine ⟨_, rfl, ?_⟩; replace HO_3 := Aside0.mk (Kd.R_mono (Kd.R_keep (IsS43.apart (show IsS43 w0 _ g s0_0 t430 from zI12HI0) (zU HO_3) (by decide)) hk (fun _ h => h.2)) (fun _ h => h.1)); replace HK := Aside0.mk (KeepBut.trans zK12 hk (.inl rfl)); replace HB := Aside0.mk hb; replace HI0 := Aside0.mk hi; (try clear hb); (try clear hb2); (try clear hk); (try clear hi); have p52 : 0 ≤ (t427 : Int) := dz12; have q52 : (t427 : Int) < ((x3_3.length : Int) : Int) := dz12; obtain ⟨go52, co52, eo52, gb52, gl52, cl52, HG52⟩ := Kd.R_form HO_3.out (by omega); (first | cases eo52 | (injection eo52 with ea_ en_ ec_; (first | subst ea_ | (injection ea_ with ea_; subst ea_)); subst ec_; clear en_)); have GB52 := Aside0.mk gb52; have GG52 := Aside0.mk HG52; clear gb52 gl52 HG52; obtain ⟨ce52, hcl52, hM52, hcc52, hfr52⟩ := Kd.R_elem HO_3.out z24 (t427 : Int) p52 q52; obtain rfl := k24_openM hM52; have hx52_0 : w57.cell? ⟨go52, (t427 : Int).toNat * 6, none⟩ = some (.int .i64 ((rd_T24 x3_3 t427).f0)) := hcc52 0 _ rfl; have hx52_1 : w57.cell? ⟨go52, (t427 : Int).toNat * 6 + 1, none⟩ = some (.int .i64 ((rd_T24 x3_3 t427).f1)) := hcc52 1 _ rfl; have hx52_2 : w57.cell? ⟨go52, (t427 : Int).toNat * 6 + 2, none⟩ = some (.int .i64 ((rd_T24 x3_3 t427).f2)) := hcc52 2 _ rfl; have hx52_3 : w57.cell? ⟨go52, (t427 : Int).toNat * 6 + 3, none⟩ = some (.int .i64 ((rd_T24 x3_3 t427).f3)) := hcc52 3 _ rfl; have hx52_4 : w57.cell? ⟨go52, (t427 : Int).toNat * 6 + 4, none⟩ = some (.int .i64 ((rd_T24 x3_3 t427).f4)) := hcc52 4 _ rfl; have hx52_5 : w57.cell? ⟨go52, (t427 : Int).toNat * 6 + 5, none⟩ = some (.int .i64 ((rd_T24 x3_3 t427).f5)) := hcc52 5 _ rfl; have hf52_0 : w57.frozen? ⟨go52, (t427 : Int).toNat * 6, none⟩ = false := hfr52 0; have hf52_1 : w57.frozen? ⟨go52, (t427 : Int).toNat * 6 + 1, none⟩ = false := hfr52 1; have hf52_2 : w57.frozen? ⟨go52, (t427 : Int).toNat * 6 + 2, none⟩ = false := hfr52 2; have hf52_3 : w57.frozen? ⟨go52, (t427 : Int).toNat * 6 + 3, none⟩ = false := hfr52 3; have hf52_4 : w57.frozen? ⟨go52, (t427 : Int).toNat * 6 + 4, none⟩ = false := hfr52 4; have hf52_5 : w57.frozen? ⟨go52, (t427 : Int).toNat * 6 + 5, none⟩ = false := hfr52 5; clear hcl52 hcc52 hfr52 hM52; replace p52 := eq_true p52; replace q52 := eq_true q52; have HX58 := Aside0.mk (show Kd.R k24 24 w57 w.heap.size (fun _ => True) (.slice (some ⟨go52, 0, none⟩) x3_3.length co54) x3_3 from (zU HO_3)); obtain ⟨ce58, hcl58, hM58, hcc58, hfr58⟩ := Kd.R_elem HX58.out z24 (t427 : Int) (dz12) (by have h_ : (t427 : Int) < ((x3_3.length : Int) : Int) := dz12; first | exact h_ | (have e_ := (Kd.R_reads' HO_3.out).1; omega) | simpa using h_); obtain rfl := k24_openM hM58; have HP58 := Kd.R_seg HX58.out (t427 : Int) (dz12) (by have h_ : (t427 : Int) < ((x3_3.length : Int) : Int) := dz12; first | exact h_ | (have e_ := (Kd.R_reads' HO_3.out).1; omega) | simpa using h_) (seg := [.int .i64 t440]) (j := 1) hcl58 hcc58 (show 2 ≤ 6 from by decide) (x' := (⟨(rd_T24 x3_3 t427).f0, t440, (rd_T24 x3_3 t427).f2, (rd_T24 x3_3 t427).f3, (rd_T24 x3_3 t427).f4, (rd_T24 x3_3 t427).f5⟩ : S24)) (k24_mkM _ _ _ (⟨(rd_T24 x3_3 t427).f0, t440, (rd_T24 x3_3 t427).f2, (rd_T24 x3_3 t427).f3, (rd_T24 x3_3 t427).f4, (rd_T24 x3_3 t427).f5⟩ : S24) ) (fun _ hk => hk); have hx58_1 := hcc58 1 _ rfl; (try simp only [show (k24).sz = 6 from rfl, Nat.mul_one, Nat.add_zero] at hx58_1); have hf58_1 := hfr58 1; (try simp only [show (k24).sz = 6 from rfl, Nat.mul_one, Nat.add_zero] at hf58_1); clear hcl58 hcc58 hfr58 hM58) | ((with_reducible refine gate_store (t := 3) (p := 66) rfl ?_); refine store_event (t := 3) (p := 66) (v := ?vo_w59) (w1 := (w57.setCell ⟨go52, (t427 : Int).toNat * 6 + 1, none⟩ (.int .i64 t440))) ?hg ?ho ?hn ?hr ?_; (case ho => rfl); (case hg => rfl); (case hn => rfl); (case hr => first | (go_simp; done) | (go_simp; rfl)); intro w59 hw; have hg : w57.grownBy w59 (some go52) := (by rw [hw]; exact HP58.2); have hp_ : Kd.R k24 24 w59 w.heap.size (fun _ => True) (.slice (some ⟨go52, 0, none⟩) x3_3.length co54) y442 := (by rw [hw, Ny442.out]; exact HP58.1); clear HP58; replace HI0 := Aside0.mk (IsS43.grown zI12HI0 hg (IsS43.own_ne HI0.out HO_3.out (by decide))); replace HB := Aside0.mk ((by rw [hw]; exact below_set (HB.out) (Nat.le_trans HL.out GB52.out) : Below w0.heap.size w0 w59)); replace HK := Aside0.mk (KeepBut.trans zK12 (KeepBut.of_grown hg g) (Kd.R_base2 HO_3.out)); replace HO_3 := Aside0.mk hp_; clear hg hw hp_))
         go_ret
         exact ⟨_, zR, zU HO_3, zI12HI0, zB12HI0, zK12⟩
        ·exact absurd H (nN c51)
       ·exact absurd H (nN c50)
      ·rw [if_neg c48] at H
       have c48b0 : (t429 == 2) = false := beq_eq_false_iff_ne.mpr c48
       have c48b1 : (t429 != 2) = true := bne_iff_ne.mpr c48
       by_cases c60 : t429 = 3
       ·rw [if_pos c60] at H
        have c60b0 : (t429 == 3) = true := beq_iff_eq.mpr c60
        have c60b1 : (t429 != 3) = false := bne_eq_false_iff_eq.mpr c60
        clear c60
        replace H := oA H
        obtain ⟨⟨t443, t444⟩, A61, H⟩ := H
        try dsimp only at H
        by_cases c62 : 0 ≤ t427
        ·rw [if_pos c62] at H
         have c62b0 : decide (0 ≤ t427) = true := decide_eq_true c62
         clear c62
         by_cases c63 : t427 < (x3_3.length : Int)
         ·rw [if_pos c63] at H
          have c63b0 : decide (t427 < (x3_3.length : Int)) = true := decide_eq_true c63
          clear c63
          obtain ⟨y445, hy445⟩ : ∃ y_ : List (S24), y_ = (x3_3.set (t427 : Int).toNat (⟨t443, (rd_T24 x3_3 t427).f1, (rd_T24 x3_3 t427).f2, (rd_T24 x3_3 t427).f3, (rd_T24 x3_3 t427).f4, (rd_T24 x3_3 t427).f5⟩ : S24)) := ⟨_, rfl⟩
          replace H : (some (y445, t444)) = some (r1, r2) := by first | (rw [hy445]; with_reducible exact H) | (have H2_ := (Option.bind_some _ _).symm.trans H; rw [hy445]; with_reducible exact H2_) | (have H2_ := (Option.bind_some _ _).symm.trans H; with_reducible exact H2_) | with_reducible exact H | (rw [hy445]; exact H) | exact H
          have Ny445 := Aside0.mk hy445
          clear hy445
          simp only [Option.some.injEq, Prod.mk.injEq] at H
          obtain ⟨rfl, rfl⟩ := H
          go_wp2_with (first | ((with_reducible refine gate_callee (f := 18) rfl ?_); refine gl 21 Tryz.func18 #[.pointer (some ⟨g, 0, none⟩), .int .i64 4] ?_; (with_reducible refine (spec_l20Rd_pick.calls kj3 g s0_0 x1001_3 4 t425 t426 w0 _ ?side1 ?side2 A17.out).mono ?_); (case side1 => exact zI12HI0); (case side2 => exact zB12HI0); rintro e w65 ⟨rfl, hi, hb, hk⟩; refine ⟨_, rfl, ?_⟩; replace HO_3 := Aside0.mk (Kd.R_mono (Kd.R_keep (IsS43.apart (show IsS43 w0 _ g s0_0 x1001_3 from zI12HI0) (zU HO_3) (by decide)) hk (fun _ h => h.2)) (fun _ h => h.1)); replace HK := Aside0.mk (KeepBut.trans zK12 hk (.inl rfl)); replace HB := Aside0.mk hb; replace HI0 := Aside0.mk hi; (try clear hb); (try clear hb2); (try clear hk); (try clear hi); obtain ⟨Ao66, co66, eo66⟩ := Kd.R_slice HO_3.out; subst eo66) | ((with_reducible refine gate_callee (f := 18) rfl ?_); refine gl 26 Tryz.func18 #[.pointer (some ⟨g, 0, none⟩), .int .i64 (x3_3.length : Int)] ?_; (with_reducible refine (spec_l20Rd_pick.calls kj3 g s0_0 t426 (x3_3.length : Int) t427 t428 w0 _ ?side1 ?side2 A19.out).mono ?_); (case side1 => exact zI12HI0); (case side2 => exact zB12HI0); rintro e w67 ⟨rfl, hi, hb, hk⟩; refine ⟨_, rfl, ?_⟩; replace HO_3 := Aside0.mk (Kd.R_mono (Kd.R_keep (IsS43.apart (show IsS43 w0 _ g s0_0 t426 from zI12HI0) (zU HO_3) (by decide)) hk (fun _ h => h.2)) (fun _ h => h.1)); replace HK := Aside0.mk (KeepBut.trans zK12 hk (.inl rfl)); replace HB := Aside0.mk hb; replace HI0 := Aside0.mk hi; (try clear hb); (try clear hb2); (try clear hk); (try clear hi)) | ((with_reducible refine gate_callee (f := 18) rfl ?_); refine gl 28 Tryz.func18 #[.pointer (some ⟨g, 0, none⟩), .int .i64 6] ?_; (with_reducible refine (spec_l20Rd_pick.calls kj3 g s0_0 t428 6 t429 t430 w0 _ ?side1 ?side2 A20.out).mono ?_); (case side1 => exact zI12HI0); (case side2 => exact zB12HI0); rintro e w68 ⟨rfl, hi, hb, hk⟩; refine ⟨_, rfl, ?_⟩; replace HO_3 := Aside0.mk (Kd.R_mono (Kd.R_keep (IsS43.apart (show IsS43 w0 _ g s0_0 t428 from zI12HI0) (zU HO_3) (by decide)) hk (fun _ h => h.2)) (fun _ h => h.1)); replace HK := Aside0.mk (KeepBut.trans zK12 hk (.inl rfl)); replace HB := Aside0.mk hb; replace HI0 := Aside0.mk hi; (try clear hb); (try clear hb2); (try clear hk); (try clear hi)) | ((with_reducible refine gate_callee (f := 18) rfl ?_); refine gl 72 Tryz.func18 #[.pointer (some ⟨g, 0, none⟩), .int .i64 22] ?_; (with_reducible refine (spec_l20Rd_pick.calls kj3 g s0_0 t430 22 t443 t444 w0 _ ?side1 ?side2 A61.out).mono ?_); (case side1 => exact zI12HI0); (case side2 => exact zB12HI0); rintro e w69 ⟨rfl, hi, hb, hk⟩; refine ⟨_, rfl, ?_⟩; replace HO_3 := Aside0.mk (Kd.R_mono (Kd.R_keep (IsS43.apart (show IsS43 w0 _ g s0_0 t430 from zI12HI0) (zU HO_3) (by decide)) hk (fun _ h => h.2)) (fun _ h => h.1)); replace HK := Aside0.mk (KeepBut.trans zK12 hk (.inl rfl)); replace HB := Aside0.mk hb; replace HI0 := Aside0.mk hi; (try clear hb); (try clear hb2); (try clear hk); (try clear hi); have p64 : 0 ≤ (t427 : Int) := dz12; have q64 : (t427 : Int) < ((x3_3.length : Int) : Int) := dz12; obtain ⟨go64, co64, eo64, gb64, gl64, cl64, HG64⟩ := Kd.R_form HO_3.out (by omega); (first | cases eo64 | (injection eo64 with ea_ en_ ec_; (first | subst ea_ | (injection ea_ with ea_; subst ea_)); subst ec_; clear en_)); have GB64 := Aside0.mk gb64; have GG64 := Aside0.mk HG64; clear gb64 gl64 HG64; obtain ⟨ce64, hcl64, hM64, hcc64, hfr64⟩ := Kd.R_elem HO_3.out z24 (t427 : Int) p64 q64; obtain rfl := k24_openM hM64; have hx64_0 : w69.cell? ⟨go64, (t427 : Int).toNat * 6, none⟩ = some (.int .i64 ((rd_T24 x3_3 t427).f0)) := hcc64 0 _ rfl; have hx64_1 : w69.cell? ⟨go64, (t427 : Int).toNat * 6 + 1, none⟩ = some (.int .i64 ((rd_T24 x3_3 t427).f1)) := hcc64 1 _ rfl; have hx64_2 : w69.cell? ⟨go64, (t427 : Int).toNat * 6 + 2, none⟩ = some (.int .i64 ((rd_T24 x3_3 t427).f2)) := hcc64 2 _ rfl; have hx64_3 : w69.cell? ⟨go64, (t427 : Int).toNat * 6 + 3, none⟩ = some (.int .i64 ((rd_T24 x3_3 t427).f3)) := hcc64 3 _ rfl; have hx64_4 : w69.cell? ⟨go64, (t427 : Int).toNat * 6 + 4, none⟩ = some (.int .i64 ((rd_T24 x3_3 t427).f4)) := hcc64 4 _ rfl; have hx64_5 : w69.cell? ⟨go64, (t427 : Int).toNat * 6 + 5, none⟩ = some (.int .i64 ((rd_T24 x3_3 t427).f5)) := hcc64 5 _ rfl; have hf64_0 : w69.frozen? ⟨go64, (t427 : Int).toNat * 6, none⟩ = false := hfr64 0; have hf64_1 : w69.frozen? ⟨go64, (t427 : Int).toNat * 6 + 1, none⟩ = false := hfr64 1; have hf64_2 : w69.frozen? ⟨go64, (t427 : Int).toNat * 6 + 2, none⟩ = false := hfr64 2; have hf64_3 : w69.frozen? ⟨go64, (t427 : Int).toNat * 6 + 3, none⟩ = false := hfr64 3; have hf64_4 : w69.frozen? ⟨go64, (t427 : Int).toNat * 6 + 4, none⟩ = false := hfr64 4; have hf64_5 : w69.frozen? ⟨go64, (t427 : Int).toNat * 6 + 5, none⟩ = false := hfr64 5; clear hcl64 hcc64 hfr64 hM64; replace p64 := eq_true p64; replace q64 := eq_true q64; have HX70 := Aside0.mk (show Kd.R k24 24 w69 w.heap.size (fun _ => True) (.slice (some ⟨go64, 0, none⟩) x3_3.length co66) x3_3 from (zU HO_3)); obtain ⟨ce70, hcl70, hM70, hcc70, hfr70⟩ := Kd.R_elem HX70.out z24 (t427 : Int) (dz12) (by have h_ : (t427 : Int) < ((x3_3.length : Int) : Int) := dz12; first | exact h_ | (have e_ := (Kd.R_reads' HO_3.out).1; omega) | simpa using h_); obtain rfl := k24_openM hM70; have HP70 := Kd.R_seg HX70.out (t427 : Int) (dz12) (by have h_ : (t427 : Int) < ((x3_3.length : Int) : Int) := dz12; first | exact h_ | (have e_ := (Kd.R_reads' HO_3.out).1; omega) | simpa using h_) (seg := [.int .i64 t443]) (j := 0) hcl70 hcc70 (show 1 ≤ 6 from by decide) (x' := (⟨t443, (rd_T24 x3_3 t427).f1, (rd_T24 x3_3 t427).f2, (rd_T24 x3_3 t427).f3, (rd_T24 x3_3 t427).f4, (rd_T24 x3_3 t427).f5⟩ : S24)) (k24_mkM _ _ _ (⟨t443, (rd_T24 x3_3 t427).f1, (rd_T24 x3_3 t427).f2, (rd_T24 x3_3 t427).f3, (rd_T24 x3_3 t427).f4, (rd_T24 x3_3 t427).f5⟩ : S24) ) (fun _ hk => hk); have hx70_0 := hcc70 0 _ rfl; (try simp only [show (k24).sz = 6 from rfl, Nat.mul_one, Nat.add_zero] at hx70_0); have hf70_0 := hfr70 0; (try simp only [show (k24).sz = 6 from rfl, Nat.mul_one, Nat.add_zero] at hf70_0); clear hcl70 hcc70 hfr70 hM70) | ((with_reducible refine gate_store (t := 3) (p := 74) rfl ?_); refine store_event (t := 3) (p := 74) (v := ?vo_w71) (w1 := (w69.setCell ⟨go64, (t427 : Int).toNat * 6, none⟩ (.int .i64 t443))) ?hg ?ho ?hn ?hr ?_; (case ho => rfl); (case hg => rfl); (case hn => rfl); (case hr => first | (go_simp; done) | (go_simp; rfl)); intro w71 hw; have hg : w69.grownBy w71 (some go64) := (by rw [hw]; exact HP70.2); have hp_ : Kd.R k24 24 w71 w.heap.size (fun _ => True) (.slice (some ⟨go64, 0, none⟩) x3_3.length co66) y445 := (by rw [hw, Ny445.out]; exact HP70.1); clear HP70; replace HI0 := Aside0.mk (IsS43.grown zI12HI0 hg (IsS43.own_ne HI0.out HO_3.out (by decide))); replace HB := Aside0.mk ((by rw [hw]; exact below_set (HB.out) (Nat.le_trans HL.out GB64.out) : Below w0.heap.size w0 w71)); replace HK := Aside0.mk (KeepBut.trans zK12 (KeepBut.of_grown hg g) (Kd.R_base2 HO_3.out)); replace HO_3 := Aside0.mk hp_; clear hg hw hp_))
          go_ret
          exact ⟨_, zR, zU HO_3, zI12HI0, zB12HI0, zK12⟩
         ·exact absurd H (nN c63)
        ·exact absurd H (nN c62)
       ·rw [if_neg c60] at H
        have c60b0 : (t429 == 3) = false := beq_eq_false_iff_ne.mpr c60
        have c60b1 : (t429 != 3) = true := bne_iff_ne.mpr c60
        by_cases c72 : t429 = 4
        ·rw [if_pos c72] at H
         have c72b0 : (t429 == 4) = true := beq_iff_eq.mpr c72
         have c72b1 : (t429 != 4) = false := bne_eq_false_iff_eq.mpr c72
         clear c72
         replace H := oA H
         obtain ⟨⟨t446, t447⟩, A73, H⟩ := H
         try dsimp only at H
         by_cases c74 : 0 ≤ t427
         ·rw [if_pos c74] at H
          have c74b0 : decide (0 ≤ t427) = true := decide_eq_true c74
          clear c74
          by_cases c75 : t427 < (x3_3.length : Int)
          ·rw [if_pos c75] at H
           have c75b0 : decide (t427 < (x3_3.length : Int)) = true := decide_eq_true c75
           clear c75
           obtain ⟨y448, hy448⟩ : ∃ y_ : List (S24), y_ = (x3_3.set (t427 : Int).toNat (⟨(rd_T24 x3_3 t427).f0, (rd_T24 x3_3 t427).f1, wrap64 (t446 - 1), (rd_T24 x3_3 t427).f3, (rd_T24 x3_3 t427).f4, (rd_T24 x3_3 t427).f5⟩ : S24)) := ⟨_, rfl⟩
           replace H : (some (y448, t447)) = some (r1, r2) := by first | (rw [hy448]; with_reducible exact H) | (have H2_ := (Option.bind_some _ _).symm.trans H; rw [hy448]; with_reducible exact H2_) | (have H2_ := (Option.bind_some _ _).symm.trans H; with_reducible exact H2_) | with_reducible exact H | (rw [hy448]; exact H) | exact H
           have Ny448 := Aside0.mk hy448
           clear hy448
           simp only [Option.some.injEq, Prod.mk.injEq] at H
           obtain ⟨rfl, rfl⟩ := H
           go_wp2_with (first | ((with_reducible refine gate_callee (f := 18) rfl ?_); refine gl 21 Tryz.func18 #[.pointer (some ⟨g, 0, none⟩), .int .i64 4] ?_; (with_reducible refine (spec_l20Rd_pick.calls kj3 g s0_0 x1001_3 4 t425 t426 w0 _ ?side1 ?side2 A17.out).mono ?_); (case side1 => exact zI12HI0); (case side2 => exact zB12HI0); rintro e w77 ⟨rfl, hi, hb, hk⟩; refine ⟨_, rfl, ?_⟩; replace HO_3 := Aside0.mk (Kd.R_mono (Kd.R_keep (IsS43.apart (show IsS43 w0 _ g s0_0 x1001_3 from zI12HI0) (zU HO_3) (by decide)) hk (fun _ h => h.2)) (fun _ h => h.1)); replace HK := Aside0.mk (KeepBut.trans zK12 hk (.inl rfl)); replace HB := Aside0.mk hb; replace HI0 := Aside0.mk hi; (try clear hb); (try clear hb2); (try clear hk); (try clear hi); obtain ⟨Ao78, co78, eo78⟩ := Kd.R_slice HO_3.out; subst eo78) | ((with_reducible refine gate_callee (f := 18) rfl ?_); refine gl 26 Tryz.func18 #[.pointer (some ⟨g, 0, none⟩), .int .i64 (x3_3.length : Int)] ?_; (with_reducible refine (spec_l20Rd_pick.calls kj3 g s0_0 t426 (x3_3.length : Int) t427 t428 w0 _ ?side1 ?side2 A19.out).mono ?_); (case side1 => exact zI12HI0); (case side2 => exact zB12HI0); rintro e w79 ⟨rfl, hi, hb, hk⟩; refine ⟨_, rfl, ?_⟩; replace HO_3 := Aside0.mk (Kd.R_mono (Kd.R_keep (IsS43.apart (show IsS43 w0 _ g s0_0 t426 from zI12HI0) (zU HO_3) (by decide)) hk (fun _ h => h.2)) (fun _ h => h.1)); replace HK := Aside0.mk (KeepBut.trans zK12 hk (.inl rfl)); replace HB := Aside0.mk hb; replace HI0 := Aside0.mk hi; (try clear hb); (try clear hb2); (try clear hk); (try clear hi)) | ((with_reducible refine gate_callee (f := 18) rfl ?_); refine gl 28 Tryz.func18 #[.pointer (some ⟨g, 0, none⟩), .int .i64 6] ?_; (with_reducible refine (spec_l20Rd_pick.calls kj3 g s0_0 t428 6 t429 t430 w0 _ ?side1 ?side2 A20.out).mono ?_); (case side1 => exact zI12HI0); (case side2 => exact zB12HI0); rintro e w80 ⟨rfl, hi, hb, hk⟩; refine ⟨_, rfl, ?_⟩; replace HO_3 := Aside0.mk (Kd.R_mono (Kd.R_keep (IsS43.apart (show IsS43 w0 _ g s0_0 t428 from zI12HI0) (zU HO_3) (by decide)) hk (fun _ h => h.2)) (fun _ h => h.1)); replace HK := Aside0.mk (KeepBut.trans zK12 hk (.inl rfl)); replace HB := Aside0.mk hb; replace HI0 := Aside0.mk hi; (try clear hb); (try clear hb2); (try clear hk); (try clear hi)) | ((with_reducible refine gate_callee (f := 18) rfl ?_); refine gl 80 Tryz.func18 #[.pointer (some ⟨g, 0, none⟩), .int .i64 12] ?_; (with_reducible refine (spec_l20Rd_pick.calls kj3 g s0_0 t430 12 t446 t447 w0 _ ?side1 ?side2 A73.out).mono ?_); (case side1 => exact zI12HI0); (case side2 => exact zB12HI0); rintro e w81 ⟨rfl, hi, hb, hk⟩; refine ⟨_, rfl, ?_⟩; replace HO_3 := Aside0.mk (Kd.R_mono (Kd.R_keep (IsS43.apart (show IsS43 w0 _ g s0_0 t430 from zI12HI0) (zU HO_3) (by decide)) hk (fun _ h => h.2)) (fun _ h => h.1)); replace HK := Aside0.mk (KeepBut.trans zK12 hk (.inl rfl)); replace HB := Aside0.mk hb; replace HI0 := Aside0.mk hi; (try clear hb); (try clear hb2); (try clear hk); (try clear hi); have p76 : 0 ≤ (t427 : Int) := dz12; have q76 : (t427 : Int) < ((x3_3.length : Int) : Int) := dz12; obtain ⟨go76, co76, eo76, gb76, gl76, cl76, HG76⟩ := Kd.R_form HO_3.out (by omega); (first | cases eo76 | (injection eo76 with ea_ en_ ec_; (first | subst ea_ | (injection ea_ with ea_; subst ea_)); subst ec_; clear en_)); have GB76 := Aside0.mk gb76; have GG76 := Aside0.mk HG76; clear gb76 gl76 HG76; obtain ⟨ce76, hcl76, hM76, hcc76, hfr76⟩ := Kd.R_elem HO_3.out z24 (t427 : Int) p76 q76; obtain rfl := k24_openM hM76; have hx76_0 : w81.cell? ⟨go76, (t427 : Int).toNat * 6, none⟩ = some (.int .i64 ((rd_T24 x3_3 t427).f0)) := hcc76 0 _ rfl; have hx76_1 : w81.cell? ⟨go76, (t427 : Int).toNat * 6 + 1, none⟩ = some (.int .i64 ((rd_T24 x3_3 t427).f1)) := hcc76 1 _ rfl; have hx76_2 : w81.cell? ⟨go76, (t427 : Int).toNat * 6 + 2, none⟩ = some (.int .i64 ((rd_T24 x3_3 t427).f2)) := hcc76 2 _ rfl; have hx76_3 : w81.cell? ⟨go76, (t427 : Int).toNat * 6 + 3, none⟩ = some (.int .i64 ((rd_T24 x3_3 t427).f3)) := hcc76 3 _ rfl; have hx76_4 : w81.cell? ⟨go76, (t427 : Int).toNat * 6 + 4, none⟩ = some (.int .i64 ((rd_T24 x3_3 t427).f4)) := hcc76 4 _ rfl; have hx76_5 : w81.cell? ⟨go76, (t427 : Int).toNat * 6 + 5, none⟩ = some (.int .i64 ((rd_T24 x3_3 t427).f5)) := hcc76 5 _ rfl; have hf76_0 : w81.frozen? ⟨go76, (t427 : Int).toNat * 6, none⟩ = false := hfr76 0; have hf76_1 : w81.frozen? ⟨go76, (t427 : Int).toNat * 6 + 1, none⟩ = false := hfr76 1; have hf76_2 : w81.frozen? ⟨go76, (t427 : Int).toNat * 6 + 2, none⟩ = false := hfr76 2; have hf76_3 : w81.frozen? ⟨go76, (t427 : Int).toNat * 6 + 3, none⟩ = false := hfr76 3; have hf76_4 : w81.frozen? ⟨go76, (t427 : Int).toNat * 6 + 4, none⟩ = false := hfr76 4; have hf76_5 : w81.frozen? ⟨go76, (t427 : Int).toNat * 6 + 5, none⟩ = false := hfr76 5; clear hcl76 hcc76 hfr76 hM76; replace p76 := eq_true p76; replace q76 := eq_true q76; have HX82 := Aside0.mk (show Kd.R k24 24 w81 w.heap.size (fun _ => True) (.slice (some ⟨go76, 0, none⟩) x3_3.length co78) x3_3 from (zU HO_3)); obtain ⟨ce82, hcl82, hM82, hcc82, hfr82⟩ := Kd.R_elem HX82.out z24 (t427 : Int) (dz12) (by have h_ : (t427 : Int) < ((x3_3.length : Int) : Int) := dz12; first | exact h_ | (have e_ := (Kd.R_reads' HO_3.out).1; omega) | simpa using h_); obtain rfl := k24_openM hM82; have HP82 := Kd.R_seg HX82.out (t427 : Int) (dz12) (by have h_ : (t427 : Int) < ((x3_3.length : Int) : Int) := dz12; first | exact h_ | (have e_ := (Kd.R_reads' HO_3.out).1; omega) | simpa using h_) (seg := [.int .i64 (wrap64 (t446 - 1))]) (j := 2) hcl82 hcc82 (show 3 ≤ 6 from by decide) (x' := (⟨(rd_T24 x3_3 t427).f0, (rd_T24 x3_3 t427).f1, wrap64 (t446 - 1), (rd_T24 x3_3 t427).f3, (rd_T24 x3_3 t427).f4, (rd_T24 x3_3 t427).f5⟩ : S24)) (k24_mkM _ _ _ (⟨(rd_T24 x3_3 t427).f0, (rd_T24 x3_3 t427).f1, wrap64 (t446 - 1), (rd_T24 x3_3 t427).f3, (rd_T24 x3_3 t427).f4, (rd_T24 x3_3 t427).f5⟩ : S24) ) (fun _ hk => hk); have hx82_2 := hcc82 2 _ rfl; (try simp only [show (k24).sz = 6 from rfl, Nat.mul_one, Nat.add_zero] at hx82_2); have hf82_2 := hfr82 2; (try simp only [show (k24).sz = 6 from rfl, Nat.mul_one, Nat.add_zero] at hf82_2); clear hcl82 hcc82 hfr82 hM82) | ((with_reducible refine gate_store (t := 3) (p := 83) rfl ?_); refine store_event (t := 3) (p := 83) (v := ?vo_w83) (w1 := (w81.setCell ⟨go76, (t427 : Int).toNat * 6 + 2, none⟩ (.int .i64 (wrap64 (t446 - 1))))) ?hg ?ho ?hn ?hr ?_; (case ho => rfl); (case hg => rfl); (case hn => rfl); (case hr => first | (go_simp; done) | (go_simp; rfl)); intro w83 hw; have hg : w81.grownBy w83 (some go76) := (by rw [hw]; exact HP82.2); have hp_ : Kd.R k24 24 w83 w.heap.size (fun _ => True) (.slice (some ⟨go76, 0, none⟩) x3_3.length co78) y448 := (by rw [hw, Ny448.out]; exact HP82.1); clear HP82; replace HI0 := Aside0.mk (IsS43.grown zI12HI0 hg (IsS43.own_ne HI0.out HO_3.out (by decide))); replace HB := Aside0.mk ((by rw [hw]; exact below_set (HB.out) (Nat.le_trans HL.out GB76.out) : Below w0.heap.size w0 w83)); replace HK := Aside0.mk (KeepBut.trans zK12 (KeepBut.of_grown hg g) (Kd.R_base2 HO_3.out)); replace HO_3 := Aside0.mk hp_; clear hg hw hp_))
           go_ret
           exact ⟨_, zR, zU HO_3, zI12HI0, zB12HI0, zK12⟩
          ·exact absurd H (nN c75)
         ·exact absurd H (nN c74)
        ·rw [if_neg c72] at H
         have c72b0 : (t429 == 4) = false := beq_eq_false_iff_ne.mpr c72
         have c72b1 : (t429 != 4) = true := bne_iff_ne.mpr c72
         obtain ⟨y449, hy449⟩ : ∃ y_ : List (S24), y_ = (([] : List (S24))) := ⟨_, rfl⟩
         replace H : (if 0 ≤ t427 then (if t427 ≤ (x3_3.length : Int) then ((some (x3_3.take (t427 : Int).toNat : List (S24))).bind fun y452 => (if y449.length + y452.length < 2932031007402 then ((some (y449 ++ y452 : List (S24))).bind fun y457 => ((spec_l20Alu.f kj3 s0_0 t430).bind fun bt460 => (if y457.length < 2932031007402 then ((some (y457 ++ [(⟨bt460.1, bt460.2.1, bt460.2.2.1, bt460.2.2.2.1, bt460.2.2.2.2.1, bt460.2.2.2.2.2.1⟩ : S24)] : List (S24))).bind fun y467 => ((some (x3_3.drop (t427 : Int).toNat : List (S24))).bind fun y470 => (if y467.length + y470.length < 2932031007402 then (some ((y467 ++ y470), bt460.2.2.2.2.2.2)) else (none)))) else (none)))) else (none))) else (none)) else (none)) = some (r1, r2) := by first | (rw [hy449]; with_reducible exact H) | (have H2_ := (Option.bind_some _ _).symm.trans H; rw [hy449]; with_reducible exact H2_) | (have H2_ := (Option.bind_some _ _).symm.trans H; with_reducible exact H2_) | with_reducible exact H | (rw [hy449]; exact H) | exact H
         have Ny449 := Aside0.mk hy449
         clear hy449
         by_cases c84 : 0 ≤ t427
         ·rw [if_pos c84] at H
          have c84b0 := eq_true c84
          have c84b1 : decide (0 ≤ t427) = true := decide_eq_true c84
          clear c84
          by_cases c85 : t427 ≤ (x3_3.length : Int)
          ·rw [if_pos c85] at H
           have c85b0 := eq_true c85
           have c85b1 : decide (t427 ≤ (x3_3.length : Int)) = true := decide_eq_true c85
           clear c85
           obtain ⟨y452, hy452⟩ : ∃ y_ : List (S24), y_ = (x3_3.take (t427 : Int).toNat) := ⟨_, rfl⟩
           replace H : (if y449.length + y452.length < 2932031007402 then ((some (y449 ++ y452 : List (S24))).bind fun y457 => ((spec_l20Alu.f kj3 s0_0 t430).bind fun bt460 => (if y457.length < 2932031007402 then ((some (y457 ++ [(⟨bt460.1, bt460.2.1, bt460.2.2.1, bt460.2.2.2.1, bt460.2.2.2.2.1, bt460.2.2.2.2.2.1⟩ : S24)] : List (S24))).bind fun y467 => ((some (x3_3.drop (t427 : Int).toNat : List (S24))).bind fun y470 => (if y467.length + y470.length < 2932031007402 then (some ((y467 ++ y470), bt460.2.2.2.2.2.2)) else (none)))) else (none)))) else (none)) = some (r1, r2) := by first | (rw [hy452]; with_reducible exact H) | (have H2_ := (Option.bind_some _ _).symm.trans H; rw [hy452]; with_reducible exact H2_) | (have H2_ := (Option.bind_some _ _).symm.trans H; with_reducible exact H2_) | with_reducible exact H | (rw [hy452]; exact H) | exact H
           have Ny452 := Aside0.mk hy452
           clear hy452
           by_cases c86 : y449.length + y452.length < 2932031007402
           ·rw [if_pos c86] at H
            have LMc86 := Aside0.mk c86
            clear c86
            obtain ⟨y457, hy457⟩ : ∃ y_ : List (S24), y_ = (y449 ++ y452) := ⟨_, rfl⟩
            replace H : ((spec_l20Alu.f kj3 s0_0 t430).bind fun bt460 => (if y457.length < 2932031007402 then ((some (y457 ++ [(⟨bt460.1, bt460.2.1, bt460.2.2.1, bt460.2.2.2.1, bt460.2.2.2.2.1, bt460.2.2.2.2.2.1⟩ : S24)] : List (S24))).bind fun y467 => ((some (x3_3.drop (t427 : Int).toNat : List (S24))).bind fun y470 => (if y467.length + y470.length < 2932031007402 then (some ((y467 ++ y470), bt460.2.2.2.2.2.2)) else (none)))) else (none))) = some (r1, r2) := by first | (rw [hy457]; with_reducible exact H) | (have H2_ := (Option.bind_some _ _).symm.trans H; rw [hy457]; with_reducible exact H2_) | (have H2_ := (Option.bind_some _ _).symm.trans H; with_reducible exact H2_) | with_reducible exact H | (rw [hy457]; exact H) | exact H
            have Ny457 := Aside0.mk hy457
            clear hy457
            replace H := oA H
            obtain ⟨⟨t460, t461, t462, t463, t464, t465, t466⟩, A87, H⟩ := H
            try dsimp only at H
            by_cases c88 : y457.length < 2932031007402
            ·rw [if_pos c88] at H
             have LMc88 := Aside0.mk c88
             clear c88
             obtain ⟨y467, hy467⟩ : ∃ y_ : List (S24), y_ = (y457 ++ [(⟨t460, t461, t462, t463, t464, t465⟩ : S24)]) := ⟨_, rfl⟩
             replace H : ((some (x3_3.drop (t427 : Int).toNat : List (S24))).bind fun y470 => (if y467.length + y470.length < 2932031007402 then (some ((y467 ++ y470), t466)) else (none))) = some (r1, r2) := by first | (rw [hy467]; with_reducible exact H) | (have H2_ := (Option.bind_some _ _).symm.trans H; rw [hy467]; with_reducible exact H2_) | (have H2_ := (Option.bind_some _ _).symm.trans H; with_reducible exact H2_) | with_reducible exact H | (rw [hy467]; exact H) | exact H
             have Ny467 := Aside0.mk hy467
             clear hy467
             have c89b0 := eq_true (dz12 : 0 ≤ t427)
             have c90b0 := eq_true (dz12 : t427 ≤ (x3_3.length : Int))
             obtain ⟨y470, hy470⟩ : ∃ y_ : List (S24), y_ = (x3_3.drop (t427 : Int).toNat) := ⟨_, rfl⟩
             replace H : (if y467.length + y470.length < 2932031007402 then (some ((y467 ++ y470), t466)) else (none)) = some (r1, r2) := by first | (rw [hy470]; with_reducible exact H) | (have H2_ := (Option.bind_some _ _).symm.trans H; rw [hy470]; with_reducible exact H2_) | (have H2_ := (Option.bind_some _ _).symm.trans H; with_reducible exact H2_) | with_reducible exact H | (rw [hy470]; exact H) | exact H
             have Ny470 := Aside0.mk hy470
             clear hy470
             by_cases c91 : y467.length + y470.length < 2932031007402
             ·rw [if_pos c91] at H
              have LMc91 := Aside0.mk c91
              clear c91
              obtain ⟨y475, hy475⟩ : ∃ y_ : List (S24), y_ = (y467 ++ y470) := ⟨_, rfl⟩
              replace H : (some (y475, t466)) = some (r1, r2) := by first | (rw [hy475]; with_reducible exact H) | (have H2_ := (Option.bind_some _ _).symm.trans H; rw [hy475]; with_reducible exact H2_) | (have H2_ := (Option.bind_some _ _).symm.trans H; with_reducible exact H2_) | with_reducible exact H | (rw [hy475]; exact H) | exact H
              have Ny475 := Aside0.mk hy475
              clear hy475
              simp only [Option.some.injEq, Prod.mk.injEq] at H
              obtain ⟨rfl, rfl⟩ := H
              try go_wp2_with (first | ((with_reducible refine gate_callee (f := 18) rfl ?_); refine gl 21 Tryz.func18 #[.pointer (some ⟨g, 0, none⟩), .int .i64 4] ?_; (with_reducible refine (spec_l20Rd_pick.calls kj3 g s0_0 x1001_3 4 t425 t426 w0 _ ?side1 ?side2 A17.out).mono ?_); (case side1 => exact zI12HI0); (case side2 => exact zB12HI0); rintro e w92 ⟨rfl, hi, hb, hk⟩; refine ⟨_, rfl, ?_⟩; replace HO_3 := Aside0.mk (Kd.R_mono (Kd.R_keep (IsS43.apart (show IsS43 w0 _ g s0_0 x1001_3 from zI12HI0) (zU HO_3) (by decide)) hk (fun _ h => h.2)) (fun _ h => h.1)); replace HK := Aside0.mk (KeepBut.trans zK12 hk (.inl rfl)); replace HB := Aside0.mk hb; replace HI0 := Aside0.mk hi; (try clear hb); (try clear hb2); (try clear hk); (try clear hi); obtain ⟨Ao93, co93, eo93⟩ := Kd.R_slice HO_3.out; subst eo93) | ((with_reducible refine gate_callee (f := 18) rfl ?_); refine gl 26 Tryz.func18 #[.pointer (some ⟨g, 0, none⟩), .int .i64 (x3_3.length : Int)] ?_; (with_reducible refine (spec_l20Rd_pick.calls kj3 g s0_0 t426 (x3_3.length : Int) t427 t428 w0 _ ?side1 ?side2 A19.out).mono ?_); (case side1 => exact zI12HI0); (case side2 => exact zB12HI0); rintro e w94 ⟨rfl, hi, hb, hk⟩; refine ⟨_, rfl, ?_⟩; replace HO_3 := Aside0.mk (Kd.R_mono (Kd.R_keep (IsS43.apart (show IsS43 w0 _ g s0_0 t426 from zI12HI0) (zU HO_3) (by decide)) hk (fun _ h => h.2)) (fun _ h => h.1)); replace HK := Aside0.mk (KeepBut.trans zK12 hk (.inl rfl)); replace HB := Aside0.mk hb; replace HI0 := Aside0.mk hi; (try clear hb); (try clear hb2); (try clear hk); (try clear hi)) | ((with_reducible refine gate_callee (f := 18) rfl ?_); refine gl 28 Tryz.func18 #[.pointer (some ⟨g, 0, none⟩), .int .i64 6] ?_; (with_reducible refine (spec_l20Rd_pick.calls kj3 g s0_0 t428 6 t429 t430 w0 _ ?side1 ?side2 A20.out).mono ?_); (case side1 => exact zI12HI0); (case side2 => exact zB12HI0); rintro e w95 ⟨rfl, hi, hb, hk⟩; refine ⟨_, rfl, ?_⟩; replace HO_3 := Aside0.mk (Kd.R_mono (Kd.R_keep (IsS43.apart (show IsS43 w0 _ g s0_0 t428 from zI12HI0) (zU HO_3) (by decide)) hk (fun _ h => h.2)) (fun _ h => h.1)); replace HK := Aside0.mk (KeepBut.trans zK12 hk (.inl rfl)); replace HB := Aside0.mk hb; replace HI0 := Aside0.mk hi; (try clear hb); (try clear hb2); (try clear hk); (try clear hi)))
              replace HO_3 := Aside0.mk (Kd.R_drew HO_3.out)
              replace HI0 := Aside0.mk (IsS43.drew HI0.out)
              replace HK := Aside0.mk (keep_drew HK.out)
              replace HB := Aside0.mk (below_drew1 HB.out)
              have q97 : (t427 : Int) ≤ ((x3_3.length : Int) : Int) := dz12
              obtain ⟨i097, hi097, _, hsz97, _⟩ := info_parts info24
              have hroom97 : x3_3.length ≤ co93 := (Kd.R_reads' HO_3.out).2.1
              have hC97 : Kd.F k24 _ _ Ao93 x3_3.length x3_3 := (Kd.V_at (base := w.heap.size) (Kd.R_V (IsS43.apart HI0.out (HO_3.out) (by decide)))).2.2
              have hcut97 := cut_to (P := Tryz.prog) 39 24 .i64 Tryz.underlying39 hi097 Ao93 x3_3.length co93 t427 (dz12) q97 hroom97
              have hr97 := Kd.F_take (m := (t427 : Int).toNat) hC97 (by omega)
              have hy97 : y452.length = (t427 : Int).toNat := (by rw [Ny452.out, List.length_take]; omega)
              rw [← Ny452.out] at hr97
              rw [← hy97] at hcut97
              have HO456 := Aside0.mk (show Kd.V k24 24 _ w.heap.size _ (.slice Ao93 y452.length co93) y452 from Kd.V_mk (by omega) hr97)
              have HC456 := Aside0.mk (show y452.length ≤ co93 from by omega)
              clear hr97 hC97 hroom97 hi097 hsz97
              have KY97 := Aside0.mk hy97
              clear hy97
              replace q97 := eq_true q97
              have q98 : (t427 : Int) ≤ ((x3_3.length : Int) : Int) := dz12
              obtain ⟨i098, hi098, _, hsz98, _⟩ := info_parts info24
              have hroom98 : x3_3.length ≤ co93 := (Kd.R_reads' HO_3.out).2.1
              have hC98 : Kd.F k24 _ _ Ao93 x3_3.length x3_3 := (Kd.V_at (base := w.heap.size) (Kd.R_V (IsS43.apart HI0.out (HO_3.out) (by decide)))).2.2
              have q098 : (0 : Int) ≤ (t427 : Int) := dz12
              have hcut98 := cut_from (P := Tryz.prog) 39 24 .i64 Tryz.underlying39 hi098 6 hsz98 Ao93 x3_3.length co93 t427 q098 q98
              have hr98 := Kd.F_cut (m := (t427 : Int).toNat) (c := co93) hC98 (by omega) hroom98
              obtain ⟨A98, hA98⟩ : ∃ A1, A1 = (if co93 = (t427 : Int).toNat then Ao93 else (Ao93 : Option Addr).map (·.add ((t427 : Int).toNat * 6))) := ⟨_, rfl⟩
              obtain ⟨c98, hc98⟩ : ∃ c1, c1 = co93 - (t427 : Int).toNat := ⟨_, rfl⟩
              have hy98 : y470.length = x3_3.length - (t427 : Int).toNat := (by rw [Ny470.out, List.length_drop] <;> omega)
              rw [show (x3_3).drop (t427 : Int).toNat = y470 from Ny470.out.symm] at hr98
              replace hr98 : Kd.F k24 _ _ A98 y470.length y470 := (by rw [hA98]; exact hr98)
              rw [← hy98, ← hA98, ← hc98] at hcut98
              have HO474 := Aside0.mk (show Kd.V k24 24 _ w.heap.size _ (.slice A98 y470.length c98) y470 from Kd.V_mk (by rw [hy98, hc98]; exact Nat.sub_le_sub_right hroom98 _) hr98)
              have HC474 := Aside0.mk (show y470.length ≤ c98 from by rw [hy98, hc98]; exact Nat.sub_le_sub_right hroom98 _)
              clear hr98 hC98 hroom98 hi098 hsz98 hc98
              have KY98 := Aside0.mk hy98
              have KA98 := Aside0.mk hA98
              clear hy98 hA98
              replace q98 := eq_true q98
              refine start_ (n := 14) (S := fun w' => True) (ds := []) #[false, false, false, false, false, false, false, false, false, false, false, false, false, false] (by kernel_rfl) rfl rfl trivial (fun hHeld => ?_); refine with_tabW spec_l20Prog.tab8 spec_l20Prog.bits8 (fun HT_ HW_ => ?_)
              generalize w95.drew = w96 at HO_3 HI0 HK HB HO456 HO474 hHeld ⊢
              refine pz 1 30 ?_
              refine pz 2 31 ?_
              refine pz 3 32 ?_
              refine pz 5 34 ?_
              refine pz 9 38 ?_
              refine pz 10 39 ?_
              refine pz 11 40 ?_
              refine oz 0 29 fun K hK => ?_
              refine Kd.R_lit_step k24 _ 24 ?hg (N := 29) ?hd (xs := ([] : List (S24))) (inner := []) (ok := fun _ => True) (okp := fun _ => True) ?hr ?hp (fun _ hk => hk) trivial (Below.refl _ _) (Nat.le_refl _) (by simp) ?_; (case hd => rfl); (case hg => rfl); (case hr => first | (go_simp; done) | (go_simp; rfl)); (case hp => exact (Reps.none _ _))
              intro v450 w99 ho100 hb hg_ hnew_
              clear hg_ hnew_
              (first | rw [← Ny449.out] at ho100 | (simp only [Int.reduceToNat] at ho100; rw [← Ny449.out] at ho100))
              replace HO456 := Aside0.mk (Kd.V_elder' (by (with_reducible repeat (first | apply Kd.V_alloc | apply Kd.V_drewN | apply Kd.V_drew)); exact HO456.out) (Kd.R_base ho100) hb)
              replace HO474 := Aside0.mk (Kd.V_elder' (by (with_reducible repeat (first | apply Kd.V_alloc | apply Kd.V_drewN | apply Kd.V_drew)); exact HO474.out) (Kd.R_base ho100) hb)
              have HO451 := Aside0.mk (Kd.R_lower (Kd.R_new' ho100 (Kd.R_lt (zU HO_3))) (keep_size (w := w) (g := g) (row := none) zK12))
              replace HO_3 := Aside0.mk (Kd.R_elder' (zU HO_3) (Kd.R_base ho100) hb)
              replace HK := Aside0.mk (KeepBut.trans zK12 (KeepBut.of_below hb g none) (.inl rfl))
              replace HB := Aside0.mk (below_step (zB12HI0) hb)
              replace HI0 := Aside0.mk (IsS43.below zI12HI0 hb)
              clear hb ho100
              refine hK.out _ _ trivial (fun hHeld => ?_)
              clear hK K
              refine nz ?_
              refine oz 4 33 fun K hK => ?_
              refine Kd.R_append_rows_step k24 w.heap.size (by rfl) (.tmp 29) (.tmp 32) 39 24 (.agg #[(.int .i64 0), (.int .i64 0), (.int .i64 0), (.int .i64 0), (.int .i64 0), (.int .i64 0)]) 48 rfl Tryz.underlying39 info24 rfl (by decide) (by omega) v450 y449 y452 _ _ _ (fun k_ => some k_ ≠ (.slice Ao93 x3_3.length co93 : Value).ownBlock) (fun _ => False) rfl rfl ?aO ?aR (fun _ _ h => h) (fun _ h => h.elim) ?aF (Below.refl _ _) ?aS ?aL ?_
              (case aR => repeat (first | exact (Kd.V_reads' HO456.out).2.2 | (with_reducible refine Kd.C_alloc ?_ _) | (with_reducible refine Kd.C_drewN ?_ _) | (with_reducible refine Kd.C_drew ?_)))
              (case aF => exact (fun k_ hk => Kd.fresh' (Kd.R_lt (zU HO_3)) k_ hk))
              (case aO => exact (by (with_reducible repeat (first | apply Kd.R_alloc | apply Kd.R_drewN | apply Kd.R_drew)); exact Kd.R_mono HO451.out (fun _ hk => hk.2)))
              (case aS => exact (keep_size (w := w) (g := g) (row := none) zK12))
              (case aL => have := LMc86.out; omega)
              intro v458 w101 ho hb hg hat
              rw [← Ny457.out] at ho
              have n0_ := Aside0.mk (Kd.R_after (ok := (fun _ => True)) (zU HO_3) hg hat)
              have n1_ := Aside0.mk (IsS43.grown zI12HI0 hg (IsS43.own_ne HI0.out HO451.out (by decide)))
              have n2_ := Aside0.mk (Kd.V_afterv (ok := (fun k_ => k_ ≠ g)) (by (with_reducible repeat (first | apply Kd.V_alloc | apply Kd.V_drewN | apply Kd.V_drew)); exact Kd.V_mono HO456.out (fun _ hk => ⟨hk.1.2, hk.2⟩)) hg hat)
              have n3_ := Aside0.mk (Kd.V_afterv (ok := (fun k_ => k_ ≠ g)) (by (with_reducible repeat (first | apply Kd.V_alloc | apply Kd.V_drewN | apply Kd.V_drew)); exact Kd.V_mono HO474.out (fun _ hk => ⟨hk.1.2, hk.2⟩)) hg hat)
              have n4_ := Aside0.mk (below_weaken (zB12HI0) HL.out hb)
              have n5_ := Aside0.mk (KeepBut.trans zK12 (KeepBut.of_grown hg g) (Kd.R_base2 HO451.out))
              have n6_ := Aside0.mk (ho)
              clear HO_3
              clear HI0
              clear HO456
              clear HO474
              clear HB
              clear HK
              clear HO451
              have HO_3 := n0_
              have HI0 := n1_
              have HO456 := n2_
              have HO474 := n3_
              have HB := n4_
              have HK := n5_
              have HO459 := n6_
              clear n0_ n1_ n2_ n3_ n4_ n5_ n6_
              clear ho hb hg hat
              refine hK.out _ _ trivial (fun hHeld => ?_)
              clear hK K
              refine nz ?_
              refine oz 6 35 fun K hK => ?_
              refine gz Tryz.func48 #[.pointer (some ⟨g, 0, none⟩)] ?_
              with_reducible refine (spec_l20Alu.calls kj3 g s0_0 t430 t460 t461 t462 t463 t464 t465 t466 w0 _ ?side1 ?side2 A87.out).mono ?_
              (case side1 => exact zI12HI0)
              (case side2 => exact zB12HI0)
              rintro e w102 ⟨rfl, hi, hb, hk⟩
              refine ⟨_, rfl, ?_⟩
              replace HO_3 := Aside0.mk (Kd.R_mono (Kd.R_keep (IsS43.apart (show IsS43 w0 _ g s0_0 t430 from zI12HI0) (zU HO_3) (by decide)) hk (fun _ h => h.2)) (fun _ h => h.1))
              replace HO456 := Aside0.mk (Kd.V_mono (Kd.V_keep (Kd.V_mono (ok := fun k_ => (k_ ≠ g ∧ some k_ ≠ (v458 : Value).ownBlock)) (by (with_reducible repeat (first | apply Kd.V_alloc | apply Kd.V_drewN | apply Kd.V_drew)); exact HO456.out) (fun k_ hk_ => (⟨hk_, hk_.1⟩ : _ ∧ k_ ≠ g))) hk (fun _ h => h.2)) (fun _ h => h.1))
              replace HO474 := Aside0.mk (Kd.V_mono (Kd.V_keep (Kd.V_mono (ok := fun k_ => (k_ ≠ g ∧ some k_ ≠ (v458 : Value).ownBlock)) (by (with_reducible repeat (first | apply Kd.V_alloc | apply Kd.V_drewN | apply Kd.V_drew)); exact HO474.out) (fun k_ hk_ => (⟨hk_, hk_.1⟩ : _ ∧ k_ ≠ g))) hk (fun _ h => h.2)) (fun _ h => h.1))
              replace HO459 := Aside0.mk (Kd.R_mono (Kd.R_keep (IsS43.apart (show IsS43 w0 _ g s0_0 t430 from zI12HI0) (zU HO459) (by decide)) hk (fun _ h => h.2)) (fun _ h => h.1))
              replace HK := Aside0.mk (KeepBut.trans zK12 hk (.inl rfl))
              replace HB := Aside0.mk hb
              replace HI0 := Aside0.mk hi
              (try clear hb)
              (try clear hi)
              refine hK.out _ _ trivial (fun hHeld => ?_)
              clear hK K
              refine nz ?_
              refine oz 7 36 fun K hK => ?_
              refine value_ (w1 := ?_) (v := ?_) (by rfl) rfl ?_ ?_
              rotate_left 2
              ·go_simp
               constructor
               ·rfl
               ·rfl
              refine hK.out _ _ trivial (fun hHeld => ?_)
              clear hK K
              refine nz ?_
              refine oz 8 37 fun K hK => ?_
              refine Kd.R_append_step k24 w.heap.size (by rfl) (.tmp 33) (.tmp 36) 39 24 (.agg #[(.int .i64 0), (.int .i64 0), (.int .i64 0), (.int .i64 0), (.int .i64 0), (.int .i64 0)]) 48 rfl Tryz.underlying39 info24 rfl (by decide) (by omega) v458 y457 (⟨t460, t461, t462, t463, t464, t465⟩ : S24) [.int .i64 t460, .int .i64 t461, .int .i64 t462, .int .i64 t463, .int .i64 t464, .int .i64 t465] (fun k_ => some k_ ≠ (.slice Ao93 x3_3.length co93 : Value).ownBlock) (fun _ => False) rfl rfl ?aP (fun _ hk => hk.elim) ?aF ?aO (Below.refl _ _) ?aS ?aL ?_
              (case aP => exact k24_mkM _ _ _ (⟨t460, t461, t462, t463, t464, t465⟩ : S24))
              (case aF => exact (fun k_ hk => Kd.fresh' (Kd.R_lt (zU HO_3)) k_ hk))
              (case aO => exact (zU HO459))
              (case aS => exact (keep_size (w := w) (g := g) (row := none) zK12))
              (case aL => have := LMc88.out; omega)
              intro v468 w103 ho hb hg hat
              rw [← Ny467.out] at ho
              have n0_ := Aside0.mk (Kd.R_after (ok := (fun _ => True)) (zU HO_3) hg hat)
              have n1_ := Aside0.mk (IsS43.grown zI12HI0 hg (IsS43.own_ne HI0.out HO459.out (by decide)))
              have n2_ := Aside0.mk (Kd.V_afterv (ok := (fun k_ => k_ ≠ g)) (by (with_reducible repeat (first | apply Kd.V_alloc | apply Kd.V_drewN | apply Kd.V_drew)); exact HO456.out) hg hat)
              have n3_ := Aside0.mk (Kd.V_afterv (ok := (fun k_ => k_ ≠ g)) (by (with_reducible repeat (first | apply Kd.V_alloc | apply Kd.V_drewN | apply Kd.V_drew)); exact HO474.out) hg hat)
              have n4_ := Aside0.mk (below_weaken (zB12HI0) HL.out hb)
              have n5_ := Aside0.mk (KeepBut.trans zK12 (KeepBut.of_grown hg g) (Kd.R_base2 HO459.out))
              have n6_ := Aside0.mk (ho)
              clear HO_3
              clear HI0
              clear HO456
              clear HO474
              clear HB
              clear HK
              clear HO459
              have HO_3 := n0_
              have HI0 := n1_
              have HO456 := n2_
              have HO474 := n3_
              have HB := n4_
              have HK := n5_
              have HO469 := n6_
              clear n0_ n1_ n2_ n3_ n4_ n5_ n6_
              clear ho hb hg hat
              refine hK.out _ _ trivial (fun hHeld => ?_)
              clear hK K
              refine nz ?_
              refine oz 12 41 fun K hK => ?_
              refine Kd.R_append_rows_step k24 w.heap.size (by rfl) (.tmp 37) (.tmp 40) 39 24 (.agg #[(.int .i64 0), (.int .i64 0), (.int .i64 0), (.int .i64 0), (.int .i64 0), (.int .i64 0)]) 48 rfl Tryz.underlying39 info24 rfl (by decide) (by omega) v468 y467 y470 _ _ _ (fun k_ => some k_ ≠ (.slice Ao93 x3_3.length co93 : Value).ownBlock) (fun _ => False) rfl rfl ?aO ?aR (fun _ _ h => h) (fun _ h => h.elim) ?aF (Below.refl _ _) ?aS ?aL ?_
              (case aR => repeat (first | exact (Kd.V_reads' HO474.out).2.2 | (with_reducible refine Kd.C_alloc ?_ _) | (with_reducible refine Kd.C_drewN ?_ _) | (with_reducible refine Kd.C_drew ?_)))
              (case aF => exact (fun k_ hk => Kd.fresh' (Kd.R_lt (zU HO_3)) k_ hk))
              (case aO => exact (zU HO469))
              (case aS => exact (keep_size (w := w) (g := g) (row := none) zK12))
              (case aL => have := LMc91.out; omega)
              intro v476 w104 ho hb hg hat
              rw [← Ny475.out] at ho
              have n0_ := Aside0.mk (Kd.R_after (ok := (fun _ => True)) (zU HO_3) hg hat)
              have n1_ := Aside0.mk (IsS43.grown zI12HI0 hg (IsS43.own_ne HI0.out HO469.out (by decide)))
              have n2_ := Aside0.mk (Kd.V_afterv (ok := (fun k_ => k_ ≠ g)) (by (with_reducible repeat (first | apply Kd.V_alloc | apply Kd.V_drewN | apply Kd.V_drew)); exact HO456.out) hg hat)
              have n3_ := Aside0.mk (Kd.V_afterv (ok := (fun k_ => k_ ≠ g)) (by (with_reducible repeat (first | apply Kd.V_alloc | apply Kd.V_drewN | apply Kd.V_drew)); exact HO474.out) hg hat)
              have n4_ := Aside0.mk (below_weaken (zB12HI0) HL.out hb)
              have n5_ := Aside0.mk (KeepBut.trans zK12 (KeepBut.of_grown hg g) (Kd.R_base2 HO469.out))
              have n6_ := Aside0.mk (ho)
              clear HO_3
              clear HI0
              clear HO456
              clear HO474
              clear HB
              clear HK
              clear HO469
              have HO_3 := n0_
              have HI0 := n1_
              have HO456 := n2_
              have HO474 := n3_
              have HB := n4_
              have HK := n5_
              have HO477 := n6_
              clear n0_ n1_ n2_ n3_ n4_ n5_ n6_
              clear ho hb hg hat
              refine hK.out _ _ trivial (fun hHeld => ?_)
              clear hK K
              refine nz ?_
              refine pz 13 2 ?_
              refine done_ (done_of HT_.out (by kernel_rfl)) ?_
              try go_wp2
              go_ret
              exact ⟨_, zR, by (with_reducible repeat (first | apply Kd.R_alloc | apply Kd.R_drewN | apply Kd.R_drew)); exact Kd.R_mono HO477.out (fun _ hk => trivial), zI12HI0, zB12HI0, zK12⟩
             ·exact absurd H (nN c91)
            ·exact absurd H (nN c88)
           ·exact absurd H (nN c86)
          ·exact absurd H (nN c85)
         ·exact absurd H (nN c84)
   ·rw [if_neg c18] at H
    have c18b0 : (t425 == 0) = false := beq_eq_false_iff_ne.mpr c18
    have c18b1 : (t425 != 0) = true := bne_iff_ne.mpr c18
    simp only [Option.some.injEq, Prod.mk.injEq] at H
    obtain ⟨rfl, rfl⟩ := H
    go_wp2_with (first | ((with_reducible refine gate_callee (f := 18) rfl ?_); refine gl 21 Tryz.func18 #[.pointer (some ⟨g, 0, none⟩), .int .i64 4] ?_; (with_reducible refine (spec_l20Rd_pick.calls kj3 g s0_0 x1001_3 4 t425 t426 w0 _ ?side1 ?side2 A17.out).mono ?_); (case side1 => exact zI12HI0); (case side2 => exact zB12HI0); rintro e w105 ⟨rfl, hi, hb, hk⟩; refine ⟨_, rfl, ?_⟩; replace HO_3 := Aside0.mk (Kd.R_mono (Kd.R_keep (IsS43.apart (show IsS43 w0 _ g s0_0 x1001_3 from zI12HI0) (zU HO_3) (by decide)) hk (fun _ h => h.2)) (fun _ h => h.1)); replace HK := Aside0.mk (KeepBut.trans zK12 hk (.inl rfl)); replace HB := Aside0.mk hb; replace HI0 := Aside0.mk hi; (try clear hb); (try clear hb2); (try clear hk); (try clear hi)))
    go_ret
    exact ⟨_, zR, zU HO_3, zI12HI0, zB12HI0, zK12⟩
end Go.Proofs.YtllmbooicobmkaaGreatDoor.Q
