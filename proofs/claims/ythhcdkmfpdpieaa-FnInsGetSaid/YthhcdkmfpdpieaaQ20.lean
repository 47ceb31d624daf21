/- The machine's side of this seat's laws: Go functions as Lean functions, and their contracts. By a program of this work over the kit's print. -/
import Derived.Test.YthhcdkmfpdpieaaQ0
import Derived.Test.YthhcdkmfpdpieaaQ2
import Derived.Test.YthhcdkmfpdpieaaQ13
import Derived.Test.YthhcdkmfpdpieaaQ14
namespace Go.Proofs.Ythhcdkmfpdpieaa.Q
open Go.RowKit Go.Proofs.YthhcdkmfpdpieaaW.PrintWords Go.Proofs.YthhcdkmfpdpieaaW.PrintLast Go.Proofs.YthhcdkmfpdpieaaW.PrintMore
attribute [local go_sem] max2_int min2_int max_two min_two max_three min_three max_four min_four Go.Proofs.YthhcdkmfpdpieaaN.not_i64 Go.Proofs.YthhcdkmfpdpieaaN.isSome_setCell   -- for this text's walks alone
set_option linter.unusedVariables false
set_option linter.unusedSimpArgs false
theorem zK20 {w W : World} {g : Nat} {r : Option Nat} (h : KeepBut w W g r := by repeat (first | (with_reducible first | exact HK.out | apply KeepBut.set_ | apply keep_drewN | apply keep_drew | apply keep_alloc) | exact HK.out)) : KeepBut w W g r := h
theorem zI20HI0 {w0 W : World} {g : Nat} {f0 : List Int} {f1 : Int} (h : IsS61 w0 W g f0 f1 := by repeat (first | (with_reducible first | exact HI0.out | apply IsS61.alloc | apply IsS61.drewN | apply IsS61.drew | apply IsS61.set_1) | exact HI0.out)) : IsS61 w0 W g f0 f1 := h
theorem zB20HI0 {b : Nat} {w W : World} (h : Below b w W := by repeat (first | (with_reducible first | exact HB.out | apply below_alloc | apply pw_below_drewN | apply below_drew1 | refine below_set ?_ (IsS61.ge HI0.out)) | exact HB.out)) : Below b w W := h
theorem zI20HI645 {w0 W : World} {g : Nat} {f0 : List Int} {f1 : Int} (h : IsS61 w0 W g f0 f1 := by repeat (first | (with_reducible first | exact HI645.out | apply IsS61.alloc | apply IsS61.drewN | apply IsS61.drew | apply IsS61.set_1) | exact HI645.out)) : IsS61 w0 W g f0 f1 := h
theorem zB20HI645 {b : Nat} {w W : World} (h : Below b w W := by repeat (first | (with_reducible first | exact HB.out | apply below_alloc | apply pw_below_drewN | apply below_drew1 | refine below_set ?_ (IsS61.ge HI645.out)) | exact HB.out)) : Below b w W := h
def spec_l20Rd_of.f (k : Nat) (s0_0 : List Int) (s0_1 : Int) (l1 : List ByteArray) : Option (ByteArray × Int) := (spec_l20Rd_pick.f k s0_0 s0_1 (l1.length : Int)).bind fun bt626 => (if 0 ≤ bt626.1 then (if bt626.1 < (l1.length : Int) then (some (rdOf ByteArray.empty l1 bt626.1, bt626.2)) else (none)) else (none))
set_option maxHeartbeats 8000000 in
set_option maxRecDepth 100000 in
theorem spec_l20Rd_of.calls (k : Nat) (g : Nat) (s0_0 : List Int) (s0_1 : Int) (A1 : Option Addr) (c1 : Nat) (l1 : List ByteArray) (r1 : ByteArray) (r2 : Int) (w0 w : World) (hI : IsS61 w0 w g s0_0 s0_1) (hB : Below w0.heap.size w0 w) (hr1 : Kd.C Kd.string w A1 l1.length l1) (hc1 : l1.length ≤ c1) (hf1 : ∀ ad, A1 = some ad → 0 < l1.length → ad.block ≠ g) (h : spec_l20Rd_of.f k s0_0 s0_1 l1 = some (r1, r2)) :
  Calls Try.prog 49 #[.pointer (some ⟨g, 0, none⟩), .slice A1 l1.length c1] w fun e w' => e = .returned (.string r1) ∧ IsS61 w0 w' g s0_0 r2 ∧ Below w0.heap.size w0 w' ∧ KeepBut w w' g none := by
 have HR1 := Aside0.mk hr1
 have HC1 := Aside0.mk hc1
 clear hr1 hc1
 have HI0 := Aside0.mk hI
 have HK := Aside0.mk (KeepBut.refl w g none)
 have HL := Aside0.mk hB.size
 clear hI
 have HW0 := Aside0.mk hB.size
 have HB := Aside0.mk hB
 clear hB
 have H : ((spec_l20Rd_pick.f k s0_0 s0_1 (l1.length : Int)).bind fun bt626 => (if 0 ≤ bt626.1 then (if bt626.1 < (l1.length : Int) then (some (rdOf ByteArray.empty l1 bt626.1, bt626.2)) else (none)) else (none))) = some (r1, r2) := h
 clear h
 replace H := Option.bind_eq_some_iff.mp H
 obtain ⟨⟨t626, t627⟩, A30, H⟩ := H
 try dsimp only at H
 have A3 := Aside0.mk A30
 clear A30
 by_cases c4 : 0 ≤ t626
 ·rw [if_pos c4] at H
  have c4b0 : decide (0 ≤ t626) = true := decide_eq_true c4
  clear c4
  by_cases c5 : t626 < (l1.length : Int)
  ·rw [if_pos c5] at H
   have c5b0 : decide (t626 < (l1.length : Int)) = true := decide_eq_true c5
   clear c5
   simp only [Option.some.injEq, Prod.mk.injEq] at H
   obtain ⟨rfl, rfl⟩ := H
   go_enter Try.func49, Try.ntmps49
   go_wp2_with (first | ((with_reducible refine gate_callee (f := 36) rfl ?_); refine gl 9 Try.func36 #[.pointer (some ⟨g, 0, none⟩), .int .i64 (l1.length : Int)] ?_; (with_reducible refine (spec_l20Rd_pick.calls k g s0_0 s0_1 (l1.length : Int) t626 t627 w0 _ ?side1 ?side2 A3.out).mono ?_); (case side1 => exact zI20HI0); (case side2 => exact zB20HI0); rintro e w6 ⟨rfl, hi, hb, hk⟩; refine ⟨_, rfl, ?_⟩; replace HK := Aside0.mk (KeepBut.trans zK20 hk (.inl rfl)); replace HB := Aside0.mk hb; replace HI0 := Aside0.mk hi; (try clear hb); (try clear hb2); (try clear hk); (try clear hi); have p628 : 0 ≤ (t626 : Int) := of_decide_eq_true (by first | (with_reducible assumption) | assumption); have q628 : t626 < (l1.length : Int) := of_decide_eq_true (by first | (with_reducible assumption) | assumption); obtain ⟨ad628, e628, hx628_0⟩ := Kd.at_string HR1.out t626 p628 q628; cases e628; replace hx628_0 := keep_cell HK.out hx628_0 (by first | (rw [add_block]; exact hf1 _ rfl (by omega)) | exact hf1 _ rfl (by omega) | exact hf1 ad628 rfl (by omega)); replace p628 := eq_true p628; replace q628 := eq_true q628))
   go_ret
   exact ⟨zR, zI20HI0, zB20HI0, zK20⟩
  ·rw [if_neg c5] at H
   exact absurd H (by simp)
 ·rw [if_neg c4] at H
  exact absurd H (by simp)
def spec_l20Bent.f (k : Nat) (s0_0 : List Int) (s0_1 : Int) (a1 : ByteArray) : Option (ByteArray × Int) := (spec_l20Rd_pick.f k s0_0 s0_1 (wrap64 ((a1.size : Int) + 1))).bind fun bt629 => ((spec_l20Rd_pick.f k s0_0 bt629.2 5).bind fun bt631 => (if bt631.1 = 0 then (if bt629.1 < (a1.size : Int) then (if 0 ≤ bt629.1 then (if bt629.1 ≤ (a1.size : Int) then ((spec_l20Rd_of.f k s0_0 bt631.2 (([(⟨#[0]⟩ : ByteArray), (⟨#[49]⟩ : ByteArray), (⟨#[255]⟩ : ByteArray), (⟨#[32]⟩ : ByteArray), (⟨#[114]⟩ : ByteArray), (⟨#[16]⟩ : ByteArray)] : List ByteArray))).bind fun bt636 => (if (a1.extract 0 (bt629.1 : Int).toNat).size + bt636.1.size ≤ 9223372036854775807 then (if 0 ≤ (wrap64 (bt629.1 + 1)) then (if (wrap64 (bt629.1 + 1)) ≤ (a1.size : Int) then (if ((a1.extract 0 (bt629.1 : Int).toNat) ++ bt636.1).size + (a1.extract ((wrap64 (bt629.1 + 1)) : Int).toNat a1.size).size ≤ 9223372036854775807 then (some (((a1.extract 0 (bt629.1 : Int).toNat) ++ bt636.1) ++ (a1.extract ((wrap64 (bt629.1 + 1)) : Int).toNat a1.size), bt636.2)) else (none)) else (none)) else (none)) else (none))) else (none)) else (none)) else (some (a1, bt631.2))) else (if bt631.1 = 1 then (if 0 ≤ bt629.1 then (if bt629.1 ≤ (a1.size : Int) then (some (a1.extract 0 (bt629.1 : Int).toNat, bt631.2)) else (none)) else (none)) else (if bt631.1 = 2 then ((spec_l20Rd_of.f k s0_0 bt631.2 (([(⟨#[0]⟩ : ByteArray), (⟨#[32]⟩ : ByteArray), (⟨#[48]⟩ : ByteArray)] : List ByteArray))).bind fun bt641 => (if a1.size + bt641.1.size ≤ 9223372036854775807 then (some (a1 ++ bt641.1, bt641.2)) else (none))) else (some (a1, bt631.2))))))
def spec_l20Bent.T5 : Bool × List (List Nat × List Nat) := (true, [([], []), ([], []), ([0, 1], [0, 1]), ([], []), ([], []), ([3, 4], [3, 4]), ([2, 5], [2, 5]), ([], []), ([], []), ([8], [8]), ([7, 9], [7, 9]), ([6, 10], [6, 10]), ([11, 5, 0, 1, 2, 3, 4, 5, 6, 7, 8, 9, 10, 11], [11])])
def spec_l20Bent.B5 : List Nat := [0, 0, 3, 0, 0, 24, 63, 0, 0, 256, 896, 2047, 4095]
theorem spec_l20Bent.tab5 : rtab .any (opsOf Try.f37 5) = spec_l20Bent.T5 := by kernel_rfl
theorem spec_l20Bent.bits5 : waitsOk spec_l20Bent.T5.2 spec_l20Bent.B5 = true := by kernel_rfl
set_option maxHeartbeats 8000000 in
set_option maxRecDepth 100000 in
theorem spec_l20Bent.calls (k : Nat) (g : Nat) (s0_0 : List Int) (s0_1 : Int) (a1 : ByteArray) (r1 : ByteArray) (r2 : Int) (w0 w : World) (hI : IsS61 w0 w g s0_0 s0_1) (hB : Below w0.heap.size w0 w) (h : spec_l20Bent.f k s0_0 s0_1 a1 = some (r1, r2)) :
  Calls Try.prog 37 #[.pointer (some ⟨g, 0, none⟩), .string a1] w fun e w' => e = .returned (.string r1) ∧ IsS61 w0 w' g s0_0 r2 ∧ Below w0.heap.size w0 w' ∧ KeepBut w w' g none := by
 have HI0 := Aside0.mk hI
 have HK := Aside0.mk (KeepBut.refl w g none)
 have HL := Aside0.mk hB.size
 clear hI
 have HW0 := Aside0.mk hB.size
 have HB := Aside0.mk hB
 clear hB
 have H : ((spec_l20Rd_pick.f k s0_0 s0_1 (wrap64 ((a1.size : Int) + 1))).bind fun bt629 => ((spec_l20Rd_pick.f k s0_0 bt629.2 5).bind fun bt631 => (if bt631.1 = 0 then (if bt629.1 < (a1.size : Int) then (if 0 ≤ bt629.1 then (if bt629.1 ≤ (a1.size : Int) then ((spec_l20Rd_of.f k s0_0 bt631.2 (([(⟨#[0]⟩ : ByteArray), (⟨#[49]⟩ : ByteArray), (⟨#[255]⟩ : ByteArray), (⟨#[32]⟩ : ByteArray), (⟨#[114]⟩ : ByteArray), (⟨#[16]⟩ : ByteArray)] : List ByteArray))).bind fun bt636 => (if (a1.extract 0 (bt629.1 : Int).toNat).size + bt636.1.size ≤ 9223372036854775807 then (if 0 ≤ (wrap64 (bt629.1 + 1)) then (if (wrap64 (bt629.1 + 1)) ≤ (a1.size : Int) then (if ((a1.extract 0 (bt629.1 : Int).toNat) ++ bt636.1).size + (a1.extract ((wrap64 (bt629.1 + 1)) : Int).toNat a1.size).size ≤ 9223372036854775807 then (some (((a1.extract 0 (bt629.1 : Int).toNat) ++ bt636.1) ++ (a1.extract ((wrap64 (bt629.1 + 1)) : Int).toNat a1.size), bt636.2)) else (none)) else (none)) else (none)) else (none))) else (none)) else (none)) else (some (a1, bt631.2))) else (if bt631.1 = 1 then (if 0 ≤ bt629.1 then (if bt629.1 ≤ (a1.size : Int) then (some (a1.extract 0 (bt629.1 : Int).toNat, bt631.2)) else (none)) else (none)) else (if bt631.1 = 2 then ((spec_l20Rd_of.f k s0_0 bt631.2 (([(⟨#[0]⟩ : ByteArray), (⟨#[32]⟩ : ByteArray), (⟨#[48]⟩ : ByteArray)] : List ByteArray))).bind fun bt641 => (if a1.size + bt641.1.size ≤ 9223372036854775807 then (some (a1 ++ bt641.1, bt641.2)) else (none))) else (some (a1, bt631.2))))))) = some (r1, r2) := h
 clear h
 replace H := Option.bind_eq_some_iff.mp H
 obtain ⟨⟨t629, t630⟩, A30, H⟩ := H
 try dsimp only at H
 have A3 := Aside0.mk A30
 clear A30
 replace H := Option.bind_eq_some_iff.mp H
 obtain ⟨⟨t631, t632⟩, A40, H⟩ := H
 try dsimp only at H
 have A4 := Aside0.mk A40
 clear A40
 by_cases c5 : t631 = 0
 ·rw [if_pos c5] at H
  have c5b0 : (t631 == 0) = true := beq_iff_eq.mpr c5
  have c5b1 : (t631 != 0) = false := bne_eq_false_iff_eq.mpr c5
  clear c5
  by_cases c6 : t629 < (a1.size : Int)
  ·rw [if_pos c6] at H
   have c6b0 : decide (t629 < (a1.size : Int)) = true := decide_eq_true c6
   clear c6
   by_cases c7 : 0 ≤ t629
   ·rw [if_pos c7] at H
    have c7b0 := eq_true c7
    have c7b1 : decide (0 ≤ t629) = true := decide_eq_true c7
    clear c7
    by_cases c8 : t629 ≤ (a1.size : Int)
    ·rw [if_pos c8] at H
     have c8b0 := eq_true c8
     have c8b1 : decide (t629 ≤ (a1.size : Int)) = true := decide_eq_true c8
     clear c8
     obtain ⟨y633, hy633⟩ : ∃ y_ : List ByteArray, y_ = (([(⟨#[0]⟩ : ByteArray), (⟨#[49]⟩ : ByteArray), (⟨#[255]⟩ : ByteArray), (⟨#[32]⟩ : ByteArray), (⟨#[114]⟩ : ByteArray), (⟨#[16]⟩ : ByteArray)] : List ByteArray)) := ⟨_, rfl⟩
     replace H : ((spec_l20Rd_of.f k s0_0 t632 y633).bind fun bt636 => (if (a1.extract 0 (t629 : Int).toNat).size + bt636.1.size ≤ 9223372036854775807 then (if 0 ≤ (wrap64 (t629 + 1)) then (if (wrap64 (t629 + 1)) ≤ (a1.size : Int) then (if ((a1.extract 0 (t629 : Int).toNat) ++ bt636.1).size + (a1.extract ((wrap64 (t629 + 1)) : Int).toNat a1.size).size ≤ 9223372036854775807 then (some (((a1.extract 0 (t629 : Int).toNat) ++ bt636.1) ++ (a1.extract ((wrap64 (t629 + 1)) : Int).toNat a1.size), bt636.2)) else (none)) else (none)) else (none)) else (none))) = some (r1, r2) := by first | (rw [hy633]; with_reducible exact H) | (have H2_ := (Option.bind_some _ _).symm.trans H; rw [hy633]; with_reducible exact H2_) | (have H2_ := (Option.bind_some _ _).symm.trans H; with_reducible exact H2_) | with_reducible exact H | (rw [hy633]; exact H) | exact H
     have Ny633 := Aside0.mk hy633
     clear hy633
     replace H := Option.bind_eq_some_iff.mp H
     obtain ⟨⟨t636, t637⟩, A90, H⟩ := H
     try dsimp only at H
     have A9 := Aside0.mk A90
     clear A90
     by_cases c10 : (a1.extract 0 (t629 : Int).toNat).size + t636.size ≤ 9223372036854775807
     ·rw [if_pos c10] at H
      have c10b0 := eq_true c10
      have c10b1 : decide ((a1.extract 0 (t629 : Int).toNat).size + t636.size ≤ 9223372036854775807) = true := decide_eq_true c10
      try have c10b2 : (9223372036854775807 < (a1.extract 0 (t629 : Int).toNat).size + t636.size) = False := eq_false (Nat.not_lt.2 c10)
      try (have c10b3 := c10; simp [go_sem, *] at c10b3; have c10b4 := eq_false (Nat.not_lt.2 c10b3); clear c10b3)
      obtain ⟨ji11, hji11⟩ : ∃ j_ : Int, (wrap64 (t629 + 1)) = j_ := ⟨_, rfl⟩
      replace H : (if 0 ≤ (ji11) then (if (ji11) ≤ (a1.size : Int) then (if ((a1.extract 0 (t629 : Int).toNat) ++ t636).size + (a1.extract ((ji11) : Int).toNat a1.size).size ≤ 9223372036854775807 then (some (((a1.extract 0 (t629 : Int).toNat) ++ t636) ++ (a1.extract ((ji11) : Int).toNat a1.size), t637)) else (none)) else (none)) else (none)) = some (r1, r2) := by first | (rw [hji11] at H; exact H) | (simp only [hji11] at H ⊢; exact H)
      (try rw [hji11] at A3)
      (try rw [hji11] at A4)
      (try rw [hji11] at A9)
      have hji11w : (IntKind.i64.wrap (t629 + 1)) = ji11 := (i64_w _).trans hji11
      by_cases c12 : 0 ≤ (ji11)
      ·rw [if_pos c12] at H
       have c12b0 := eq_true c12
       have c12b1 : decide (0 ≤ (ji11)) = true := decide_eq_true c12
       clear c12
       by_cases c13 : (ji11) ≤ (a1.size : Int)
       ·rw [if_pos c13] at H
        have c13b0 := eq_true c13
        have c13b1 : decide ((ji11) ≤ (a1.size : Int)) = true := decide_eq_true c13
        clear c13
        by_cases c14 : ((a1.extract 0 (t629 : Int).toNat) ++ t636).size + (a1.extract ((ji11) : Int).toNat a1.size).size ≤ 9223372036854775807
        ·rw [if_pos c14] at H
         have c14b0 := eq_true c14
         have c14b1 : decide (((a1.extract 0 (t629 : Int).toNat) ++ t636).size + (a1.extract ((ji11) : Int).toNat a1.size).size ≤ 9223372036854775807) = true := decide_eq_true c14
         try have c14b2 : (9223372036854775807 < ((a1.extract 0 (t629 : Int).toNat) ++ t636).size + (a1.extract ((ji11) : Int).toNat a1.size).size) = False := eq_false (Nat.not_lt.2 c14)
         try (have c14b3 := c14; simp [go_sem, *] at c14b3; have c14b4 := eq_false (Nat.not_lt.2 c14b3); clear c14b3)
         simp only [Option.some.injEq, Prod.mk.injEq] at H
         obtain ⟨rfl, rfl⟩ := H
         go_enter Try.func37, Try.ntmps37
         try go_wp2_with (first | ((with_reducible refine gate_callee (f := 36) rfl ?_); refine gl 10 Try.func36 #[.pointer (some ⟨g, 0, none⟩), .int .i64 (wrap64 ((a1.size : Int) + 1))] ?_; (with_reducible refine (spec_l20Rd_pick.calls k g s0_0 s0_1 (wrap64 ((a1.size : Int) + 1)) t629 t630 w0 _ ?side1 ?side2 A3.out).mono ?_); (case side1 => exact zI20HI0); (case side2 => exact zB20HI0); rintro e w15 ⟨rfl, hi, hb, hk⟩; refine ⟨_, rfl, ?_⟩; replace HK := Aside0.mk (KeepBut.trans zK20 hk (.inl rfl)); replace HB := Aside0.mk hb; replace HI0 := Aside0.mk hi; (try clear hb); (try clear hb2); (try clear hk); (try clear hi)) | ((with_reducible refine gate_callee (f := 36) rfl ?_); refine gl 12 Try.func36 #[.pointer (some ⟨g, 0, none⟩), .int .i64 5] ?_; (with_reducible refine (spec_l20Rd_pick.calls k g s0_0 t630 5 t631 t632 w0 _ ?side1 ?side2 A4.out).mono ?_); (case side1 => exact zI20HI0); (case side2 => exact zB20HI0); rintro e w16 ⟨rfl, hi, hb, hk⟩; refine ⟨_, rfl, ?_⟩; replace HK := Aside0.mk (KeepBut.trans zK20 hk (.inl rfl)); replace HB := Aside0.mk hb; replace HI0 := Aside0.mk hi; (try clear hb); (try clear hb2); (try clear hk); (try clear hi)))
         replace HI0 := Aside0.mk (IsS61.drew HI0.out)
         replace HK := Aside0.mk (keep_drew HK.out)
         replace HB := Aside0.mk (below_drew1 HB.out)
         refine start_ (n := 13) (S := fun w' => True) (ds := []) #[false, false, false, false, false, false, false, false, false, false, false, false, false] (by kernel_rfl) rfl rfl trivial (fun hHeld => ?_); refine with_tabW spec_l20Bent.tab5 spec_l20Bent.bits5 (fun HT_ HW_ => ?_)
         generalize w16.drew = w17 at HI0 HK HB hHeld ⊢
         refine pz 0 19 ?_
         refine pz 1 20 ?_
         refine pz 2 21 ?_
         refine pz 3 22 ?_
         refine pz 7 26 ?_
         refine pz 8 27 ?_
         refine pz 9 28 ?_
         refine pz 10 29 ?_
         refine oz 4 23 fun K hK => ?_
         refine Kd.R_lit_step Kd.string _ 9 ?hg (N := 23) ?hd (xs := ([(⟨#[0]⟩ : ByteArray), (⟨#[49]⟩ : ByteArray), (⟨#[255]⟩ : ByteArray), (⟨#[32]⟩ : ByteArray), (⟨#[114]⟩ : ByteArray), (⟨#[16]⟩ : ByteArray)] : List ByteArray)) (inner := [.string (⟨#[0]⟩ : ByteArray), .string (⟨#[49]⟩ : ByteArray), .string (⟨#[255]⟩ : ByteArray), .string (⟨#[32]⟩ : ByteArray), .string (⟨#[114]⟩ : ByteArray), .string (⟨#[16]⟩ : ByteArray)]) (ok := fun _ => True) (okp := fun _ => True) ?hr ?hp (fun _ hk => hk) trivial (Below.refl _ _) (Nat.le_refl _) (by simp) ?_; (case hd => rfl); (case hg => rfl); (case hr => first | (go_simp; done) | (go_simp; rfl)); (case hp => exact (Reps.one (show Kd.M Kd.string _ _ _ (⟨#[0]⟩ : ByteArray) [.string (⟨#[0]⟩ : ByteArray)] from rfl) (Reps.one (show Kd.M Kd.string _ _ _ (⟨#[49]⟩ : ByteArray) [.string (⟨#[49]⟩ : ByteArray)] from rfl) (Reps.one (show Kd.M Kd.string _ _ _ (⟨#[255]⟩ : ByteArray) [.string (⟨#[255]⟩ : ByteArray)] from rfl) (Reps.one (show Kd.M Kd.string _ _ _ (⟨#[32]⟩ : ByteArray) [.string (⟨#[32]⟩ : ByteArray)] from rfl) (Reps.one (show Kd.M Kd.string _ _ _ (⟨#[114]⟩ : ByteArray) [.string (⟨#[114]⟩ : ByteArray)] from rfl) (Reps.one (show Kd.M Kd.string _ _ _ (⟨#[16]⟩ : ByteArray) [.string (⟨#[16]⟩ : ByteArray)] from rfl) (Reps.none _ _))))))))
         intro v634 w18 ho19 hb hg_ hnew_
         clear hg_ hnew_
         (first | rw [← Ny633.out] at ho19 | (simp only [Int.reduceToNat] at ho19; rw [← Ny633.out] at ho19))
         have HO635 := Aside0.mk (Kd.R_lower ho19 (keep_size (w := w) (g := g) (row := none) zK20))
         replace HK := Aside0.mk (KeepBut.trans zK20 (KeepBut.of_below hb g none) (.inl rfl))
         replace HB := Aside0.mk (below_step (zB20HI0) hb)
         replace HI0 := Aside0.mk (IsS61.below zI20HI0 hb)
         clear hb ho19
         obtain ⟨Ao20, co20, eo20⟩ := Kd.R_slice HO635.out
         (first | subst eo20 | (injection eo20 with f1_ f2_ f3_; have f4_ := f1_.symm; have f5_ := f3_.symm; clear f1_ f2_ f3_; subst f4_; subst f5_))
         refine hK.out _ _ trivial (fun hHeld => ?_)
         clear hK K
         refine nz ?_
         refine oz 5 24 fun K hK => ?_
         refine gz Try.func49 #[.pointer (some ⟨g, 0, none⟩), .slice Ao20 y633.length co20] ?_
         with_reducible refine (spec_l20Rd_of.calls k g s0_0 t632 _ _ y633 t636 t637 w0 _ ?side1 ?side2 ?side3 ?side4 ?side5 A9.out).mono ?_
         (case side1 => exact zI20HI0)
         (case side2 => exact zB20HI0)
         (case side3 => repeat (first | exact (Kd.R_reads' HO635.out).2.2 | (with_reducible refine Kd.C_alloc ?_ _) | (with_reducible refine Kd.C_drewN ?_ _) | (with_reducible refine Kd.C_drew ?_)))
         (case side4 => exact (Kd.R_reads' HO635.out).2.1)
         (case side5 => exact far_slice (IsS61.own_ne HI0.out HO635.out (by decide)))
         rintro e w21 ⟨rfl, hi, hb, hk⟩
         refine ⟨_, rfl, ?_⟩
         replace HO635 := Aside0.mk (Kd.R_mono (Kd.R_keep (IsS61.apart (show IsS61 w0 _ g s0_0 t632 from zI20HI0) (by (with_reducible repeat (first | apply Kd.R_alloc | apply Kd.R_drewN | apply Kd.R_drew)); exact HO635.out) (by decide)) hk (fun _ h => h.2)) (fun _ h => h.1))
         replace HK := Aside0.mk (KeepBut.trans zK20 hk (.inl rfl))
         replace HB := Aside0.mk hb
         replace HI0 := Aside0.mk hi
         (try clear hb)
         (try clear hi)
         refine hK.out _ _ trivial (fun hHeld => ?_)
         clear hK K
         refine nz ?_
         refine pz 6 25 ?_
         refine pz 11 30 ?_
         refine pz 12 4 ?_
         refine done_ (done_of HT_.out (by kernel_rfl)) ?_
         try go_wp2
         go_ret
         exact ⟨by first | rfl | (simp [errW_none, errW_some] <;> rfl) | (simp only [← hji11]; first | rfl | (simp [errW_none, errW_some] <;> rfl)) | (simp [*, errW_none, errW_some] <;> rfl), zI20HI0, zB20HI0, zK20⟩
        ·rw [if_neg c14] at H
         exact absurd H (by simp)
       ·rw [if_neg c13] at H
        exact absurd H (by simp)
      ·rw [if_neg c12] at H
       exact absurd H (by simp)
     ·rw [if_neg c10] at H
      exact absurd H (by simp)
    ·rw [if_neg c8] at H
     exact absurd H (by simp)
   ·rw [if_neg c7] at H
    exact absurd H (by simp)
  ·rw [if_neg c6] at H
   have c6b0 : decide (t629 < (a1.size : Int)) = false := decide_eq_false c6
   clear c6
   simp only [Option.some.injEq, Prod.mk.injEq] at H
   obtain ⟨rfl, rfl⟩ := H
   go_enter Try.func37, Try.ntmps37
   go_wp2_with (first | ((with_reducible refine gate_callee (f := 36) rfl ?_); refine gl 10 Try.func36 #[.pointer (some ⟨g, 0, none⟩), .int .i64 (wrap64 ((a1.size : Int) + 1))] ?_; (with_reducible refine (spec_l20Rd_pick.calls k g s0_0 s0_1 (wrap64 ((a1.size : Int) + 1)) t629 t630 w0 _ ?side1 ?side2 A3.out).mono ?_); (case side1 => exact zI20HI0); (case side2 => exact zB20HI0); rintro e w22 ⟨rfl, hi, hb, hk⟩; refine ⟨_, rfl, ?_⟩; replace HK := Aside0.mk (KeepBut.trans zK20 hk (.inl rfl)); replace HB := Aside0.mk hb; replace HI0 := Aside0.mk hi; (try clear hb); (try clear hb2); (try clear hk); (try clear hi)) | ((with_reducible refine gate_callee (f := 36) rfl ?_); refine gl 12 Try.func36 #[.pointer (some ⟨g, 0, none⟩), .int .i64 5] ?_; (with_reducible refine (spec_l20Rd_pick.calls k g s0_0 t630 5 t631 t632 w0 _ ?side1 ?side2 A4.out).mono ?_); (case side1 => exact zI20HI0); (case side2 => exact zB20HI0); rintro e w23 ⟨rfl, hi, hb, hk⟩; refine ⟨_, rfl, ?_⟩; replace HK := Aside0.mk (KeepBut.trans zK20 hk (.inl rfl)); replace HB := Aside0.mk hb; replace HI0 := Aside0.mk hi; (try clear hb); (try clear hb2); (try clear hk); (try clear hi)))
   go_ret
   exact ⟨zR, zI20HI0, zB20HI0, zK20⟩
 ·rw [if_neg c5] at H
  have c5b0 : (t631 == 0) = false := beq_eq_false_iff_ne.mpr c5
  have c5b1 : (t631 != 0) = true := bne_iff_ne.mpr c5
  by_cases c24 : t631 = 1
  ·rw [if_pos c24] at H
   have c24b0 : (t631 == 1) = true := beq_iff_eq.mpr c24
   have c24b1 : (t631 != 1) = false := bne_eq_false_iff_eq.mpr c24
   clear c24
   by_cases c25 : 0 ≤ t629
   ·rw [if_pos c25] at H
    have c25b0 := eq_true c25
    have c25b1 : decide (0 ≤ t629) = true := decide_eq_true c25
    clear c25
    by_cases c26 : t629 ≤ (a1.size : Int)
    ·rw [if_pos c26] at H
     have c26b0 := eq_true c26
     have c26b1 : decide (t629 ≤ (a1.size : Int)) = true := decide_eq_true c26
     clear c26
     simp only [Option.some.injEq, Prod.mk.injEq] at H
     obtain ⟨rfl, rfl⟩ := H
     go_enter Try.func37, Try.ntmps37
     go_wp2_with (first | ((with_reducible refine gate_callee (f := 36) rfl ?_); refine gl 10 Try.func36 #[.pointer (some ⟨g, 0, none⟩), .int .i64 (wrap64 ((a1.size : Int) + 1))] ?_; (with_reducible refine (spec_l20Rd_pick.calls k g s0_0 s0_1 (wrap64 ((a1.size : Int) + 1)) t629 t630 w0 _ ?side1 ?side2 A3.out).mono ?_); (case side1 => exact zI20HI0); (case side2 => exact zB20HI0); rintro e w27 ⟨rfl, hi, hb, hk⟩; refine ⟨_, rfl, ?_⟩; replace HK := Aside0.mk (KeepBut.trans zK20 hk (.inl rfl)); replace HB := Aside0.mk hb; replace HI0 := Aside0.mk hi; (try clear hb); (try clear hb2); (try clear hk); (try clear hi)) | ((with_reducible refine gate_callee (f := 36) rfl ?_); refine gl 12 Try.func36 #[.pointer (some ⟨g, 0, none⟩), .int .i64 5] ?_; (with_reducible refine (spec_l20Rd_pick.calls k g s0_0 t630 5 t631 t632 w0 _ ?side1 ?side2 A4.out).mono ?_); (case side1 => exact zI20HI0); (case side2 => exact zB20HI0); rintro e w28 ⟨rfl, hi, hb, hk⟩; refine ⟨_, rfl, ?_⟩; replace HK := Aside0.mk (KeepBut.trans zK20 hk (.inl rfl)); replace HB := Aside0.mk hb; replace HI0 := Aside0.mk hi; (try clear hb); (try clear hb2); (try clear hk); (try clear hi)))
     go_ret
     exact ⟨zR, zI20HI0, zB20HI0, zK20⟩
    ·rw [if_neg c26] at H
     exact absurd H (by simp)
   ·rw [if_neg c25] at H
    exact absurd H (by simp)
  ·rw [if_neg c24] at H
   have c24b0 : (t631 == 1) = false := beq_eq_false_iff_ne.mpr c24
   have c24b1 : (t631 != 1) = true := bne_iff_ne.mpr c24
   by_cases c29 : t631 = 2
   ·rw [if_pos c29] at H
    have c29b0 : (t631 == 2) = true := beq_iff_eq.mpr c29
    have c29b1 : (t631 != 2) = false := bne_eq_false_iff_eq.mpr c29
    clear c29
    obtain ⟨y638, hy638⟩ : ∃ y_ : List ByteArray, y_ = (([(⟨#[0]⟩ : ByteArray), (⟨#[32]⟩ : ByteArray), (⟨#[48]⟩ : ByteArray)] : List ByteArray)) := ⟨_, rfl⟩
    replace H : ((spec_l20Rd_of.f k s0_0 t632 y638).bind fun bt641 => (if a1.size + bt641.1.size ≤ 9223372036854775807 then (some (a1 ++ bt641.1, bt641.2)) else (none))) = some (r1, r2) := by first | (rw [hy638]; with_reducible exact H) | (have H2_ := (Option.bind_some _ _).symm.trans H; rw [hy638]; with_reducible exact H2_) | (have H2_ := (Option.bind_some _ _).symm.trans H; with_reducible exact H2_) | with_reducible exact H | (rw [hy638]; exact H) | exact H
    have Ny638 := Aside0.mk hy638
    clear hy638
    replace H := Option.bind_eq_some_iff.mp H
    obtain ⟨⟨t641, t642⟩, A300, H⟩ := H
    try dsimp only at H
    have A30 := Aside0.mk A300
    clear A300
    by_cases c31 : a1.size + t641.size ≤ 9223372036854775807
    ·rw [if_pos c31] at H
     have c31b0 := eq_true c31
     have c31b1 : decide (a1.size + t641.size ≤ 9223372036854775807) = true := decide_eq_true c31
     try have c31b2 : (9223372036854775807 < a1.size + t641.size) = False := eq_false (Nat.not_lt.2 c31)
     try (have c31b3 := c31; simp [go_sem, *] at c31b3; have c31b4 := eq_false (Nat.not_lt.2 c31b3); clear c31b3)
     simp only [Option.some.injEq, Prod.mk.injEq] at H
     obtain ⟨rfl, rfl⟩ := H
     go_enter Try.func37, Try.ntmps37
     go_wp2_with (first | ((with_reducible refine gate_callee (f := 36) rfl ?_); refine gl 10 Try.func36 #[.pointer (some ⟨g, 0, none⟩), .int .i64 (wrap64 ((a1.size : Int) + 1))] ?_; (with_reducible refine (spec_l20Rd_pick.calls k g s0_0 s0_1 (wrap64 ((a1.size : Int) + 1)) t629 t630 w0 _ ?side1 ?side2 A3.out).mono ?_); (case side1 => exact zI20HI0); (case side2 => exact zB20HI0); rintro e w32 ⟨rfl, hi, hb, hk⟩; refine ⟨_, rfl, ?_⟩; replace HK := Aside0.mk (KeepBut.trans zK20 hk (.inl rfl)); replace HB := Aside0.mk hb; replace HI0 := Aside0.mk hi; (try clear hb); (try clear hb2); (try clear hk); (try clear hi)) | ((with_reducible refine gate_callee (f := 36) rfl ?_); refine gl 12 Try.func36 #[.pointer (some ⟨g, 0, none⟩), .int .i64 5] ?_; (with_reducible refine (spec_l20Rd_pick.calls k g s0_0 t630 5 t631 t632 w0 _ ?side1 ?side2 A4.out).mono ?_); (case side1 => exact zI20HI0); (case side2 => exact zB20HI0); rintro e w33 ⟨rfl, hi, hb, hk⟩; refine ⟨_, rfl, ?_⟩; replace HK := Aside0.mk (KeepBut.trans zK20 hk (.inl rfl)); replace HB := Aside0.mk hb; replace HI0 := Aside0.mk hi; (try clear hb); (try clear hb2); (try clear hk); (try clear hi)) | ((with_reducible refine gate_dst (N := 40) rfl ?_); refine Kd.R_lit Kd.string _ 9 ?hg (N := 40) ?hd (xs := ([(⟨#[0]⟩ : ByteArray), (⟨#[32]⟩ : ByteArray), (⟨#[48]⟩ : ByteArray)] : List ByteArray)) (inner := [.string (⟨#[0]⟩ : ByteArray), .string (⟨#[32]⟩ : ByteArray), .string (⟨#[48]⟩ : ByteArray)]) (ok := fun _ => True) (okp := fun _ => True) ?hr ?hp (fun _ hk => hk) trivial (Below.refl _ _) (Nat.le_refl _) (by simp) ?_; (case hd => rfl); (case hg => rfl); (case hr => first | (go_simp; done) | (go_simp; rfl)); (case hp => exact (Reps.one (show Kd.M Kd.string _ _ _ (⟨#[0]⟩ : ByteArray) [.string (⟨#[0]⟩ : ByteArray)] from rfl) (Reps.one (show Kd.M Kd.string _ _ _ (⟨#[32]⟩ : ByteArray) [.string (⟨#[32]⟩ : ByteArray)] from rfl) (Reps.one (show Kd.M Kd.string _ _ _ (⟨#[48]⟩ : ByteArray) [.string (⟨#[48]⟩ : ByteArray)] from rfl) (Reps.none _ _))))); intro v639 w34 ho35 hb hg_ hnew_; clear hg_ hnew_; (first | rw [← Ny638.out] at ho35 | (simp only [Int.reduceToNat] at ho35; rw [← Ny638.out] at ho35)); have HO640 := Aside0.mk (Kd.R_lower ho35 (keep_size (w := w) (g := g) (row := none) zK20)); replace HK := Aside0.mk (KeepBut.trans zK20 (KeepBut.of_below hb g none) (.inl rfl)); replace HB := Aside0.mk (below_step (zB20HI0) hb); replace HI0 := Aside0.mk (IsS61.below zI20HI0 hb); clear hb ho35; obtain ⟨Ao36, co36, eo36⟩ := Kd.R_slice HO640.out; subst eo36) | ((with_reducible refine gate_callee (f := 49) rfl ?_); refine gl 41 Try.func49 #[.pointer (some ⟨g, 0, none⟩), .slice Ao36 y638.length co36] ?_; (with_reducible refine (spec_l20Rd_of.calls k g s0_0 t632 _ _ y638 t641 t642 w0 _ ?side1 ?side2 ?side3 ?side4 ?side5 A30.out).mono ?_); (case side1 => exact zI20HI0); (case side2 => exact zB20HI0); (case side3 => repeat (first | exact (Kd.R_reads' HO640.out).2.2 | (with_reducible refine Kd.C_alloc ?_ _) | (with_reducible refine Kd.C_drewN ?_ _) | (with_reducible refine Kd.C_drew ?_))); (case side4 => exact (Kd.R_reads' HO640.out).2.1); (case side5 => exact far_slice (IsS61.own_ne HI0.out HO640.out (by decide))); rintro e w37 ⟨rfl, hi, hb, hk⟩; refine ⟨_, rfl, ?_⟩; replace HO640 := Aside0.mk (Kd.R_mono (Kd.R_keep (IsS61.apart (show IsS61 w0 _ g s0_0 t632 from zI20HI0) (by (with_reducible repeat (first | apply Kd.R_alloc | apply Kd.R_drewN | apply Kd.R_drew)); exact HO640.out) (by decide)) hk (fun _ h => h.2)) (fun _ h => h.1)); replace HK := Aside0.mk (KeepBut.trans zK20 hk (.inl rfl)); replace HB := Aside0.mk hb; replace HI0 := Aside0.mk hi; (try clear hb); (try clear hb2); (try clear hk); (try clear hi)))
     go_ret
     exact ⟨zR, zI20HI0, zB20HI0, zK20⟩
    ·rw [if_neg c31] at H
     exact absurd H (by simp)
   ·rw [if_neg c29] at H
    have c29b0 : (t631 == 2) = false := beq_eq_false_iff_ne.mpr c29
    have c29b1 : (t631 != 2) = true := bne_iff_ne.mpr c29
    simp only [Option.some.injEq, Prod.mk.injEq] at H
    obtain ⟨rfl, rfl⟩ := H
    go_enter Try.func37, Try.ntmps37
    go_wp2_with (first | ((with_reducible refine gate_callee (f := 36) rfl ?_); refine gl 10 Try.func36 #[.pointer (some ⟨g, 0, none⟩), .int .i64 (wrap64 ((a1.size : Int) + 1))] ?_; (with_reducible refine (spec_l20Rd_pick.calls k g s0_0 s0_1 (wrap64 ((a1.size : Int) + 1)) t629 t630 w0 _ ?side1 ?side2 A3.out).mono ?_); (case side1 => exact zI20HI0); (case side2 => exact zB20HI0); rintro e w38 ⟨rfl, hi, hb, hk⟩; refine ⟨_, rfl, ?_⟩; replace HK := Aside0.mk (KeepBut.trans zK20 hk (.inl rfl)); replace HB := Aside0.mk hb; replace HI0 := Aside0.mk hi; (try clear hb); (try clear hb2); (try clear hk); (try clear hi)) | ((with_reducible refine gate_callee (f := 36) rfl ?_); refine gl 12 Try.func36 #[.pointer (some ⟨g, 0, none⟩), .int .i64 5] ?_; (with_reducible refine (spec_l20Rd_pick.calls k g s0_0 t630 5 t631 t632 w0 _ ?side1 ?side2 A4.out).mono ?_); (case side1 => exact zI20HI0); (case side2 => exact zB20HI0); rintro e w39 ⟨rfl, hi, hb, hk⟩; refine ⟨_, rfl, ?_⟩; replace HK := Aside0.mk (KeepBut.trans zK20 hk (.inl rfl)); replace HB := Aside0.mk hb; replace HI0 := Aside0.mk hi; (try clear hb); (try clear hb2); (try clear hk); (try clear hi)))
    go_ret
    exact ⟨zR, zI20HI0, zB20HI0, zK20⟩
def spec_DrawInsGet.f (k : Nat) (l0 : List Int) : Option (ByteArray) := (spec_l20Open.f l0).bind fun bt643 => ((spec_l20Ins.f k bt643.1 bt643.2).bind fun bt646 => ((spec_InsPut.f bt646.1 bt646.2.1 bt646.2.2.1 bt646.2.2.2.1 bt646.2.2.2.2.1 bt646.2.2.2.2.2.1).bind fun t653 => ((spec_l20Rd_pick.f k bt643.1 bt646.2.2.2.2.2.2 3).bind fun bt654 => (if bt654.1 > 0 then (some t653) else ((spec_l20Bent.f k bt643.1 bt654.2 t653).bind fun bt656 => (some bt656.1))))))
set_option maxHeartbeats 8000000 in
set_option maxRecDepth 100000 in
theorem spec_DrawInsGet.calls (k : Nat) (A0 : Option Addr) (c0 : Nat) (l0 : List Int) (r : ByteArray) (w : World) (hr0 : Kd.C (Kd.int .u8) w A0 l0.length l0) (hc0 : l0.length ≤ c0) (h : spec_DrawInsGet.f k l0 = some r) :
  Calls Try.prog 14 #[.slice A0 l0.length c0] w fun e w' => e = .returned (.string r) ∧ Below w.heap.size w w' := by
 have HR0 := Aside0.mk hr0
 have HC0 := Aside0.mk hc0
 clear hr0 hc0
 have HB := Aside0.mk (Below.refl w.heap.size w)
 have H : ((spec_l20Open.f l0).bind fun bt643 => ((spec_l20Ins.f k bt643.1 bt643.2).bind fun bt646 => ((spec_InsPut.f bt646.1 bt646.2.1 bt646.2.2.1 bt646.2.2.2.1 bt646.2.2.2.2.1 bt646.2.2.2.2.2.1).bind fun t653 => ((spec_l20Rd_pick.f k bt643.1 bt646.2.2.2.2.2.2 3).bind fun bt654 => (if bt654.1 > 0 then (some t653) else ((spec_l20Bent.f k bt643.1 bt654.2 t653).bind fun bt656 => (some bt656.1))))))) = some r := h
 clear h
 replace H := Option.bind_eq_some_iff.mp H
 obtain ⟨⟨t643, t644⟩, A20, H⟩ := H
 try dsimp only at H
 have A2 := Aside0.mk A20
 clear A20
 replace H := Option.bind_eq_some_iff.mp H
 obtain ⟨⟨t646, t647, t648, t649, t650, t651, t652⟩, A30, H⟩ := H
 try dsimp only at H
 have A3 := Aside0.mk A30
 clear A30
 replace H := Option.bind_eq_some_iff.mp H
 obtain ⟨t653, A40, H⟩ := H
 try dsimp only at H
 have A4 := Aside0.mk A40
 clear A40
 replace H := Option.bind_eq_some_iff.mp H
 obtain ⟨⟨t654, t655⟩, A50, H⟩ := H
 try dsimp only at H
 have A5 := Aside0.mk A50
 clear A50
 by_cases c6 : t654 > 0
 ·rw [if_pos c6] at H
  have c6b0 : decide (0 < t654) = true := decide_eq_true c6
  clear c6
  obtain rfl := Option.some.inj H
  go_enter Try.func14, Try.ntmps14
  go_wp2_with (first | ((with_reducible refine gate_callee (f := 27) rfl ?_); refine gl 6 Try.func27 #[.slice A0 l0.length c0] ?_; (with_reducible refine (spec_l20Open.calls _ _ l0 t643 t644 w _ ?side1 ?side2 ?side3 A2.out).mono ?_); (case side1 => repeat (first | (with_reducible first | exact HB.out | apply below_alloc | apply pw_below_drewN | apply below_drew1) | exact HB.out)); (case side2 => exact HR0.out); (case side3 => exact HC0.out); rintro e w7 ⟨g645, rfl, hi, hb, hb2⟩; refine ⟨_, rfl, ?_⟩; replace HB := Aside0.mk hb; have HI645 := Aside0.mk hi; (try clear hb); (try clear hb2); (try clear hk); (try clear hi)) | ((with_reducible refine gate_callee (f := 26) rfl ?_); refine gl 8 Try.func26 #[.pointer (some ⟨g645, 0, none⟩)] ?_; (with_reducible refine (spec_l20Ins.calls k g645 t643 t644 t646 t647 t648 t649 t650 t651 t652 w _ ?side1 ?side2 A3.out).mono ?_); (case side1 => exact zI20HI645); (case side2 => exact zB20HI645); rintro e w8 ⟨rfl, hi, hb, hk⟩; refine ⟨_, rfl, ?_⟩; replace HB := Aside0.mk hb; replace HI645 := Aside0.mk hi; (try clear hb); (try clear hb2); (try clear hk); (try clear hi)) | ((with_reducible refine gate_callee (f := 10) rfl ?_); refine gl 9 Try.func10 #[.agg #[.int .i64 t646, .int .i64 t647, .int .i64 t648, .int .i64 t649, .int .i64 t650, .int .i64 t651]] ?_; (with_reducible refine (spec_InsPut.calls t646 t647 t648 t649 t650 t651 t653 _ A4.out).mono ?_); rintro e w9 ⟨rfl, hb⟩; refine ⟨_, rfl, ?_⟩; replace HB := Aside0.mk (below_step (zB20HI645) hb); replace HI645 := Aside0.mk (IsS61.below (by repeat (first | (with_reducible first | exact HI645.out | apply IsS61.alloc | apply IsS61.drewN | apply IsS61.drew | apply IsS61.set_1) | exact HI645.out)) hb); try clear hb) | ((with_reducible refine gate_callee (f := 36) rfl ?_); refine gl 11 Try.func36 #[.pointer (some ⟨g645, 0, none⟩), .int .i64 3] ?_; (with_reducible refine (spec_l20Rd_pick.calls k g645 t643 t652 3 t654 t655 w _ ?side1 ?side2 A5.out).mono ?_); (case side1 => exact zI20HI645); (case side2 => exact zB20HI645); rintro e w10 ⟨rfl, hi, hb, hk⟩; refine ⟨_, rfl, ?_⟩; replace HB := Aside0.mk hb; replace HI645 := Aside0.mk hi; (try clear hb); (try clear hb2); (try clear hk); (try clear hi)))
  go_ret
  exact ⟨zR, zB20HI645⟩
 ·rw [if_neg c6] at H
  have c6b0 : decide (0 < t654) = false := decide_eq_false c6
  clear c6
  replace H := Option.bind_eq_some_iff.mp H
  obtain ⟨⟨t656, t657⟩, A110, H⟩ := H
  try dsimp only at H
  have A11 := Aside0.mk A110
  clear A110
  obtain rfl := Option.some.inj H
  go_enter Try.func14, Try.ntmps14
  go_wp2_with (first | ((with_reducible refine gate_callee (f := 27) rfl ?_); refine gl 6 Try.func27 #[.slice A0 l0.length c0] ?_; (with_reducible refine (spec_l20Open.calls _ _ l0 t643 t644 w _ ?side1 ?side2 ?side3 A2.out).mono ?_); (case side1 => repeat (first | (with_reducible first | exact HB.out | apply below_alloc | apply pw_below_drewN | apply below_drew1) | exact HB.out)); (case side2 => exact HR0.out); (case side3 => exact HC0.out); rintro e w12 ⟨g645, rfl, hi, hb, hb2⟩; refine ⟨_, rfl, ?_⟩; replace HB := Aside0.mk hb; have HI645 := Aside0.mk hi; (try clear hb); (try clear hb2); (try clear hk); (try clear hi)) | ((with_reducible refine gate_callee (f := 26) rfl ?_); refine gl 8 Try.func26 #[.pointer (some ⟨g645, 0, none⟩)] ?_; (with_reducible refine (spec_l20Ins.calls k g645 t643 t644 t646 t647 t648 t649 t650 t651 t652 w _ ?side1 ?side2 A3.out).mono ?_); (case side1 => exact zI20HI645); (case side2 => exact zB20HI645); rintro e w13 ⟨rfl, hi, hb, hk⟩; refine ⟨_, rfl, ?_⟩; replace HB := Aside0.mk hb; replace HI645 := Aside0.mk hi; (try clear hb); (try clear hb2); (try clear hk); (try clear hi)) | ((with_reducible refine gate_callee (f := 10) rfl ?_); refine gl 9 Try.func10 #[.agg #[.int .i64 t646, .int .i64 t647, .int .i64 t648, .int .i64 t649, .int .i64 t650, .int .i64 t651]] ?_; (with_reducible refine (spec_InsPut.calls t646 t647 t648 t649 t650 t651 t653 _ A4.out).mono ?_); rintro e w14 ⟨rfl, hb⟩; refine ⟨_, rfl, ?_⟩; replace HB := Aside0.mk (below_step (zB20HI645) hb); replace HI645 := Aside0.mk (IsS61.below (by repeat (first | (with_reducible first | exact HI645.out | apply IsS61.alloc | apply IsS61.drewN | apply IsS61.drew | apply IsS61.set_1) | exact HI645.out)) hb); try clear hb) | ((with_reducible refine gate_callee (f := 36) rfl ?_); refine gl 11 Try.func36 #[.pointer (some ⟨g645, 0, none⟩), .int .i64 3] ?_; (with_reducible refine (spec_l20Rd_pick.calls k g645 t643 t652 3 t654 t655 w _ ?side1 ?side2 A5.out).mono ?_); (case side1 => exact zI20HI645); (case side2 => exact zB20HI645); rintro e w15 ⟨rfl, hi, hb, hk⟩; refine ⟨_, rfl, ?_⟩; replace HB := Aside0.mk hb; replace HI645 := Aside0.mk hi; (try clear hb); (try clear hb2); (try clear hk); (try clear hi)) | ((with_reducible refine gate_callee (f := 37) rfl ?_); refine gl 16 Try.func37 #[.pointer (some ⟨g645, 0, none⟩), .string t653] ?_; (with_reducible refine (spec_l20Bent.calls k g645 t643 t655 t653 t656 t657 w _ ?side1 ?side2 A11.out).mono ?_); (case side1 => exact zI20HI645); (case side2 => exact zB20HI645); rintro e w16 ⟨rfl, hi, hb, hk⟩; refine ⟨_, rfl, ?_⟩; replace HB := Aside0.mk hb; replace HI645 := Aside0.mk hi; (try clear hb); (try clear hb2); (try clear hk); (try clear hi)))
  go_ret
  exact ⟨zR, zB20HI645⟩
end Go.Proofs.Ythhcdkmfpdpieaa.Q
