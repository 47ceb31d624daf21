/- The machine's side of this seat's laws: Go functions as Lean functions, and their contracts. By a program of this work over the kit's print. -/
import Derived.Test.YtdfgaaeieneaoaaQ0
import Derived.Test.YtdfgaaeieneaoaaQ5
import Derived.Test.YtdfgaaeieneaoaaQ7
import Derived.Test.YtdfgaaeieneaoaaQ10
import Derived.Test.YtdfgaaeieneaoaaQ11
import Derived.Test.YtdfgaaeieneaoaaQ13
import Derived.Test.YtdfgaaeieneaoaaQ21
import Derived.Test.YtdfgaaeieneaoaaQ23
namespace Go.Proofs.Ytdfgaaeieneaoaa.Q
open Go.RowKit Go.Proofs.YtdfgaaeieneaoaaW.PrintWords Go.Proofs.YtdfgaaeieneaoaaW.PrintLast Go.Proofs.YtdfgaaeieneaoaaW.PrintMore
attribute [local go_sem] max2_int min2_int max_two min_two max_three min_three max_four min_four Go.Proofs.YtdfgaaeieneaoaaN.not_i64 Go.Proofs.YtdfgaaeieneaoaaN.isSome_setCell   -- for this text's walks alone
set_option linter.unusedVariables false
set_option linter.unusedSimpArgs false
theorem zK24 {w W : World} {g : Nat} {r : Option Nat} (h : KeepBut w W g r := by repeat (first | (with_reducible first | exact HK.out | apply KeepBut.set_ | apply keep_drewN | apply keep_drew | apply keep_alloc) | exact HK.out)) : KeepBut w W g r := h
theorem zI24HI0 {w0 W : World} {g : Nat} {f0 : List Int} {f1 : Int} (h : IsS69 w0 W g f0 f1 := by repeat (first | (with_reducible first | exact HI0.out | apply IsS69.alloc | apply IsS69.drewN | apply IsS69.drew | apply IsS69.set_1) | exact HI0.out)) : IsS69 w0 W g f0 f1 := h
theorem zI24HI704 {w0 W : World} {g : Nat} {f0 : List Int} {f1 : Int} (h : IsS69 w0 W g f0 f1 := by repeat (first | (with_reducible first | exact HI704.out | apply IsS69.alloc | apply IsS69.drewN | apply IsS69.drew | apply IsS69.set_1) | exact HI704.out)) : IsS69 w0 W g f0 f1 := h
theorem zB24HI0 {b : Nat} {w W : World} (h : Below b w W := by repeat (first | (with_reducible first | exact HB.out | apply below_alloc | apply pw_below_drewN | apply below_drew1 | refine below_set ?_ (IsS69.ge HI0.out)) | exact HB.out)) : Below b w W := h
theorem zB24HI704 {b : Nat} {w W : World} (h : Below b w W := by repeat (first | (with_reducible first | exact HB.out | apply below_alloc | apply pw_below_drewN | apply below_drew1 | refine below_set ?_ (IsS69.ge HI704.out)) | exact HB.out)) : Below b w W := h
def spec_l20Rd_of.f (k : Nat) (s0_0 : List Int) (s0_1 : Int) (l1 : List ByteArray) : Option (ByteArray × Int) := (spec_l20Rd_pick.f k s0_0 s0_1 (l1.length : Int)).bind fun bt685 => (if 0 ≤ bt685.1 then (if bt685.1 < (l1.length : Int) then (some (rdOf ByteArray.empty l1 bt685.1, bt685.2)) else (none)) else (none))
set_option maxHeartbeats 8000000 in
set_option maxRecDepth 100000 in
theorem spec_l20Rd_of.calls (k : Nat) (g : Nat) (s0_0 : List Int) (s0_1 : Int) (A1 : Option Addr) (c1 : Nat) (l1 : List ByteArray) (r1 : ByteArray) (r2 : Int) (w0 w : World) (hI : IsS69 w0 w g s0_0 s0_1) (hB : Below w0.heap.size w0 w) (hr1 : Kd.C Kd.string w A1 l1.length l1) (hc1 : l1.length ≤ c1) (hf1 : ∀ ad, A1 = some ad → 0 < l1.length → ad.block ≠ g) (h : spec_l20Rd_of.f k s0_0 s0_1 l1 = some (r1, r2)) :
  Calls Try.prog 55 #[.pointer (some ⟨g, 0, none⟩), .slice A1 l1.length c1] w fun e w' => e = .returned (.string r1) ∧ IsS69 w0 w' g s0_0 r2 ∧ Below w0.heap.size w0 w' ∧ KeepBut w w' g none := by
 have HR1 := Aside0.mk hr1
 have HC1 := Aside0.mk hc1
 clear hr1 hc1
 have HI0 := Aside0.mk hI
 have HK := Aside0.mk (KeepBut.refl w g none)
 have HL := Aside0.mk hB.size
 clear hI
 have HW0 := Aside0.mk hB.size
 have HB := Aside0.mk hB
 clear hB
 have H : ((spec_l20Rd_pick.f k s0_0 s0_1 (l1.length : Int)).bind fun bt685 => (if 0 ≤ bt685.1 then (if bt685.1 < (l1.length : Int) then (some (rdOf ByteArray.empty l1 bt685.1, bt685.2)) else (none)) else (none))) = some (r1, r2) := h
 clear h
 replace H := Option.bind_eq_some_iff.mp H
 obtain ⟨⟨t685, t686⟩, A30, H⟩ := H
 try dsimp only at H
 have A3 := Aside0.mk A30
 clear A30
 by_cases c4 : 0 ≤ t685
 ·rw [if_pos c4] at H
  have c4b0 : decide (0 ≤ t685) = true := decide_eq_true c4
  clear c4
  by_cases c5 : t685 < (l1.length : Int)
  ·rw [if_pos c5] at H
   have c5b0 : decide (t685 < (l1.length : Int)) = true := decide_eq_true c5
   clear c5
   simp only [Option.some.injEq, Prod.mk.injEq] at H
   obtain ⟨rfl, rfl⟩ := H
   go_enter Try.func55, Try.ntmps55
   go_wp2_with (first | ((with_reducible refine gate_callee (f := 36) rfl ?_); refine gl 9 Try.func36 #[.pointer (some ⟨g, 0, none⟩), .int .i64 (l1.length : Int)] ?_; (with_reducible refine (spec_l20Rd_pick.calls k g s0_0 s0_1 (l1.length : Int) t685 t686 w0 _ ?side1 ?side2 A3.out).mono ?_); (case side1 => exact zI24HI0); (case side2 => exact zB24HI0); rintro e w6 ⟨rfl, hi, hb, hk⟩; refine ⟨_, rfl, ?_⟩; replace HK := Aside0.mk (KeepBut.trans zK24 hk (.inl rfl)); replace HB := Aside0.mk hb; replace HI0 := Aside0.mk hi; (try clear hb); (try clear hb2); (try clear hk); (try clear hi); have p687 : 0 ≤ (t685 : Int) := of_decide_eq_true (by first | (with_reducible assumption) | assumption); have q687 : t685 < (l1.length : Int) := of_decide_eq_true (by first | (with_reducible assumption) | assumption); obtain ⟨ad687, e687, hx687_0⟩ := Kd.at_string HR1.out t685 p687 q687; cases e687; replace hx687_0 := keep_cell HK.out hx687_0 (by first | (rw [add_block]; exact hf1 _ rfl (by omega)) | exact hf1 _ rfl (by omega) | exact hf1 ad687 rfl (by omega)); replace p687 := eq_true p687; replace q687 := eq_true q687))
   go_ret
   exact ⟨zR, zI24HI0, zB24HI0, zK24⟩
  ·rw [if_neg c5] at H
   exact absurd H (by simp)
 ·rw [if_neg c4] at H
  exact absurd H (by simp)
def spec_l20Bent.f (k : Nat) (s0_0 : List Int) (s0_1 : Int) (a1 : ByteArray) : Option (ByteArray × Int) := (spec_l20Rd_pick.f k s0_0 s0_1 (wrap64 ((a1.size : Int) + 1))).bind fun bt688 => ((spec_l20Rd_pick.f k s0_0 bt688.2 5).bind fun bt690 => (if bt690.1 = 0 then (if bt688.1 < (a1.size : Int) then (if 0 ≤ bt688.1 then (if bt688.1 ≤ (a1.size : Int) then ((spec_l20Rd_of.f k s0_0 bt690.2 (([(⟨#[0]⟩ : ByteArray), (⟨#[49]⟩ : ByteArray), (⟨#[255]⟩ : ByteArray), (⟨#[32]⟩ : ByteArray), (⟨#[114]⟩ : ByteArray), (⟨#[16]⟩ : ByteArray)] : List ByteArray))).bind fun bt695 => (if (a1.extract 0 (bt688.1 : Int).toNat).size + bt695.1.size ≤ 9223372036854775807 then (if 0 ≤ (wrap64 (bt688.1 + 1)) then (if (wrap64 (bt688.1 + 1)) ≤ (a1.size : Int) then (if ((a1.extract 0 (bt688.1 : Int).toNat) ++ bt695.1).size + (a1.extract ((wrap64 (bt688.1 + 1)) : Int).toNat a1.size).size ≤ 9223372036854775807 then (some (((a1.extract 0 (bt688.1 : Int).toNat) ++ bt695.1) ++ (a1.extract ((wrap64 (bt688.1 + 1)) : Int).toNat a1.size), bt695.2)) else (none)) else (none)) else (none)) else (none))) else (none)) else (none)) else (some (a1, bt690.2))) else (if bt690.1 = 1 then (if 0 ≤ bt688.1 then (if bt688.1 ≤ (a1.size : Int) then (some (a1.extract 0 (bt688.1 : Int).toNat, bt690.2)) else (none)) else (none)) else (if bt690.1 = 2 then ((spec_l20Rd_of.f k s0_0 bt690.2 (([(⟨#[0]⟩ : ByteArray), (⟨#[32]⟩ : ByteArray), (⟨#[48]⟩ : ByteArray)] : List ByteArray))).bind fun bt700 => (if a1.size + bt700.1.size ≤ 9223372036854775807 then (some (a1 ++ bt700.1, bt700.2)) else (none))) else (some (a1, bt690.2))))))
def spec_l20Bent.T5 : Bool × List (List Nat × List Nat) := (true, [([], []), ([], []), ([0, 1], [0, 1]), ([], []), ([], []), ([3, 4], [3, 4]), ([2, 5], [2, 5]), ([], []), ([], []), ([8], [8]), ([7, 9], [7, 9]), ([6, 10], [6, 10]), ([11, 5, 0, 1, 2, 3, 4, 5, 6, 7, 8, 9, 10, 11], [11])])
def spec_l20Bent.B5 : List Nat := [0, 0, 3, 0, 0, 24, 63, 0, 0, 256, 896, 2047, 4095]
theorem spec_l20Bent.tab5 : rtab .any (opsOf Try.f37 5) = spec_l20Bent.T5 := by kernel_rfl
theorem spec_l20Bent.bits5 : waitsOk spec_l20Bent.T5.2 spec_l20Bent.B5 = true := by kernel_rfl
set_option maxHeartbeats 8000000 in
set_option maxRecDepth 100000 in
theorem spec_l20Bent.calls (k : Nat) (g : Nat) (s0_0 : List Int) (s0_1 : Int) (a1 : ByteArray) (r1 : ByteArray) (r2 : Int) (w0 w : World) (hI : IsS69 w0 w g s0_0 s0_1) (hB : Below w0.heap.size w0 w) (h : spec_l20Bent.f k s0_0 s0_1 a1 = some (r1, r2)) :
  Calls Try.prog 37 #[.pointer (some ⟨g, 0, none⟩), .string a1] w fun e w' => e = .returned (.string r1) ∧ IsS69 w0 w' g s0_0 r2 ∧ Below w0.heap.size w0 w' ∧ KeepBut w w' g none := by
 have HI0 := Aside0.mk hI
 have HK := Aside0.mk (KeepBut.refl w g none)
 have HL := Aside0.mk hB.size
 clear hI
 have HW0 := Aside0.mk hB.size
 have HB := Aside0.mk hB
 clear hB
 have H : ((spec_l20Rd_pick.f k s0_0 s0_1 (wrap64 ((a1.size : Int) + 1))).bind fun bt688 => ((spec_l20Rd_pick.f k s0_0 bt688.2 5).bind fun bt690 => (if bt690.1 = 0 then (if bt688.1 < (a1.size : Int) then (if 0 ≤ bt688.1 then (if bt688.1 ≤ (a1.size : Int) then ((spec_l20Rd_of.f k s0_0 bt690.2 (([(⟨#[0]⟩ : ByteArray), (⟨#[49]⟩ : ByteArray), (⟨#[255]⟩ : ByteArray), (⟨#[32]⟩ : ByteArray), (⟨#[114]⟩ : ByteArray), (⟨#[16]⟩ : ByteArray)] : List ByteArray))).bind fun bt695 => (if (a1.extract 0 (bt688.1 : Int).toNat).size + bt695.1.size ≤ 9223372036854775807 then (if 0 ≤ (wrap64 (bt688.1 + 1)) then (if (wrap64 (bt688.1 + 1)) ≤ (a1.size : Int) then (if ((a1.extract 0 (bt688.1 : Int).toNat) ++ bt695.1).size + (a1.extract ((wrap64 (bt688.1 + 1)) : Int).toNat a1.size).size ≤ 9223372036854775807 then (some (((a1.extract 0 (bt688.1 : Int).toNat) ++ bt695.1) ++ (a1.extract ((wrap64 (bt688.1 + 1)) : Int).toNat a1.size), bt695.2)) else (none)) else (none)) else (none)) else (none))) else (none)) else (none)) else (some (a1, bt690.2))) else (if bt690.1 = 1 then (if 0 ≤ bt688.1 then (if bt688.1 ≤ (a1.size : Int) then (some (a1.extract 0 (bt688.1 : Int).toNat, bt690.2)) else (none)) else (none)) else (if bt690.1 = 2 then ((spec_l20Rd_of.f k s0_0 bt690.2 (([(⟨#[0]⟩ : ByteArray), (⟨#[32]⟩ : ByteArray), (⟨#[48]⟩ : ByteArray)] : List ByteArray))).bind fun bt700 => (if a1.size + bt700.1.size ≤ 9223372036854775807 then (some (a1 ++ bt700.1, bt700.2)) else (none))) else (some (a1, bt690.2))))))) = some (r1, r2) := h
 clear h
 replace H := Option.bind_eq_some_iff.mp H
 obtain ⟨⟨t688, t689⟩, A30, H⟩ := H
 try dsimp only at H
 have A3 := Aside0.mk A30
 clear A30
 replace H := Option.bind_eq_some_iff.mp H
 obtain ⟨⟨t690, t691⟩, A40, H⟩ := H
 try dsimp only at H
 have A4 := Aside0.mk A40
 clear A40
 by_cases c5 : t690 = 0
 ·rw [if_pos c5] at H
  have c5b0 : (t690 == 0) = true := beq_iff_eq.mpr c5
  have c5b1 : (t690 != 0) = false := bne_eq_false_iff_eq.mpr c5
  clear c5
  by_cases c6 : t688 < (a1.size : Int)
  ·rw [if_pos c6] at H
   have c6b0 : decide (t688 < (a1.size : Int)) = true := decide_eq_true c6
   clear c6
   by_cases c7 : 0 ≤ t688
   ·rw [if_pos c7] at H
    have c7b0 := eq_true c7
    have c7b1 : decide (0 ≤ t688) = true := decide_eq_true c7
    clear c7
    by_cases c8 : t688 ≤ (a1.size : Int)
    ·rw [if_pos c8] at H
     have c8b0 := eq_true c8
     have c8b1 : decide (t688 ≤ (a1.size : Int)) = true := decide_eq_true c8
     clear c8
     obtain ⟨y692, hy692⟩ : ∃ y_ : List ByteArray, y_ = (([(⟨#[0]⟩ : ByteArray), (⟨#[49]⟩ : ByteArray), (⟨#[255]⟩ : ByteArray), (⟨#[32]⟩ : ByteArray), (⟨#[114]⟩ : ByteArray), (⟨#[16]⟩ : ByteArray)] : List ByteArray)) := ⟨_, rfl⟩
     replace H : ((spec_l20Rd_of.f k s0_0 t691 y692).bind fun bt695 => (if (a1.extract 0 (t688 : Int).toNat).size + bt695.1.size ≤ 9223372036854775807 then (if 0 ≤ (wrap64 (t688 + 1)) then (if (wrap64 (t688 + 1)) ≤ (a1.size : Int) then (if ((a1.extract 0 (t688 : Int).toNat) ++ bt695.1).size + (a1.extract ((wrap64 (t688 + 1)) : Int).toNat a1.size).size ≤ 9223372036854775807 then (some (((a1.extract 0 (t688 : Int).toNat) ++ bt695.1) ++ (a1.extract ((wrap64 (t688 + 1)) : Int).toNat a1.size), bt695.2)) else (none)) else (none)) else (none)) else (none))) = some (r1, r2) := by first | (rw [hy692]; with_reducible exact H) | (have H2_ := (Option.bind_some _ _).symm.trans H; rw [hy692]; with_reducible exact H2_) | (have H2_ := (Option.bind_some _ _).symm.trans H; with_reducible exact H2_) | with_reducible exact H | (rw [hy692]; exact H) | exact H
     have Ny692 := Aside0.mk hy692
     clear hy692
     replace H := Option.bind_eq_some_iff.mp H
     obtain ⟨⟨t695, t696⟩, A90, H⟩ := H
     try dsimp only at H
     have A9 := Aside0.mk A90
     clear A90
     by_cases c10 : (a1.extract 0 (t688 : Int).toNat).size + t695.size ≤ 9223372036854775807
     ·rw [if_pos c10] at H
      have c10b0 := eq_true c10
      have c10b1 : decide ((a1.extract 0 (t688 : Int).toNat).size + t695.size ≤ 9223372036854775807) = true := decide_eq_true c10
      try have c10b2 : (9223372036854775807 < (a1.extract 0 (t688 : Int).toNat).size + t695.size) = False := eq_false (Nat.not_lt.2 c10)
      try (have c10b3 := c10; simp [go_sem, *] at c10b3; have c10b4 := eq_false (Nat.not_lt.2 c10b3); clear c10b3)
      obtain ⟨ji11, hji11⟩ : ∃ j_ : Int, (wrap64 (t688 + 1)) = j_ := ⟨_, rfl⟩
      replace H : (if 0 ≤ (ji11) then (if (ji11) ≤ (a1.size : Int) then (if ((a1.extract 0 (t688 : Int).toNat) ++ t695).size + (a1.extract ((ji11) : Int).toNat a1.size).size ≤ 9223372036854775807 then (some (((a1.extract 0 (t688 : Int).toNat) ++ t695) ++ (a1.extract ((ji11) : Int).toNat a1.size), t696)) else (none)) else (none)) else (none)) = some (r1, r2) := by first | (rw [hji11] at H; exact H) | (simp only [hji11] at H ⊢; exact H)
      (try rw [hji11] at A3)
      (try rw [hji11] at A4)
      (try rw [hji11] at A9)
      have hji11w : (IntKind.i64.wrap (t688 + 1)) = ji11 := (i64_w _).trans hji11
      by_cases c12 : 0 ≤ (ji11)
      ·rw [if_pos c12] at H
       have c12b0 := eq_true c12
       have c12b1 : decide (0 ≤ (ji11)) = true := decide_eq_true c12
       clear c12
       by_cases c13 : (ji11) ≤ (a1.size : Int)
       ·rw [if_pos c13] at H
        have c13b0 := eq_true c13
        have c13b1 : decide ((ji11) ≤ (a1.size : Int)) = true := decide_eq_true c13
        clear c13
        by_cases c14 : ((a1.extract 0 (t688 : Int).toNat) ++ t695).size + (a1.extract ((ji11) : Int).toNat a1.size).size ≤ 9223372036854775807
        ·rw [if_pos c14] at H
         have c14b0 := eq_true c14
         have c14b1 : decide (((a1.extract 0 (t688 : Int).toNat) ++ t695).size + (a1.extract ((ji11) : Int).toNat a1.size).size ≤ 9223372036854775807) = true := decide_eq_true c14
         try have c14b2 : (9223372036854775807 < ((a1.extract 0 (t688 : Int).toNat) ++ t695).size + (a1.extract ((ji11) : Int).toNat a1.size).size) = False := eq_false (Nat.not_lt.2 c14)
         try (have c14b3 := c14; simp [go_sem, *] at c14b3; have c14b4 := eq_false (Nat.not_lt.2 c14b3); clear c14b3)
         simp only [Option.some.injEq, Prod.mk.injEq] at H
         obtain ⟨rfl, rfl⟩ := H
         go_enter Try.func37, Try.ntmps37
         try go_wp2_with (first | ((with_reducible refine gate_callee (f := 36) rfl ?_); refine gl 10 Try.func36 #[.pointer (some ⟨g, 0, none⟩), .int .i64 (wrap64 ((a1.size : Int) + 1))] ?_; (with_reducible refine (spec_l20Rd_pick.calls k g s0_0 s0_1 (wrap64 ((a1.size : Int) + 1)) t688 t689 w0 _ ?side1 ?side2 A3.out).mono ?_); (case side1 => exact zI24HI0); (case side2 => exact zB24HI0); rintro e w15 ⟨rfl, hi, hb, hk⟩; refine ⟨_, rfl, ?_⟩; replace HK := Aside0.mk (KeepBut.trans zK24 hk (.inl rfl)); replace HB := Aside0.mk hb; replace HI0 := Aside0.mk hi; (try clear hb); (try clear hb2); (try clear hk); (try clear hi)) | ((with_reducible refine gate_callee (f := 36) rfl ?_); refine gl 12 Try.func36 #[.pointer (some ⟨g, 0, none⟩), .int .i64 5] ?_; (with_reducible refine (spec_l20Rd_pick.calls k g s0_0 t689 5 t690 t691 w0 _ ?side1 ?side2 A4.out).mono ?_); (case side1 => exact zI24HI0); (case side2 => exact zB24HI0); rintro e w16 ⟨rfl, hi, hb, hk⟩; refine ⟨_, rfl, ?_⟩; replace HK := Aside0.mk (KeepBut.trans zK24 hk (.inl rfl)); replace HB := Aside0.mk hb; replace HI0 := Aside0.mk hi; (try clear hb); (try clear hb2); (try clear hk); (try clear hi)))
         replace HI0 := Aside0.mk (IsS69.drew HI0.out)
         replace HK := Aside0.mk (keep_drew HK.out)
         replace HB := Aside0.mk (below_drew1 HB.out)
         refine start_ (n := 13) (S := fun w' => True) (ds := []) #[false, false, false, false, false, false, false, false, false, false, false, false, false] (by kernel_rfl) rfl rfl trivial (fun hHeld => ?_); refine with_tabW spec_l20Bent.tab5 spec_l20Bent.bits5 (fun HT_ HW_ => ?_)
         generalize w16.drew = w17 at HI0 HK HB hHeld ⊢
         refine pz 0 19 ?_
         refine pz 1 20 ?_
         refine pz 2 21 ?_
         refine pz 3 22 ?_
         refine pz 7 26 ?_
         refine pz 8 27 ?_
         refine pz 9 28 ?_
         refine pz 10 29 ?_
         refine oz 4 23 fun K hK => ?_
         refine Kd.R_lit_step Kd.string _ 9 ?hg (N := 23) ?hd (xs := ([(⟨#[0]⟩ : ByteArray), (⟨#[49]⟩ : ByteArray), (⟨#[255]⟩ : ByteArray), (⟨#[32]⟩ : ByteArray), (⟨#[114]⟩ : ByteArray), (⟨#[16]⟩ : ByteArray)] : List ByteArray)) (inner := [.string (⟨#[0]⟩ : ByteArray), .string (⟨#[49]⟩ : ByteArray), .string (⟨#[255]⟩ : ByteArray), .string (⟨#[32]⟩ : ByteArray), .string (⟨#[114]⟩ : ByteArray), .string (⟨#[16]⟩ : ByteArray)]) (ok := fun _ => True) (okp := fun _ => True) ?hr ?hp (fun _ hk => hk) trivial (Below.refl _ _) (Nat.le_refl _) (by simp) ?_; (case hd => rfl); (case hg => rfl); (case hr => first | (go_simp; done) | (go_simp; rfl)); (case hp => exact (Reps.one (show Kd.M Kd.string _ _ _ (⟨#[0]⟩ : ByteArray) [.string (⟨#[0]⟩ : ByteArray)] from rfl) (Reps.one (show Kd.M Kd.string _ _ _ (⟨#[49]⟩ : ByteArray) [.string (⟨#[49]⟩ : ByteArray)] from rfl) (Reps.one (show Kd.M Kd.string _ _ _ (⟨#[255]⟩ : ByteArray) [.string (⟨#[255]⟩ : ByteArray)] from rfl) (Reps.one (show Kd.M Kd.string _ _ _ (⟨#[32]⟩ : ByteArray) [.string (⟨#[32]⟩ : ByteArray)] from rfl) (Reps.one (show Kd.M Kd.string _ _ _ (⟨#[114]⟩ : ByteArray) [.string (⟨#[114]⟩ : ByteArray)] from rfl) (Reps.one (show Kd.M Kd.string _ _ _ (⟨#[16]⟩ : ByteArray) [.string (⟨#[16]⟩ : ByteArray)] from rfl) (Reps.none _ _))))))))
         intro v693 w18 ho19 hb hg_ hnew_
         clear hg_ hnew_
         (first | rw [← Ny692.out] at ho19 | (simp only [Int.reduceToNat] at ho19; rw [← Ny692.out] at ho19))
         have HO694 := Aside0.mk (Kd.R_lower ho19 (keep_size (w := w) (g := g) (row := none) zK24))
         replace HK := Aside0.mk (KeepBut.trans zK24 (KeepBut.of_below hb g none) (.inl rfl))
         replace HB := Aside0.mk (below_step (zB24HI0) hb)
         replace HI0 := Aside0.mk (IsS69.below zI24HI0 hb)
         clear hb ho19
         obtain ⟨Ao20, co20, eo20⟩ := Kd.R_slice HO694.out
         (first | subst eo20 | (injection eo20 with f1_ f2_ f3_; have f4_ := f1_.symm; have f5_ := f3_.symm; clear f1_ f2_ f3_; subst f4_; subst f5_))
         refine hK.out _ _ trivial (fun hHeld => ?_)
         clear hK K
         refine nz ?_
         refine oz 5 24 fun K hK => ?_
         refine gz Try.func55 #[.pointer (some ⟨g, 0, none⟩), .slice Ao20 y692.length co20] ?_
         with_reducible refine (spec_l20Rd_of.calls k g s0_0 t691 _ _ y692 t695 t696 w0 _ ?side1 ?side2 ?side3 ?side4 ?side5 A9.out).mono ?_
         (case side1 => exact zI24HI0)
         (case side2 => exact zB24HI0)
         (case side3 => repeat (first | exact (Kd.R_reads' HO694.out).2.2 | (with_reducible refine Kd.C_alloc ?_ _) | (with_reducible refine Kd.C_drewN ?_ _) | (with_reducible refine Kd.C_drew ?_)))
         (case side4 => exact (Kd.R_reads' HO694.out).2.1)
         (case side5 => exact far_slice (IsS69.own_ne HI0.out HO694.out (by decide)))
         rintro e w21 ⟨rfl, hi, hb, hk⟩
         refine ⟨_, rfl, ?_⟩
         replace HO694 := Aside0.mk (Kd.R_mono (Kd.R_keep (IsS69.apart (show IsS69 w0 _ g s0_0 t691 from zI24HI0) (by (with_reducible repeat (first | apply Kd.R_alloc | apply Kd.R_drewN | apply Kd.R_drew)); exact HO694.out) (by decide)) hk (fun _ h => h.2)) (fun _ h => h.1))
         replace HK := Aside0.mk (KeepBut.trans zK24 hk (.inl rfl))
         replace HB := Aside0.mk hb
         replace HI0 := Aside0.mk hi
         (try clear hb)
         (try clear hi)
         refine hK.out _ _ trivial (fun hHeld => ?_)
         clear hK K
         refine nz ?_
         refine pz 6 25 ?_
         refine pz 11 30 ?_
         refine pz 12 4 ?_
         refine done_ (done_of HT_.out (by kernel_rfl)) ?_
         try go_wp2
         go_ret
         exact ⟨by first | rfl | (simp [errW_none, errW_some] <;> rfl) | (simp only [← hji11]; first | rfl | (simp [errW_none, errW_some] <;> rfl)) | (simp [*, errW_none, errW_some] <;> rfl), zI24HI0, zB24HI0, zK24⟩
        ·rw [if_neg c14] at H
         exact absurd H (by simp)
       ·rw [if_neg c13] at H
        exact absurd H (by simp)
      ·rw [if_neg c12] at H
       exact absurd H (by simp)
     ·rw [if_neg c10] at H
      exact absurd H (by simp)
    ·rw [if_neg c8] at H
     exact absurd H (by simp)
   ·rw [if_neg c7] at H
    exact absurd H (by simp)
  ·rw [if_neg c6] at H
   have c6b0 : decide (t688 < (a1.size : Int)) = false := decide_eq_false c6
   clear c6
   simp only [Option.some.injEq, Prod.mk.injEq] at H
   obtain ⟨rfl, rfl⟩ := H
   go_enter Try.func37, Try.ntmps37
   go_wp2_with (first | ((with_reducible refine gate_callee (f := 36) rfl ?_); refine gl 10 Try.func36 #[.pointer (some ⟨g, 0, none⟩), .int .i64 (wrap64 ((a1.size : Int) + 1))] ?_; (with_reducible refine (spec_l20Rd_pick.calls k g s0_0 s0_1 (wrap64 ((a1.size : Int) + 1)) t688 t689 w0 _ ?side1 ?side2 A3.out).mono ?_); (case side1 => exact zI24HI0); (case side2 => exact zB24HI0); rintro e w22 ⟨rfl, hi, hb, hk⟩; refine ⟨_, rfl, ?_⟩; replace HK := Aside0.mk (KeepBut.trans zK24 hk (.inl rfl)); replace HB := Aside0.mk hb; replace HI0 := Aside0.mk hi; (try clear hb); (try clear hb2); (try clear hk); (try clear hi)) | ((with_reducible refine gate_callee (f := 36) rfl ?_); refine gl 12 Try.func36 #[.pointer (some ⟨g, 0, none⟩), .int .i64 5] ?_; (with_reducible refine (spec_l20Rd_pick.calls k g s0_0 t689 5 t690 t691 w0 _ ?side1 ?side2 A4.out).mono ?_); (case side1 => exact zI24HI0); (case side2 => exact zB24HI0); rintro e w23 ⟨rfl, hi, hb, hk⟩; refine ⟨_, rfl, ?_⟩; replace HK := Aside0.mk (KeepBut.trans zK24 hk (.inl rfl)); replace HB := Aside0.mk hb; replace HI0 := Aside0.mk hi; (try clear hb); (try clear hb2); (try clear hk); (try clear hi)))
   go_ret
   exact ⟨zR, zI24HI0, zB24HI0, zK24⟩
 ·rw [if_neg c5] at H
  have c5b0 : (t690 == 0) = false := beq_eq_false_iff_ne.mpr c5
  have c5b1 : (t690 != 0) = true := bne_iff_ne.mpr c5
  by_cases c24 : t690 = 1
  ·rw [if_pos c24] at H
   have c24b0 : (t690 == 1) = true := beq_iff_eq.mpr c24
   have c24b1 : (t690 != 1) = false := bne_eq_false_iff_eq.mpr c24
   clear c24
   by_cases c25 : 0 ≤ t688
   ·rw [if_pos c25] at H
    have c25b0 := eq_true c25
    have c25b1 : decide (0 ≤ t688) = true := decide_eq_true c25
    clear c25
    by_cases c26 : t688 ≤ (a1.size : Int)
    ·rw [if_pos c26] at H
     have c26b0 := eq_true c26
     have c26b1 : decide (t688 ≤ (a1.size : Int)) = true := decide_eq_true c26
     clear c26
     simp only [Option.some.injEq, Prod.mk.injEq] at H
     obtain ⟨rfl, rfl⟩ := H
     go_enter Try.func37, Try.ntmps37
     go_wp2_with (first | ((with_reducible refine gate_callee (f := 36) rfl ?_); refine gl 10 Try.func36 #[.pointer (some ⟨g, 0, none⟩), .int .i64 (wrap64 ((a1.size : Int) + 1))] ?_; (with_reducible refine (spec_l20Rd_pick.calls k g s0_0 s0_1 (wrap64 ((a1.size : Int) + 1)) t688 t689 w0 _ ?side1 ?side2 A3.out).mono ?_); (case side1 => exact zI24HI0); (case side2 => exact zB24HI0); rintro e w27 ⟨rfl, hi, hb, hk⟩; refine ⟨_, rfl, ?_⟩; replace HK := Aside0.mk (KeepBut.trans zK24 hk (.inl rfl)); replace HB := Aside0.mk hb; replace HI0 := Aside0.mk hi; (try clear hb); (try clear hb2); (try clear hk); (try clear hi)) | ((with_reducible refine gate_callee (f := 36) rfl ?_); refine gl 12 Try.func36 #[.pointer (some ⟨g, 0, none⟩), .int .i64 5] ?_; (with_reducible refine (spec_l20Rd_pick.calls k g s0_0 t689 5 t690 t691 w0 _ ?side1 ?side2 A4.out).mono ?_); (case side1 => exact zI24HI0); (case side2 => exact zB24HI0); rintro e w28 ⟨rfl, hi, hb, hk⟩; refine ⟨_, rfl, ?_⟩; replace HK := Aside0.mk (KeepBut.trans zK24 hk (.inl rfl)); replace HB := Aside0.mk hb; replace HI0 := Aside0.mk hi; (try clear hb); (try clear hb2); (try clear hk); (try clear hi)))
     go_ret
     exact ⟨zR, zI24HI0, zB24HI0, zK24⟩
    ·rw [if_neg c26] at H
     exact absurd H (by simp)
   ·rw [if_neg c25] at H
    exact absurd H (by simp)
  ·rw [if_neg c24] at H
   have c24b0 : (t690 == 1) = false := beq_eq_false_iff_ne.mpr c24
   have c24b1 : (t690 != 1) = true := bne_iff_ne.mpr c24
   by_cases c29 : t690 = 2
   ·rw [if_pos c29] at H
    have c29b0 : (t690 == 2) = true := beq_iff_eq.mpr c29
    have c29b1 : (t690 != 2) = false := bne_eq_false_iff_eq.mpr c29
    clear c29
    obtain ⟨y697, hy697⟩ : ∃ y_ : List ByteArray, y_ = (([(⟨#[0]⟩ : ByteArray), (⟨#[32]⟩ : ByteArray), (⟨#[48]⟩ : ByteArray)] : List ByteArray)) := ⟨_, rfl⟩
    replace H : ((spec_l20Rd_of.f k s0_0 t691 y697).bind fun bt700 => (if a1.size + bt700.1.size ≤ 9223372036854775807 then (some (a1 ++ bt700.1, bt700.2)) else (none))) = some (r1, r2) := by first | (rw [hy697]; with_reducible exact H) | (have H2_ := (Option.bind_some _ _).symm.trans H; rw [hy697]; with_reducible exact H2_) | (have H2_ := (Option.bind_some _ _).symm.trans H; with_reducible exact H2_) | with_reducible exact H | (rw [hy697]; exact H) | exact H
    have Ny697 := Aside0.mk hy697
    clear hy697
    replace H := Option.bind_eq_some_iff.mp H
    obtain ⟨⟨t700, t701⟩, A300, H⟩ := H
    try dsimp only at H
    have A30 := Aside0.mk A300
    clear A300
    by_cases c31 : a1.size + t700.size ≤ 9223372036854775807
    ·rw [if_pos c31] at H
     have c31b0 := eq_true c31
     have c31b1 : decide (a1.size + t700.size ≤ 9223372036854775807) = true := decide_eq_true c31
     try have c31b2 : (9223372036854775807 < a1.size + t700.size) = False := eq_false (Nat.not_lt.2 c31)
     try (have c31b3 := c31; simp [go_sem, *] at c31b3; have c31b4 := eq_false (Nat.not_lt.2 c31b3); clear c31b3)
     simp only [Option.some.injEq, Prod.mk.injEq] at H
     obtain ⟨rfl, rfl⟩ := H
     go_enter Try.func37, Try.ntmps37
     go_wp2_with (first | ((with_reducible refine gate_callee (f := 36) rfl ?_); refine gl 10 Try.func36 #[.pointer (some ⟨g, 0, none⟩), .int .i64 (wrap64 ((a1.size : Int) + 1))] ?_; (with_reducible refine (spec_l20Rd_pick.calls k g s0_0 s0_1 (wrap64 ((a1.size : Int) + 1)) t688 t689 w0 _ ?side1 ?side2 A3.out).mono ?_); (case side1 => exact zI24HI0); (case side2 => exact zB24HI0); rintro e w32 ⟨rfl, hi, hb, hk⟩; refine ⟨_, rfl, ?_⟩; replace HK := Aside0.mk (KeepBut.trans zK24 hk (.inl rfl)); replace HB := Aside0.mk hb; replace HI0 := Aside0.mk hi; (try clear hb); (try clear hb2); (try clear hk); (try clear hi)) | ((with_reducible refine gate_callee (f := 36) rfl ?_); refine gl 12 Try.func36 #[.pointer (some ⟨g, 0, none⟩), .int .i64 5] ?_; (with_reducible refine (spec_l20Rd_pick.calls k g s0_0 t689 5 t690 t691 w0 _ ?side1 ?side2 A4.out).mono ?_); (case side1 => exact zI24HI0); (case side2 => exact zB24HI0); rintro e w33 ⟨rfl, hi, hb, hk⟩; refine ⟨_, rfl, ?_⟩; replace HK := Aside0.mk (KeepBut.trans zK24 hk (.inl rfl)); replace HB := Aside0.mk hb; replace HI0 := Aside0.mk hi; (try clear hb); (try clear hb2); (try clear hk); (try clear hi)) | ((with_reducible refine gate_dst (N := 40) rfl ?_); refine Kd.R_lit Kd.string _ 9 ?hg (N := 40) ?hd (xs := ([(⟨#[0]⟩ : ByteArray), (⟨#[32]⟩ : ByteArray), (⟨#[48]⟩ : ByteArray)] : List ByteArray)) (inner := [.string (⟨#[0]⟩ : ByteArray), .string (⟨#[32]⟩ : ByteArray), .string (⟨#[48]⟩ : ByteArray)]) (ok := fun _ => True) (okp := fun _ => True) ?hr ?hp (fun _ hk => hk) trivial (Below.refl _ _) (Nat.le_refl _) (by simp) ?_; (case hd => rfl); (case hg => rfl); (case hr => first | (go_simp; done) | (go_simp; rfl)); (case hp => exact (Reps.one (show Kd.M Kd.string _ _ _ (⟨#[0]⟩ : ByteArray) [.string (⟨#[0]⟩ : ByteArray)] from rfl) (Reps.one (show Kd.M Kd.string _ _ _ (⟨#[32]⟩ : ByteArray) [.string (⟨#[32]⟩ : ByteArray)] from rfl) (Reps.one (show Kd.M Kd.string _ _ _ (⟨#[48]⟩ : ByteArray) [.string (⟨#[48]⟩ : ByteArray)] from rfl) (Reps.none _ _))))); intro v698 w34 ho35 hb hg_ hnew_; clear hg_ hnew_; (first | rw [← Ny697.out] at ho35 | (simp only [Int.reduceToNat] at ho35; rw [← Ny697.out] at ho35)); have HO699 := Aside0.mk (Kd.R_lower ho35 (keep_size (w := w) (g := g) (row := none) zK24)); replace HK := Aside0.mk (KeepBut.trans zK24 (KeepBut.of_below hb g none) (.inl rfl)); replace HB := Aside0.mk (below_step (zB24HI0) hb); replace HI0 := Aside0.mk (IsS69.below zI24HI0 hb); clear hb ho35; obtain ⟨Ao36, co36, eo36⟩ := Kd.R_slice HO699.out; subst eo36) | ((with_reducible refine gate_callee (f := 55) rfl ?_); refine gl 41 Try.func55 #[.pointer (some ⟨g, 0, none⟩), .slice Ao36 y697.length co36] ?_; (with_reducible refine (spec_l20Rd_of.calls k g s0_0 t691 _ _ y697 t700 t701 w0 _ ?side1 ?side2 ?side3 ?side4 ?side5 A30.out).mono ?_); (case side1 => exact zI24HI0); (case side2 => exact zB24HI0); (case side3 => repeat (first | exact (Kd.R_reads' HO699.out).2.2 | (with_reducible refine Kd.C_alloc ?_ _) | (with_reducible refine Kd.C_drewN ?_ _) | (with_reducible refine Kd.C_drew ?_))); (case side4 => exact (Kd.R_reads' HO699.out).2.1); (case side5 => exact far_slice (IsS69.own_ne HI0.out HO699.out (by decide))); rintro e w37 ⟨rfl, hi, hb, hk⟩; refine ⟨_, rfl, ?_⟩; replace HO699 := Aside0.mk (Kd.R_mono (Kd.R_keep (IsS69.apart (show IsS69 w0 _ g s0_0 t691 from zI24HI0) (by (with_reducible repeat (first | apply Kd.R_alloc | apply Kd.R_drewN | apply Kd.R_drew)); exact HO699.out) (by decide)) hk (fun _ h => h.2)) (fun _ h => h.1)); replace HK := Aside0.mk (KeepBut.trans zK24 hk (.inl rfl)); replace HB := Aside0.mk hb; replace HI0 := Aside0.mk hi; (try clear hb); (try clear hb2); (try clear hk); (try clear hi)))
     go_ret
     exact ⟨zR, zI24HI0, zB24HI0, zK24⟩
    ·rw [if_neg c31] at H
     exact absurd H (by simp)
   ·rw [if_neg c29] at H
    have c29b0 : (t690 == 2) = false := beq_eq_false_iff_ne.mpr c29
    have c29b1 : (t690 != 2) = true := bne_iff_ne.mpr c29
    simp only [Option.some.injEq, Prod.mk.injEq] at H
    obtain ⟨rfl, rfl⟩ := H
    go_enter Try.func37, Try.ntmps37
    go_wp2_with (first | ((with_reducible refine gate_callee (f := 36) rfl ?_); refine gl 10 Try.func36 #[.pointer (some ⟨g, 0, none⟩), .int .i64 (wrap64 ((a1.size : Int) + 1))] ?_; (with_reducible refine (spec_l20Rd_pick.calls k g s0_0 s0_1 (wrap64 ((a1.size : Int) + 1)) t688 t689 w0 _ ?side1 ?side2 A3.out).mono ?_); (case side1 => exact zI24HI0); (case side2 => exact zB24HI0); rintro e w38 ⟨rfl, hi, hb, hk⟩; refine ⟨_, rfl, ?_⟩; replace HK := Aside0.mk (KeepBut.trans zK24 hk (.inl rfl)); replace HB := Aside0.mk hb; replace HI0 := Aside0.mk hi; (try clear hb); (try clear hb2); (try clear hk); (try clear hi)) | ((with_reducible refine gate_callee (f := 36) rfl ?_); refine gl 12 Try.func36 #[.pointer (some ⟨g, 0, none⟩), .int .i64 5] ?_; (with_reducible refine (spec_l20Rd_pick.calls k g s0_0 t689 5 t690 t691 w0 _ ?side1 ?side2 A4.out).mono ?_); (case side1 => exact zI24HI0); (case side2 => exact zB24HI0); rintro e w39 ⟨rfl, hi, hb, hk⟩; refine ⟨_, rfl, ?_⟩; replace HK := Aside0.mk (KeepBut.trans zK24 hk (.inl rfl)); replace HB := Aside0.mk hb; replace HI0 := Aside0.mk hi; (try clear hb); (try clear hb2); (try clear hk); (try clear hi)))
    go_ret
    exact ⟨zR, zI24HI0, zB24HI0, zK24⟩
def spec_DrawProgGet.f (k : Nat) (l0 : List Int) : Option (ByteArray) := (spec_l20Open.f l0).bind fun bt702 => ((spec_l20Prog.f k bt702.1 bt702.2).bind fun bt705 => ((spec_ProgPut.f k bt705.1).bind fun t709 => ((spec_l20Rd_pick.f k bt702.1 bt705.2 3).bind fun bt710 => (if bt710.1 > 0 then (some t709) else ((spec_l20Bent.f k bt702.1 bt710.2 t709).bind fun bt712 => (some bt712.1))))))
set_option maxHeartbeats 8000000 in
set_option maxRecDepth 100000 in
theorem spec_DrawProgGet.calls (k : Nat) (A0 : Option Addr) (c0 : Nat) (l0 : List Int) (r : ByteArray) (w : World) (hr0 : Kd.C (Kd.int .u8) w A0 l0.length l0) (hc0 : l0.length ≤ c0) (h : spec_DrawProgGet.f k l0 = some r) :
  Calls Try.prog 20 #[.slice A0 l0.length c0] w fun e w' => e = .returned (.string r) ∧ Below w.heap.size w w' := by
 have HR0 := Aside0.mk hr0
 have HC0 := Aside0.mk hc0
 clear hr0 hc0
 have HB := Aside0.mk (Below.refl w.heap.size w)
 have H : ((spec_l20Open.f l0).bind fun bt702 => ((spec_l20Prog.f k bt702.1 bt702.2).bind fun bt705 => ((spec_ProgPut.f k bt705.1).bind fun t709 => ((spec_l20Rd_pick.f k bt702.1 bt705.2 3).bind fun bt710 => (if bt710.1 > 0 then (some t709) else ((spec_l20Bent.f k bt702.1 bt710.2 t709).bind fun bt712 => (some bt712.1))))))) = some r := h
 clear h
 replace H := Option.bind_eq_some_iff.mp H
 obtain ⟨⟨t702, t703⟩, A20, H⟩ := H
 try dsimp only at H
 have A2 := Aside0.mk A20
 clear A20
 replace H := Option.bind_eq_some_iff.mp H
 obtain ⟨⟨t705, t708⟩, A30, H⟩ := H
 try dsimp only at H
 have A3 := Aside0.mk A30
 clear A30
 replace H := Option.bind_eq_some_iff.mp H
 obtain ⟨t709, A40, H⟩ := H
 try dsimp only at H
 have A4 := Aside0.mk A40
 clear A40
 replace H := Option.bind_eq_some_iff.mp H
 obtain ⟨⟨t710, t711⟩, A50, H⟩ := H
 try dsimp only at H
 have A5 := Aside0.mk A50
 clear A50
 by_cases c6 : t710 > 0
 ·rw [if_pos c6] at H
  have c6b0 : decide (0 < t710) = true := decide_eq_true c6
  clear c6
  obtain rfl := Option.some.inj H
  go_enter Try.func20, Try.ntmps20
  go_wp2_with (first | ((with_reducible refine gate_callee (f := 34) rfl ?_); refine gl 6 Try.func34 #[.slice A0 l0.length c0] ?_; (with_reducible refine (spec_l20Open.calls _ _ l0 t702 t703 w _ ?side1 ?side2 ?side3 A2.out).mono ?_); (case side1 => repeat (first | (with_reducible first | exact HB.out | apply below_alloc | apply pw_below_drewN | apply below_drew1) | exact HB.out)); (case side2 => exact HR0.out); (case side3 => exact HC0.out); rintro e w7 ⟨g704, rfl, hi, hb, hb2⟩; refine ⟨_, rfl, ?_⟩; replace HB := Aside0.mk hb; have HI704 := Aside0.mk hi; (try clear hb); (try clear hb2); (try clear hk); (try clear hi)) | ((with_reducible refine gate_callee (f := 35) rfl ?_); refine gl 8 Try.func35 #[.pointer (some ⟨g704, 0, none⟩)] ?_; (with_reducible refine (spec_l20Prog.calls k g704 t702 t703 t705 t708 w _ ?side1 ?side2 A3.out).mono ?_); (case side1 => exact zI24HI704); (case side2 => exact zB24HI704); rintro e w8 ⟨v706, rfl, ho0, hi, hb, hk⟩; refine ⟨_, rfl, ?_⟩; have HO707 := Aside0.mk (Kd.R_lower ho0 (below_size (zB24HI704))); replace HB := Aside0.mk hb; replace HI704 := Aside0.mk hi; (try clear hb); (try clear hb2); (try clear hk); (try clear hi); (try clear ho0); obtain ⟨Ao9, co9, eo9⟩ := Kd.R_slice HO707.out; subst eo9) | ((with_reducible refine gate_callee (f := 8) rfl ?_); refine gl 9 Try.func8 #[.slice Ao9 t705.length co9] ?_; (with_reducible refine (spec_ProgPut.calls k _ _ t705 t709 _ ?side1 ?side2 A4.out).mono ?_); (case side1 => repeat (first | exact (Kd.R_reads' HO707.out).2.2 | (with_reducible refine Kd.C_alloc ?_ _) | (with_reducible refine Kd.C_drewN ?_ _) | (with_reducible refine Kd.C_drew ?_))); (case side2 => exact (Kd.R_reads' HO707.out).2.1); rintro e w10 ⟨rfl, hb⟩; refine ⟨_, rfl, ?_⟩; replace HO707 := Aside0.mk (Kd.R_below (by (with_reducible repeat (first | apply Kd.R_alloc | apply Kd.R_drewN | apply Kd.R_drew)); exact HO707.out) hb); replace HB := Aside0.mk (below_step (zB24HI704) hb); replace HI704 := Aside0.mk (IsS69.below zI24HI704 hb); try clear hb) | ((with_reducible refine gate_callee (f := 36) rfl ?_); refine gl 11 Try.func36 #[.pointer (some ⟨g704, 0, none⟩), .int .i64 3] ?_; (with_reducible refine (spec_l20Rd_pick.calls k g704 t702 t708 3 t710 t711 w _ ?side1 ?side2 A5.out).mono ?_); (case side1 => exact zI24HI704); (case side2 => exact zB24HI704); rintro e w11 ⟨rfl, hi, hb, hk⟩; refine ⟨_, rfl, ?_⟩; replace HO707 := Aside0.mk (Kd.R_mono (Kd.R_keep (IsS69.apart (show IsS69 w _ g704 t702 t708 from zI24HI704) (by (with_reducible repeat (first | apply Kd.R_alloc | apply Kd.R_drewN | apply Kd.R_drew)); exact HO707.out) (by decide)) hk (fun _ h => h.2)) (fun _ h => h.1)); replace HB := Aside0.mk hb; replace HI704 := Aside0.mk hi; (try clear hb); (try clear hb2); (try clear hk); (try clear hi)))
  go_ret
  exact ⟨zR, zB24HI704⟩
 ·rw [if_neg c6] at H
  have c6b0 : decide (0 < t710) = false := decide_eq_false c6
  clear c6
  replace H := Option.bind_eq_some_iff.mp H
  obtain ⟨⟨t712, t713⟩, A120, H⟩ := H
  try dsimp only at H
  have A12 := Aside0.mk A120
  clear A120
  obtain rfl := Option.some.inj H
  go_enter Try.func20, Try.ntmps20
  go_wp2_with (first | ((with_reducible refine gate_callee (f := 34) rfl ?_); refine gl 6 Try.func34 #[.slice A0 l0.length c0] ?_; (with_reducible refine (spec_l20Open.calls _ _ l0 t702 t703 w _ ?side1 ?side2 ?side3 A2.out).mono ?_); (case side1 => repeat (first | (with_reducible first | exact HB.out | apply below_alloc | apply pw_below_drewN | apply below_drew1) | exact HB.out)); (case side2 => exact HR0.out); (case side3 => exact HC0.out); rintro e w13 ⟨g704, rfl, hi, hb, hb2⟩; refine ⟨_, rfl, ?_⟩; replace HB := Aside0.mk hb; have HI704 := Aside0.mk hi; (try clear hb); (try clear hb2); (try clear hk); (try clear hi)) | ((with_reducible refine gate_callee (f := 35) rfl ?_); refine gl 8 Try.func35 #[.pointer (some ⟨g704, 0, none⟩)] ?_; (with_reducible refine (spec_l20Prog.calls k g704 t702 t703 t705 t708 w _ ?side1 ?side2 A3.out).mono ?_); (case side1 => exact zI24HI704); (case side2 => exact zB24HI704); rintro e w14 ⟨v706, rfl, ho0, hi, hb, hk⟩; refine ⟨_, rfl, ?_⟩; have HO707 := Aside0.mk (Kd.R_lower ho0 (below_size (zB24HI704))); replace HB := Aside0.mk hb; replace HI704 := Aside0.mk hi; (try clear hb); (try clear hb2); (try clear hk); (try clear hi); (try clear ho0); obtain ⟨Ao15, co15, eo15⟩ := Kd.R_slice HO707.out; subst eo15) | ((with_reducible refine gate_callee (f := 8) rfl ?_); refine gl 9 Try.func8 #[.slice Ao15 t705.length co15] ?_; (with_reducible refine (spec_ProgPut.calls k _ _ t705 t709 _ ?side1 ?side2 A4.out).mono ?_); (case side1 => repeat (first | exact (Kd.R_reads' HO707.out).2.2 | (with_reducible refine Kd.C_alloc ?_ _) | (with_reducible refine Kd.C_drewN ?_ _) | (with_reducible refine Kd.C_drew ?_))); (case side2 => exact (Kd.R_reads' HO707.out).2.1); rintro e w16 ⟨rfl, hb⟩; refine ⟨_, rfl, ?_⟩; replace HO707 := Aside0.mk (Kd.R_below (by (with_reducible repeat (first | apply Kd.R_alloc | apply Kd.R_drewN | apply Kd.R_drew)); exact HO707.out) hb); replace HB := Aside0.mk (below_step (zB24HI704) hb); replace HI704 := Aside0.mk (IsS69.below zI24HI704 hb); try clear hb) | ((with_reducible refine gate_callee (f := 36) rfl ?_); refine gl 11 Try.func36 #[.pointer (some ⟨g704, 0, none⟩), .int .i64 3] ?_; (with_reducible refine (spec_l20Rd_pick.calls k g704 t702 t708 3 t710 t711 w _ ?side1 ?side2 A5.out).mono ?_); (case side1 => exact zI24HI704); (case side2 => exact zB24HI704); rintro e w17 ⟨rfl, hi, hb, hk⟩; refine ⟨_, rfl, ?_⟩; replace HO707 := Aside0.mk (Kd.R_mono (Kd.R_keep (IsS69.apart (show IsS69 w _ g704 t702 t708 from zI24HI704) (by (with_reducible repeat (first | apply Kd.R_alloc | apply Kd.R_drewN | apply Kd.R_drew)); exact HO707.out) (by decide)) hk (fun _ h => h.2)) (fun _ h => h.1)); replace HB := Aside0.mk hb; replace HI704 := Aside0.mk hi; (try clear hb); (try clear hb2); (try clear hk); (try clear hi)) | ((with_reducible refine gate_callee (f := 37) rfl ?_); refine gl 16 Try.func37 #[.pointer (some ⟨g704, 0, none⟩), .string t709] ?_; (with_reducible refine (spec_l20Bent.calls k g704 t702 t711 t709 t712 t713 w _ ?side1 ?side2 A12.out).mono ?_); (case side1 => exact zI24HI704); (case side2 => exact zB24HI704); rintro e w18 ⟨rfl, hi, hb, hk⟩; refine ⟨_, rfl, ?_⟩; replace HO707 := Aside0.mk (Kd.R_mono (Kd.R_keep (IsS69.apart (show IsS69 w _ g704 t702 t711 from zI24HI704) (by (with_reducible repeat (first | apply Kd.R_alloc | apply Kd.R_drewN | apply Kd.R_drew)); exact HO707.out) (by decide)) hk (fun _ h => h.2)) (fun _ h => h.1)); replace HB := Aside0.mk hb; replace HI704 := Aside0.mk hi; (try clear hb); (try clear hb2); (try clear hk); (try clear hi)))
  go_ret
  exact ⟨zR, zB24HI704⟩
def laws_FnProgGet.j0 : Nat → ByteArray → List (S38) → Bool → List (S38) → Bool → Bool → Option (Bool)
 | 0, _, _, _, _, _, _ => none
 | k + 1, x3, x4, x5, x6, x7, x35 => if x35 = true then (if (x5 == x7) = true then ((laws_sgProg.f k x4 x6).bind fun t724 => (some t724)) else (none)) else ((impl_ProgPut.f k x4).bind fun t725 => (if t725.toList = x3.toList then ((impl_ProgForm.f k x4).bind fun t726 => (some (t726 == 0))) else (none)))
def laws_FnProgGet.f (k : Nat) (l0 : List Int) : Option (Bool) := if (l0.length : Int) > 1048576 then (some true) else ((spec_DrawProgGet.f k l0).bind fun t714 => ((impl_ProgGet.f k t714).bind fun bt715 => ((spec_ProgGet.f k t714).bind fun bt719 => (if (bt715.2 != bt719.2) = true then (laws_FnProgGet.j0 k t714 bt715.1 bt715.2 bt719.1 bt719.2 true) else ((laws_sgProg.f k bt715.1 bt719.1).bind fun t723 => (if t723 = true then (laws_FnProgGet.j0 k t714 bt715.1 bt715.2 bt719.1 bt719.2 (!bt715.2)) else (laws_FnProgGet.j0 k t714 bt715.1 bt715.2 bt719.1 bt719.2 true)))))))
set_option maxHeartbeats 8000000 in
set_option maxRecDepth 100000 in
theorem laws_FnProgGet.calls (k : Nat) (A0 : Option Addr) (c0 : Nat) (l0 : List Int) (r : Bool) (w : World) (hr0 : Kd.C (Kd.int .u8) w A0 l0.length l0) (hc0 : l0.length ≤ c0) (h : laws_FnProgGet.f k l0 = some r) :
  Calls Try.prog 6 #[.slice A0 l0.length c0] w fun e w' => e = .returned (.bool r) ∧ Below w.heap.size w w' := by
 have HR0 := Aside0.mk hr0
 have HC0 := Aside0.mk hc0
 clear hr0 hc0
 have HB := Aside0.mk (Below.refl w.heap.size w)
 have H : (if (l0.length : Int) > 1048576 then (some true) else ((spec_DrawProgGet.f k l0).bind fun t714 => ((impl_ProgGet.f k t714).bind fun bt715 => ((spec_ProgGet.f k t714).bind fun bt719 => (if (bt715.2 != bt719.2) = true then (laws_FnProgGet.j0 k t714 bt715.1 bt715.2 bt719.1 bt719.2 true) else ((laws_sgProg.f k bt715.1 bt719.1).bind fun t723 => (if t723 = true then (laws_FnProgGet.j0 k t714 bt715.1 bt715.2 bt719.1 bt719.2 (!bt715.2)) else (laws_FnProgGet.j0 k t714 bt715.1 bt715.2 bt719.1 bt719.2 true)))))))) = some r := h
 clear h
 by_cases c2 : (l0.length : Int) > 1048576
 ·rw [if_pos c2] at H
  have c2b0 : decide (1048576 < (l0.length : Int)) = true := decide_eq_true c2
  have c2b1 : decide (1048576 < l0.length) = true := decide_eq_true (by omega)
  clear c2
  obtain rfl := Option.some.inj H
  go_enter Try.func6, Try.ntmps6
  go_wp2
  go_ret
  exact ⟨zR, zB⟩
 ·rw [if_neg c2] at H
  have c2b0 : decide (1048576 < (l0.length : Int)) = false := decide_eq_false c2
  have c2b1 : decide (1048576 < l0.length) = false := decide_eq_false (by omega)
  clear c2
  replace H := Option.bind_eq_some_iff.mp H
  obtain ⟨t714, A30, H⟩ := H
  try dsimp only at H
  have A3 := Aside0.mk A30
  clear A30
  replace H := Option.bind_eq_some_iff.mp H
  obtain ⟨⟨t715, t716⟩, A40, H⟩ := H
  try dsimp only at H
  have A4 := Aside0.mk A40
  clear A40
  replace H := Option.bind_eq_some_iff.mp H
  obtain ⟨⟨t719, t720⟩, A50, H⟩ := H
  try dsimp only at H
  have A5 := Aside0.mk A50
  clear A50
  have HC6 := Aside0.mk H
  clear H
  go_enter Try.func6, Try.ntmps6
  go_upto_region 6 with (first | ((with_reducible refine gate_callee (f := 20) rfl ?_); refine gl 12 Try.func20 #[.slice A0 l0.length c0] ?_; (with_reducible refine (spec_DrawProgGet.calls k _ _ l0 t714 _ ?side1 ?side2 A3.out).mono ?_); (case side1 => repeat (first | exact HR0.out | (with_reducible refine Kd.C_alloc ?_ _) | (with_reducible refine Kd.C_drewN ?_ _) | (with_reducible refine Kd.C_drew ?_))); (case side2 => exact HC0.out); rintro e w7 ⟨rfl, hb⟩; refine ⟨_, rfl, ?_⟩; replace HB := zS hb; try clear hb) | ((with_reducible refine gate_callee (f := 13) rfl ?_); refine gl 15 Try.func13 #[.string t714] ?_; (with_reducible refine (impl_ProgGet.calls k t714 t715 t716 _ A4.out).mono ?_); rintro e w8 ⟨v717, rfl, ho0, hb⟩; refine ⟨_, rfl, ?_⟩; have HO718 := Aside0.mk (Kd.R_lower ho0 (below_size zB)); replace HB := zS hb; (try clear hb); (try clear hb2); (try clear hk); (try clear hi); (try clear ho0)) | ((with_reducible refine gate_callee (f := 12) rfl ?_); refine gl 20 Try.func12 #[.string t714] ?_; (with_reducible refine (spec_ProgGet.calls k t714 t719 t720 _ A5.out).mono ?_); rintro e w9 ⟨v721, rfl, ho0, hb⟩; refine ⟨_, rfl, ?_⟩; have HO722 := Aside0.mk (Kd.R_lower (Kd.R_new' ho0 (Kd.R_lt (by (with_reducible repeat (first | apply Kd.R_alloc | apply Kd.R_drewN | apply Kd.R_drew)); exact HO718.out))) (below_size zB)); replace HO718 := Aside0.mk (Kd.R_elder' (by (with_reducible repeat (first | apply Kd.R_alloc | apply Kd.R_drewN | apply Kd.R_drew)); exact HO718.out) (Kd.R_base ho0) hb); replace HB := zS hb; (try clear hb); (try clear hb2); (try clear hk); (try clear hi); (try clear ho0)))
  (try simp only [Act.put, List.setIfInBounds_toArray, List.set_cons_zero, List.set_cons_succ])
  go_cut [35] (fun v35 wc => ∃ (kq : Nat) (x35_5 : Bool), v35 = .bool x35_5 ∧ Aside0 (laws_FnProgGet.j0 kq t714 t715 t716 t719 t720 x35_5 = some r) ∧ Aside0 (kq ≤ k) ∧ Aside0 (Kd.R k38 38 wc w.heap.size (fun k_ => some k_ ≠ (v721 : Value).ownBlock) v717 t715) ∧ Aside0 (Kd.R k38 38 wc w.heap.size (fun k_ => some k_ ≠ (v717 : Value).ownBlock) v721 t719) ∧ Aside0 (Below w.heap.size w wc))
  case first =>
   have H := HC6.out
   clear HC6
   by_cases c10 : (t716 != t720) = true
   ·rw [if_pos c10] at H
    have c10b0 : (t716 != t720) = true := c10
    (try (have c10b1 : decide (t716 = t720) = false := by simpa using c10))
    (try (have c10b2 : (t716 == t720) = false := by simpa using c10))
    (try (have c10b3 : ¬ (t716 = t720) := by simpa using c10))
    clear c10
    (first | rw [c10b0] | (simp only [i64_w, i32_w]; rw [c10b0]) | skip)
    have H' := Aside0.mk H
    clear H
    go_wp2
    go_meet
    case rel => exact ⟨_, (true), (by first | rfl | (simp; done) | (simp [*]; done)), H', ⟨by first | omega | exact Nat.le_refl _⟩, ⟨by (with_reducible repeat (first | apply Kd.R_alloc | apply Kd.R_drewN | apply Kd.R_drew)); exact Kd.R_mono HO718.out (fun _ hk => hk.2)⟩, ⟨by (with_reducible repeat (first | apply Kd.R_alloc | apply Kd.R_drewN | apply Kd.R_drew)); exact Kd.R_mono HO722.out (fun _ hk => hk.2)⟩, ⟨zB⟩⟩
   ·rw [if_neg c10] at H
    have c10b0 : (t716 != t720) = false := by simpa using c10
    (try (have c10b1 : decide (t716 = t720) = true := by simpa using c10))
    (try (have c10b2 : (t716 == t720) = true := by simpa using c10))
    clear c10
    (first | rw [c10b0] | (simp only [i64_w, i32_w]; rw [c10b0]) | skip)
    replace H := Option.bind_eq_some_iff.mp H
    obtain ⟨t723, A110, H⟩ := H
    try dsimp only at H
    have A11 := Aside0.mk A110
    clear A110
    by_cases c12 : t723 = true
    ·subst c12
     rw [if_pos rfl] at H
     have H' := Aside0.mk H
     clear H
     obtain ⟨Ao13, co13, eo13⟩ := Kd.R_slice HO718.out
     subst eo13
     obtain ⟨Ao14, co14, eo14⟩ := Kd.R_slice HO722.out
     subst eo14
     go_wp2_with (first | (go_at_call 19; (with_reducible refine (laws_sgProg.calls k _ _ t715 _ _ t719 true _ ?side1 ?side2 ?side3 ?side4 A11.out).mono ?_); (case side1 => repeat (first | exact (Kd.R_reads' HO718.out).2.2 | (with_reducible refine Kd.C_alloc ?_ _) | (with_reducible refine Kd.C_drewN ?_ _) | (with_reducible refine Kd.C_drew ?_))); (case side2 => exact (Kd.R_reads' HO718.out).2.1); (case side3 => repeat (first | exact (Kd.R_reads' HO722.out).2.2 | (with_reducible refine Kd.C_alloc ?_ _) | (with_reducible refine Kd.C_drewN ?_ _) | (with_reducible refine Kd.C_drew ?_))); (case side4 => exact (Kd.R_reads' HO722.out).2.1); rintro e w' ⟨rfl, ⟨nd, rfl⟩⟩))
     go_meet
     case rel => exact ⟨_, (!t716), (by first | rfl | (simp; done) | (simp [*]; done)), H', ⟨by first | omega | exact Nat.le_refl _⟩, ⟨by (with_reducible repeat (first | apply Kd.R_alloc | apply Kd.R_drewN | apply Kd.R_drew)); exact Kd.R_mono HO718.out (fun _ hk => hk.2)⟩, ⟨by (with_reducible repeat (first | apply Kd.R_alloc | apply Kd.R_drewN | apply Kd.R_drew)); exact Kd.R_mono HO722.out (fun _ hk => hk.2)⟩, ⟨zB⟩⟩
    ·replace c12 := Bool.eq_false_iff.mpr c12
     subst c12
     rw [if_neg (show ¬ (false = true) by decide)] at H
     have H' := Aside0.mk H
     clear H
     obtain ⟨Ao15, co15, eo15⟩ := Kd.R_slice HO718.out
     subst eo15
     obtain ⟨Ao16, co16, eo16⟩ := Kd.R_slice HO722.out
     subst eo16
     go_wp2_with (first | (go_at_call 19; (with_reducible refine (laws_sgProg.calls k _ _ t715 _ _ t719 false _ ?side1 ?side2 ?side3 ?side4 A11.out).mono ?_); (case side1 => repeat (first | exact (Kd.R_reads' HO718.out).2.2 | (with_reducible refine Kd.C_alloc ?_ _) | (with_reducible refine Kd.C_drewN ?_ _) | (with_reducible refine Kd.C_drew ?_))); (case side2 => exact (Kd.R_reads' HO718.out).2.1); (case side3 => repeat (first | exact (Kd.R_reads' HO722.out).2.2 | (with_reducible refine Kd.C_alloc ?_ _) | (with_reducible refine Kd.C_drewN ?_ _) | (with_reducible refine Kd.C_drew ?_))); (case side4 => exact (Kd.R_reads' HO722.out).2.1); rintro e w' ⟨rfl, ⟨nd, rfl⟩⟩))
     go_meet
     case rel => exact ⟨_, (true), (by first | rfl | (simp; done) | (simp [*]; done)), H', ⟨by first | omega | exact Nat.le_refl _⟩, ⟨by (with_reducible repeat (first | apply Kd.R_alloc | apply Kd.R_drewN | apply Kd.R_drew)); exact Kd.R_mono HO718.out (fun _ hk => hk.2)⟩, ⟨by (with_reducible repeat (first | apply Kd.R_alloc | apply Kd.R_drewN | apply Kd.R_drew)); exact Kd.R_mono HO722.out (fun _ hk => hk.2)⟩, ⟨zB⟩⟩
  case rest =>
   clear HC6
   try clear c1
   try clear c2
   try clear c2b0
   try clear c2b1
   try clear p2
   try clear c6
   try clear c10
   try clear c10b0
   try clear c10b1
   try clear c10b2
   try clear c12
   try clear c13
   obtain ⟨kq, x35_5, rfl, HA, HJ5, HO_4, HO_6, HB⟩ := hcut
   cases kq with
   | zero => exact absurd HA.out (by simp [laws_FnProgGet.j0])
   | succ kj5 =>
    have H := HA.out
    clear HA
    simp only [laws_FnProgGet.j0] at H
    by_cases c17 : x35_5 = true
    ·subst c17
     rw [if_pos rfl] at H
     by_cases c18 : (t716 == t720) = true
     ·rw [if_pos c18] at H
      have c18b0 : (t716 == t720) = true := c18
      (try (have c18b1 : decide (t716 = t720) = true := by simpa using c18))
      (try (have c18b2 : (t716 == t720) = true := by simpa using c18))
      clear c18
      replace H := Option.bind_eq_some_iff.mp H
      obtain ⟨t724, A190, H⟩ := H
      try dsimp only at H
      have A19 := Aside0.mk A190
      clear A190
      obtain rfl := Option.some.inj H
      obtain ⟨Ao20, co20, eo20⟩ := Kd.R_slice HO_4.out
      subst eo20
      obtain ⟨Ao21, co21, eo21⟩ := Kd.R_slice HO_6.out
      subst eo21
      go_wp2_with (first | (go_at_call 19; (with_reducible refine (laws_sgProg.calls kj5 _ _ t715 _ _ t719 t724 _ ?side1 ?side2 ?side3 ?side4 A19.out).mono ?_); (case side1 => repeat (first | exact (Kd.R_reads' HO_4.out).2.2 | (with_reducible refine Kd.C_alloc ?_ _) | (with_reducible refine Kd.C_drewN ?_ _) | (with_reducible refine Kd.C_drew ?_))); (case side2 => exact (Kd.R_reads' HO_4.out).2.1); (case side3 => repeat (first | exact (Kd.R_reads' HO_6.out).2.2 | (with_reducible refine Kd.C_alloc ?_ _) | (with_reducible refine Kd.C_drewN ?_ _) | (with_reducible refine Kd.C_drew ?_))); (case side4 => exact (Kd.R_reads' HO_6.out).2.1); rintro e w' ⟨rfl, ⟨nd, rfl⟩⟩))
      go_ret
      exact ⟨zR, zB⟩
     ·rw [if_neg c18] at H
      exact absurd H (by simp)
    ·replace c17 := Bool.eq_false_iff.mpr c17
     subst c17
     rw [if_neg (show ¬ (false = true) by decide)] at H
     replace H := Option.bind_eq_some_iff.mp H
     obtain ⟨t725, A220, H⟩ := H
     try dsimp only at H
     have A22 := Aside0.mk A220
     clear A220
     by_cases c23 : t725.toList = t714.toList
     ·rw [if_pos c23] at H
      have c23b0 : (t725.toList == t714.toList) = true := beq_iff_eq.mpr c23
      have c23b1 : (t725.toList != t714.toList) = false := bne_eq_false_iff_eq.mpr c23
      clear c23
      replace H := Option.bind_eq_some_iff.mp H
      obtain ⟨t726, A240, H⟩ := H
      try dsimp only at H
      have A24 := Aside0.mk A240
      clear A240
      obtain rfl := Option.some.inj H
      obtain ⟨Ao25, co25, eo25⟩ := Kd.R_slice HO_4.out
      subst eo25
      go_wp2_with (first | ((with_reducible refine gate_callee (f := 10) rfl ?_); refine gl 45 Try.func10 #[.slice Ao25 t715.length co25] ?_; (with_reducible refine (impl_ProgPut.calls kj5 _ _ t715 t725 _ ?side1 ?side2 A22.out).mono ?_); (case side1 => repeat (first | exact (Kd.R_reads' HO_4.out).2.2 | (with_reducible refine Kd.C_alloc ?_ _) | (with_reducible refine Kd.C_drewN ?_ _) | (with_reducible refine Kd.C_drew ?_))); (case side2 => exact (Kd.R_reads' HO_4.out).2.1); rintro e w26 ⟨rfl, hb⟩; refine ⟨_, rfl, ?_⟩; replace HO_4 := Aside0.mk (Kd.R_below (by (with_reducible repeat (first | apply Kd.R_alloc | apply Kd.R_drewN | apply Kd.R_drew)); exact HO_4.out) hb); replace HO_6 := Aside0.mk (Kd.R_below (by (with_reducible repeat (first | apply Kd.R_alloc | apply Kd.R_drewN | apply Kd.R_drew)); exact HO_6.out) hb); replace HB := zS hb; try clear hb) | (go_at_call 17; (with_reducible refine (impl_ProgForm.calls kj5 _ _ t715 t726 _ ?side1 ?side2 A24.out).mono ?_); (case side1 => repeat (first | exact (Kd.R_reads' HO_4.out).2.2 | (with_reducible refine Kd.C_alloc ?_ _) | (with_reducible refine Kd.C_drewN ?_ _) | (with_reducible refine Kd.C_drew ?_))); (case side2 => exact (Kd.R_reads' HO_4.out).2.1); rintro e w27 ⟨rfl, hb⟩; replace HO_4 := Aside0.mk (Kd.R_below (by (with_reducible repeat (first | apply Kd.R_alloc | apply Kd.R_drewN | apply Kd.R_drew)); exact HO_4.out) hb); replace HO_6 := Aside0.mk (Kd.R_below (by (with_reducible repeat (first | apply Kd.R_alloc | apply Kd.R_drewN | apply Kd.R_drew)); exact HO_6.out) hb); replace HB := zS hb; try clear hb))
      go_ret
      exact ⟨zR, zB⟩
     ·rw [if_neg c23] at H
      exact absurd H (by simp)
/-- THE ONE PURE STATEMENT of laws_FnProgGet: yours. -/
def laws_FnProgGet.Pure : Prop := ∀ (l0 : List Int), l0.length ≤ maxLen → l0.length * 1 ≤ 140737488351232 → (∀ x ∈ l0, (Lit.int .u8 x).wf = true) → ∃ k, laws_FnProgGet.f k l0 = some true
theorem laws_FnProgGet.walk (P : laws_FnProgGet.Pure) (a0 : Option Addr) (len0 cap0 : Nat) (z0 : List Int) (w : World) (w0 : (a0 = none ∧ len0 = 0 ∧ cap0 = 0 ∧ z0 = []) ∨ ∃ x, a0 = some x ∧ len0 ≤ cap0 ∧ cap0 ≤ maxLen ∧ z0.length = cap0 ∧ (∀ i, i < z0.length → w.cell? (x.add i) = some (.int .u8 (z0.getD i 0))) ∧ ∀ n ∈ z0, (Lit.int .u8 n).wf = true) (y0 : len0 * 1 ≤ 140737488351232) :
  Calls Try.prog 6 #[.slice a0 len0 cap0] w fun e w' => e = .returned (.bool true) ∧ Below w.heap.size w w' := by
 obtain ⟨l0, rfl, hr0, hm0, hw0, hc0⟩ := ReadsInt.ofRowC w0
 obtain ⟨k, h⟩ := P l0 hm0 y0 hw0
 refine (laws_FnProgGet.calls k _ _ l0 true w (Kd.C_of_reads (d := (0 : Int)) (h1 := fun _ => rfl) hr0) hc0 h).mono ?_
 rintro e w' ⟨rfl, hd⟩
 exact ⟨rfl, hd⟩
end Go.Proofs.Ytdfgaaeieneaoaa.Q
