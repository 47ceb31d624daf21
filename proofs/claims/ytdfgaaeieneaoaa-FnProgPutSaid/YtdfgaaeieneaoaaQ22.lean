/- The machine's side of this seat's laws: Go functions as Lean functions, and their contracts. By a program of this work over the kit's print. -/
import Derived.Test.YtdfgaaeieneaoaaQ0
import Derived.Test.YtdfgaaeieneaoaaQ5
import Derived.Test.YtdfgaaeieneaoaaQ7
import Derived.Test.YtdfgaaeieneaoaaQ11
import Derived.Test.YtdfgaaeieneaoaaQ13
import Derived.Test.YtdfgaaeieneaoaaQ21
import Derived.Test.YtdfgaaeieneaoaaQ23
namespace Go.Proofs.Ytdfgaaeieneaoaa.Q
open Go.RowKit Go.Proofs.YtdfgaaeieneaoaaW.PrintWords Go.Proofs.YtdfgaaeieneaoaaW.PrintLast Go.Proofs.YtdfgaaeieneaoaaW.PrintMore
attribute [local go_sem] max2_int min2_int max_two min_two max_three min_three max_four min_four Go.Proofs.YtdfgaaeieneaoaaN.not_i64 Go.Proofs.YtdfgaaeieneaoaaN.isSome_setCell   -- for this text's walks alone
set_option linter.unusedVariables false
set_option linter.unusedSimpArgs false
theorem dz22 {p : Prop} [Decidable p] (h : decide p = true := by first | (with_reducible assumption) | assumption) : p := of_decide_eq_true h
theorem zI22HI652 {w0 W : World} {g : Nat} {f0 : List Int} {f1 : Int} (h : IsS69 w0 W g f0 f1 := by repeat (first | (with_reducible first | exact HI652.out | apply IsS69.alloc | apply IsS69.drewN | apply IsS69.drew | apply IsS69.set_1) | exact HI652.out)) : IsS69 w0 W g f0 f1 := h
theorem zB22HI652 {b : Nat} {w W : World} (h : Below b w W := by repeat (first | (with_reducible first | exact HB.out | apply below_alloc | apply pw_below_drewN | apply below_drew1 | refine below_set ?_ (IsS69.ge HI652.out)) | exact HB.out)) : Below b w W := h
def spec_DrawProgForm.l0 : Nat → List (S38) → List Int → Int → Option ((List (S38)))
 | 0, _, _, _ => none
 | k + 1, x4, x653000, x653001 => (spec_l20Rd_pick.f k x653000 x653001 2).bind fun bt662 => (if (x4.length : Int) < (wrap64 (48 + bt662.1)) then (if x4.length < 2932031007402 then (spec_DrawProgForm.l0 k (x4 ++ [(⟨20, 0, (-1), 0, 0, 0⟩ : S38)]) x653000 bt662.2) else (none)) else (some x4))
def spec_DrawProgForm.f (k : Nat) (l0 : List Int) : Option ((List (S38))) := (spec_l20Open.f l0).bind fun bt650 => ((spec_l20Prog.f k bt650.1 bt650.2).bind fun bt653 => ((spec_l20Rd_pick.f k bt650.1 bt653.2 8).bind fun bt657 => (if bt657.1 = 0 then (if 0 ≤ (wrap64 ((bt653.1.length : Int) - 1)) then (if (wrap64 ((bt653.1.length : Int) - 1)) ≤ (bt653.1.length : Int) then (some (bt653.1.take ((wrap64 ((bt653.1.length : Int) - 1)) : Int).toNat)) else (none)) else (none)) else (if bt657.1 = 1 then (spec_DrawProgForm.l0 k bt653.1 bt650.1 bt657.2) else (if bt657.1 = 2 then (some ([] : List (S38))) else (some bt653.1))))))
set_option maxHeartbeats 8000000 in
set_option maxRecDepth 100000 in
theorem spec_DrawProgForm.calls (k : Nat) (A0 : Option Addr) (c0 : Nat) (l0 : List Int) (r : List (S38)) (w : World) (hr0 : Kd.C (Kd.int .u8) w A0 l0.length l0) (hc0 : l0.length ≤ c0) (h : spec_DrawProgForm.f k l0 = some r) :
  Calls Try.prog 29 #[.slice A0 l0.length c0] w fun e w' => ∃ v0_ : Value, e = .returned (v0_) ∧ Kd.R k38 38 w' w.heap.size (fun _ => True) v0_ r ∧ Below w.heap.size w w' := by
 have hu38 := Try.underlying38
 have HR0 := Aside0.mk hr0
 have HC0 := Aside0.mk hc0
 clear hr0 hc0
 have HB := Aside0.mk (Below.refl w.heap.size w)
 have H : ((spec_l20Open.f l0).bind fun bt650 => ((spec_l20Prog.f k bt650.1 bt650.2).bind fun bt653 => ((spec_l20Rd_pick.f k bt650.1 bt653.2 8).bind fun bt657 => (if bt657.1 = 0 then (if 0 ≤ (wrap64 ((bt653.1.length : Int) - 1)) then (if (wrap64 ((bt653.1.length : Int) - 1)) ≤ (bt653.1.length : Int) then (some (bt653.1.take ((wrap64 ((bt653.1.length : Int) - 1)) : Int).toNat)) else (none)) else (none)) else (if bt657.1 = 1 then (spec_DrawProgForm.l0 k bt653.1 bt650.1 bt657.2) else (if bt657.1 = 2 then (some ([] : List (S38))) else (some bt653.1))))))) = some r := h
 clear h
 replace H := Option.bind_eq_some_iff.mp H
 obtain ⟨⟨t650, t651⟩, A20, H⟩ := H
 try dsimp only at H
 have A2 := Aside0.mk A20
 clear A20
 replace H := Option.bind_eq_some_iff.mp H
 obtain ⟨⟨t653, t656⟩, A30, H⟩ := H
 try dsimp only at H
 have A3 := Aside0.mk A30
 clear A30
 replace H := Option.bind_eq_some_iff.mp H
 obtain ⟨⟨t657, t658⟩, A40, H⟩ := H
 try dsimp only at H
 have A4 := Aside0.mk A40
 clear A40
 by_cases c5 : t657 = 0
 ·rw [if_pos c5] at H
  have c5b0 : (t657 == 0) = true := beq_iff_eq.mpr c5
  have c5b1 : (t657 != 0) = false := bne_eq_false_iff_eq.mpr c5
  clear c5
  obtain ⟨ji6, hji6⟩ : ∃ j_ : Int, (wrap64 ((t653.length : Int) - 1)) = j_ := ⟨_, rfl⟩
  replace H : (if 0 ≤ (ji6) then (if (ji6) ≤ (t653.length : Int) then (some (t653.take ((ji6) : Int).toNat)) else (none)) else (none)) = some r := by first | (rw [hji6] at H; exact H) | (simp only [hji6] at H ⊢; exact H)
  (try rw [hji6] at A2)
  (try rw [hji6] at A3)
  (try rw [hji6] at A4)
  have hji6w : (IntKind.i64.wrap ((t653.length : Int) - 1)) = ji6 := (i64_w _).trans hji6
  by_cases c7 : 0 ≤ (ji6)
  ·rw [if_pos c7] at H
   have c7b0 := eq_true c7
   have c7b1 : decide (0 ≤ (ji6)) = true := decide_eq_true c7
   clear c7
   by_cases c8 : (ji6) ≤ (t653.length : Int)
   ·rw [if_pos c8] at H
    have c8b0 := eq_true c8
    have c8b1 : decide ((ji6) ≤ (t653.length : Int)) = true := decide_eq_true c8
    clear c8
    obtain ⟨y659, hy659⟩ : ∃ y_ : List (S38), y_ = (t653.take ((ji6) : Int).toNat) := ⟨_, rfl⟩
    replace H : (some y659) = some r := by first | (rw [hy659]; with_reducible exact H) | (have H2_ := (Option.bind_some _ _).symm.trans H; rw [hy659]; with_reducible exact H2_) | (have H2_ := (Option.bind_some _ _).symm.trans H; with_reducible exact H2_) | with_reducible exact H | (rw [hy659]; exact H) | exact H
    have Ny659 := Aside0.mk hy659
    clear hy659
    obtain rfl := Option.some.inj H
    go_enter Try.func29, Try.ntmps29
    go_wp2_with (first | ((with_reducible refine gate_callee (f := 34) rfl ?_); refine gl 6 Try.func34 #[.slice A0 l0.length c0] ?_; (with_reducible refine (spec_l20Open.calls _ _ l0 t650 t651 w _ ?side1 ?side2 ?side3 A2.out).mono ?_); (case side1 => repeat (first | (with_reducible first | exact HB.out | apply below_alloc | apply pw_below_drewN | apply below_drew1) | exact HB.out)); (case side2 => exact HR0.out); (case side3 => exact HC0.out); rintro e w9 ⟨g652, rfl, hi, hb, hb2⟩; refine ⟨_, rfl, ?_⟩; replace HB := Aside0.mk hb; have HI652 := Aside0.mk hi; (try clear hb); (try clear hb2); (try clear hk); (try clear hi)) | ((with_reducible refine gate_callee (f := 35) rfl ?_); refine gl 8 Try.func35 #[.pointer (some ⟨g652, 0, none⟩)] ?_; (with_reducible refine (spec_l20Prog.calls k g652 t650 t651 t653 t656 w _ ?side1 ?side2 A3.out).mono ?_); (case side1 => exact zI22HI652); (case side2 => exact zB22HI652); rintro e w10 ⟨v654, rfl, ho0, hi, hb, hk⟩; refine ⟨_, rfl, ?_⟩; have HO655 := Aside0.mk (Kd.R_lower ho0 (below_size (zB22HI652))); replace HB := Aside0.mk hb; replace HI652 := Aside0.mk hi; (try clear hb); (try clear hb2); (try clear hk); (try clear hi); (try clear ho0)) | ((with_reducible refine gate_callee (f := 36) rfl ?_); refine gl 10 Try.func36 #[.pointer (some ⟨g652, 0, none⟩), .int .i64 8] ?_; (with_reducible refine (spec_l20Rd_pick.calls k g652 t650 t656 8 t657 t658 w _ ?side1 ?side2 A4.out).mono ?_); (case side1 => exact zI22HI652); (case side2 => exact zB22HI652); rintro e w11 ⟨rfl, hi, hb, hk⟩; refine ⟨_, rfl, ?_⟩; replace HO655 := Aside0.mk (Kd.R_mono (Kd.R_keep (IsS69.apart (show IsS69 w _ g652 t650 t656 from zI22HI652) (by (with_reducible repeat (first | apply Kd.R_alloc | apply Kd.R_drewN | apply Kd.R_drew)); exact HO655.out) (by decide)) hk (fun _ h => h.2)) (fun _ h => h.1)); replace HB := Aside0.mk hb; replace HI652 := Aside0.mk hi; (try clear hb); (try clear hb2); (try clear hk); (try clear hi); obtain ⟨Ao12, co12, eo12⟩ := Kd.R_slice HO655.out; subst eo12; have q13 : ((ji6) : Int) ≤ ((t653.length : Int) : Int) := dz22; obtain ⟨i013, hi013, _, hsz13, _⟩ := info_parts info38; have hcut13 := cut_to (P := Try.prog) 25 38 .i64 Try.underlying25 hi013 Ao12 t653.length co12 (ji6) (dz22) q13 (Kd.R_reads' HO655.out).2.1; have hr13 := Kd.R_take (m := ((ji6) : Int).toNat) HO655.out (by omega); have hy13 : y659.length = ((ji6) : Int).toNat := (by rw [Ny659.out, List.length_take]; omega); rw [← Ny659.out] at hr13; rw [← hy13] at hr13 hcut13; clear hy13 hi013 hsz13 HO655; have HO661 := Aside0.mk hr13; clear hr13; replace q13 := eq_true q13))
    go_ret
    exact ⟨_, by first | rfl | (simp [errW_none, errW_some] <;> rfl) | (simp only [← hji6]; first | rfl | (simp [errW_none, errW_some] <;> rfl)) | (simp [*, errW_none, errW_some] <;> rfl), by (with_reducible repeat (first | apply Kd.R_alloc | apply Kd.R_drewN | apply Kd.R_drew)); exact HO661.out, zB22HI652⟩
   ·rw [if_neg c8] at H
    exact absurd H (by simp)
  ·rw [if_neg c7] at H
   exact absurd H (by simp)
 ·rw [if_neg c5] at H
  have c5b0 : (t657 == 0) = false := beq_eq_false_iff_ne.mpr c5
  have c5b1 : (t657 != 0) = true := bne_iff_ne.mpr c5
  by_cases c14 : t657 = 1
  ·rw [if_pos c14] at H
   have c14b0 : (t657 == 1) = true := beq_iff_eq.mpr c14
   have c14b1 : (t657 != 1) = false := bne_eq_false_iff_eq.mpr c14
   clear c14
   have H' := Aside0.mk H
   clear H
   go_enter Try.func29, Try.ntmps29
   go_wp2_with (first | ((with_reducible refine gate_callee (f := 34) rfl ?_); refine gl 6 Try.func34 #[.slice A0 l0.length c0] ?_; (with_reducible refine (spec_l20Open.calls _ _ l0 t650 t651 w _ ?side1 ?side2 ?side3 A2.out).mono ?_); (case side1 => repeat (first | (with_reducible first | exact HB.out | apply below_alloc | apply pw_below_drewN | apply below_drew1) | exact HB.out)); (case side2 => exact HR0.out); (case side3 => exact HC0.out); rintro e w15 ⟨g652, rfl, hi, hb, hb2⟩; refine ⟨_, rfl, ?_⟩; replace HB := Aside0.mk hb; have HI652 := Aside0.mk hi; (try clear hb); (try clear hb2); (try clear hk); (try clear hi)) | ((with_reducible refine gate_callee (f := 35) rfl ?_); refine gl 8 Try.func35 #[.pointer (some ⟨g652, 0, none⟩)] ?_; (with_reducible refine (spec_l20Prog.calls k g652 t650 t651 t653 t656 w _ ?side1 ?side2 A3.out).mono ?_); (case side1 => exact zI22HI652); (case side2 => exact zB22HI652); rintro e w16 ⟨v654, rfl, ho0, hi, hb, hk⟩; refine ⟨_, rfl, ?_⟩; have HO655 := Aside0.mk (Kd.R_lower ho0 (below_size (zB22HI652))); replace HB := Aside0.mk hb; replace HI652 := Aside0.mk hi; (try clear hb); (try clear hb2); (try clear hk); (try clear hi); (try clear ho0)) | ((with_reducible refine gate_callee (f := 36) rfl ?_); refine gl 10 Try.func36 #[.pointer (some ⟨g652, 0, none⟩), .int .i64 8] ?_; (with_reducible refine (spec_l20Rd_pick.calls k g652 t650 t656 8 t657 t658 w _ ?side1 ?side2 A4.out).mono ?_); (case side1 => exact zI22HI652); (case side2 => exact zB22HI652); rintro e w17 ⟨rfl, hi, hb, hk⟩; refine ⟨_, rfl, ?_⟩; replace HO655 := Aside0.mk (Kd.R_mono (Kd.R_keep (IsS69.apart (show IsS69 w _ g652 t650 t656 from zI22HI652) (by (with_reducible repeat (first | apply Kd.R_alloc | apply Kd.R_drewN | apply Kd.R_drew)); exact HO655.out) (by decide)) hk (fun _ h => h.2)) (fun _ h => h.1)); replace HB := Aside0.mk hb; replace HI652 := Aside0.mk hi; (try clear hb); (try clear hb2); (try clear hk); (try clear hi)))
   go_loopg [4] k (fun kq v4 w' => ∃ (x4_1 : List (S38)) (x653001_1 : Int), Aside0 (spec_DrawProgForm.l0 kq x4_1 t650 x653001_1 = some r) ∧ Aside0 (kq ≤ k) ∧ Aside0 (Kd.R k38 38 w' w.heap.size (fun _ => True) v4 x4_1) ∧ Aside0 (IsS69 w w' g652 t650 x653001_1) ∧ Aside0 (Below w.heap.size w w'))
   case atStart => exact ⟨(t653), (t658), H', ⟨Nat.le_refl _⟩, ⟨by (with_reducible repeat (first | apply Kd.R_alloc | apply Kd.R_drewN | apply Kd.R_drew)); exact HO655.out⟩, ⟨zI22HI652⟩, ⟨zB22HI652⟩⟩
   case round =>
    clear H'
    try clear c1
    try clear q1
    try clear c2
    try clear p2
    try clear c3
    try clear c5
    try clear c5b0
    try clear c5b1
    try clear p6
    try clear c7
    try clear c7b0
    try clear c7b1
    try clear c8
    try clear c8b0
    try clear c8b1
    try clear q13 q13
    try clear c14
    try clear c14b0
    try clear c14b1
    obtain ⟨x4_1, x653001_1, HA, HK1, HO_4, HI652, HB⟩ := hrel
    cases gk with
    | zero => exact absurd HA.out (by simp [spec_DrawProgForm.l0])
    | succ k1 =>
     have H := HA.out
     clear HA
     simp only [spec_DrawProgForm.l0] at H
     replace H := Option.bind_eq_some_iff.mp H
     obtain ⟨⟨t662, t663⟩, A180, H⟩ := H
     try dsimp only at H
     have A18 := Aside0.mk A180
     clear A180
     by_cases c19 : (x4_1.length : Int) < (wrap64 (48 + t662))
     ·rw [if_pos c19] at H
      have c19b0 : decide ((x4_1.length : Int) < (wrap64 (48 + t662))) = true := decide_eq_true c19
      clear c19
      by_cases c20 : x4_1.length < 2932031007402
      ·rw [if_pos c20] at H
       have LMc20 := Aside0.mk c20
       clear c20
       obtain ⟨y664, hy664⟩ : ∃ y_ : List (S38), y_ = (x4_1 ++ [(⟨20, 0, (-1), 0, 0, 0⟩ : S38)]) := ⟨_, rfl⟩
       replace H : (spec_DrawProgForm.l0 k1 y664 t650 t663) = some r := by first | (rw [hy664]; with_reducible exact H) | (have H2_ := (Option.bind_some _ _).symm.trans H; rw [hy664]; with_reducible exact H2_) | (have H2_ := (Option.bind_some _ _).symm.trans H; with_reducible exact H2_) | with_reducible exact H | (rw [hy664]; exact H) | exact H
       have Ny664 := Aside0.mk hy664
       clear hy664
       have H' := Aside0.mk H
       clear H
       obtain ⟨Ao21, co21, eo21⟩ := Kd.R_slice HO_4.out
       subst eo21
       go_wp2_with (first | ((with_reducible refine gate_callee (f := 36) rfl ?_); refine gl 23 Try.func36 #[.pointer (some ⟨g652, 0, none⟩), .int .i64 2] ?_; (with_reducible refine (spec_l20Rd_pick.calls k1 g652 t650 x653001_1 2 t662 t663 w _ ?side1 ?side2 A18.out).mono ?_); (case side1 => exact zI22HI652); (case side2 => exact zB22HI652); rintro e w22 ⟨rfl, hi, hb, hk⟩; refine ⟨_, rfl, ?_⟩; replace HO_4 := Aside0.mk (Kd.R_mono (Kd.R_keep (IsS69.apart (show IsS69 w _ g652 t650 x653001_1 from zI22HI652) (by (with_reducible repeat (first | apply Kd.R_alloc | apply Kd.R_drewN | apply Kd.R_drew)); exact HO_4.out) (by decide)) hk (fun _ h => h.2)) (fun _ h => h.1)); replace HB := Aside0.mk hb; replace HI652 := Aside0.mk hi; (try clear hb); (try clear hb2); (try clear hk); (try clear hi)) | ((with_reducible refine gate_builtin (b := .append) (xs := #[.tmp 26, .tmp 28]) rfl ?_); at_builtin; refine Kd.R_append k38 (w0 := w) w.heap.size rfl (.tmp 26) (.tmp 28) 25 38 (.agg #[(.int .i64 0), (.int .i64 0), (.int .i64 0), (.int .i64 0), (.int .i64 0), (.int .i64 0)]) 48 rfl Try.underlying25 info38 rfl (by decide) (by omega) (.slice Ao21 x4_1.length co21) x4_1 (⟨20, 0, (-1), 0, 0, 0⟩ : S38) [.int .i64 20, .int .i64 0, .int .i64 (-1), .int .i64 0, .int .i64 0, .int .i64 0] (fun _ => True) (fun _ => False) rfl rfl ?aP (fun _ hk => hk.elim) ?aF ?aO ?aB ?aS ?aL ?_; (case aP => exact k38_mkM _ _ _ (⟨20, 0, (-1), 0, 0, 0⟩ : S38)); (case aB => exact (zB22HI652)); (case aF => exact (fun _ _ => trivial)); (case aO => exact (by (with_reducible repeat (first | apply Kd.R_alloc | apply Kd.R_drewN | apply Kd.R_drew)); exact HO_4.out)); (case aS => exact (below_size (zB22HI652))); (case aL => have := LMc20.out; omega); intro v665 w23 ho hb hg hat; rw [← Ny664.out] at ho; have n0_ := Aside0.mk (IsS69.grown zI22HI652 hg (IsS69.own_ne HI652.out HO_4.out (by decide))); have n1_ := Aside0.mk (hb); have n2_ := Aside0.mk (ho); clear HI652; clear HB; clear HO_4; have HI652 := n0_; have HB := n1_; have HO666 := n2_; clear n0_ n1_ n2_; clear ho hb hg hat))
       go_roundg k1
       case measure => have := HK1.out; omega
       case rel => exact ⟨(y664), (t663), H', ⟨by have := HK1.out; omega⟩, ⟨by (with_reducible repeat (first | apply Kd.R_alloc | apply Kd.R_drewN | apply Kd.R_drew)); exact HO666.out⟩, ⟨zI22HI652⟩, ⟨zB22HI652⟩⟩
      ·rw [if_neg c20] at H
       exact absurd H (by simp)
     ·rw [if_neg c19] at H
      have c19b0 : decide ((x4_1.length : Int) < (wrap64 (48 + t662))) = false := decide_eq_false c19
      clear c19
      obtain rfl := Option.some.inj H
      obtain ⟨Ao24, co24, eo24⟩ := Kd.R_slice HO_4.out
      subst eo24
      go_wp2_with (first | ((with_reducible refine gate_callee (f := 36) rfl ?_); refine gl 23 Try.func36 #[.pointer (some ⟨g652, 0, none⟩), .int .i64 2] ?_; (with_reducible refine (spec_l20Rd_pick.calls k1 g652 t650 x653001_1 2 t662 t663 w _ ?side1 ?side2 A18.out).mono ?_); (case side1 => exact zI22HI652); (case side2 => exact zB22HI652); rintro e w25 ⟨rfl, hi, hb, hk⟩; refine ⟨_, rfl, ?_⟩; replace HO_4 := Aside0.mk (Kd.R_mono (Kd.R_keep (IsS69.apart (show IsS69 w _ g652 t650 x653001_1 from zI22HI652) (by (with_reducible repeat (first | apply Kd.R_alloc | apply Kd.R_drewN | apply Kd.R_drew)); exact HO_4.out) (by decide)) hk (fun _ h => h.2)) (fun _ h => h.1)); replace HB := Aside0.mk hb; replace HI652 := Aside0.mk hi; (try clear hb); (try clear hb2); (try clear hk); (try clear hi)))
      go_ret
      exact ⟨_, zR, by (with_reducible repeat (first | apply Kd.R_alloc | apply Kd.R_drewN | apply Kd.R_drew)); exact HO_4.out, zB22HI652⟩
  ·rw [if_neg c14] at H
   have c14b0 : (t657 == 1) = false := beq_eq_false_iff_ne.mpr c14
   have c14b1 : (t657 != 1) = true := bne_iff_ne.mpr c14
   by_cases c26 : t657 = 2
   ·rw [if_pos c26] at H
    have c26b0 : (t657 == 2) = true := beq_iff_eq.mpr c26
    have c26b1 : (t657 != 2) = false := bne_eq_false_iff_eq.mpr c26
    clear c26
    obtain rfl := Option.some.inj H
    go_enter Try.func29, Try.ntmps29
    go_wp2_with (first | ((with_reducible refine gate_callee (f := 34) rfl ?_); refine gl 6 Try.func34 #[.slice A0 l0.length c0] ?_; (with_reducible refine (spec_l20Open.calls _ _ l0 t650 t651 w _ ?side1 ?side2 ?side3 A2.out).mono ?_); (case side1 => repeat (first | (with_reducible first | exact HB.out | apply below_alloc | apply pw_below_drewN | apply below_drew1) | exact HB.out)); (case side2 => exact HR0.out); (case side3 => exact HC0.out); rintro e w27 ⟨g652, rfl, hi, hb, hb2⟩; refine ⟨_, rfl, ?_⟩; replace HB := Aside0.mk hb; have HI652 := Aside0.mk hi; (try clear hb); (try clear hb2); (try clear hk); (try clear hi)) | ((with_reducible refine gate_callee (f := 35) rfl ?_); refine gl 8 Try.func35 #[.pointer (some ⟨g652, 0, none⟩)] ?_; (with_reducible refine (spec_l20Prog.calls k g652 t650 t651 t653 t656 w _ ?side1 ?side2 A3.out).mono ?_); (case side1 => exact zI22HI652); (case side2 => exact zB22HI652); rintro e w28 ⟨v654, rfl, ho0, hi, hb, hk⟩; refine ⟨_, rfl, ?_⟩; have HO655 := Aside0.mk (Kd.R_lower ho0 (below_size (zB22HI652))); replace HB := Aside0.mk hb; replace HI652 := Aside0.mk hi; (try clear hb); (try clear hb2); (try clear hk); (try clear hi); (try clear ho0)) | ((with_reducible refine gate_callee (f := 36) rfl ?_); refine gl 10 Try.func36 #[.pointer (some ⟨g652, 0, none⟩), .int .i64 8] ?_; (with_reducible refine (spec_l20Rd_pick.calls k g652 t650 t656 8 t657 t658 w _ ?side1 ?side2 A4.out).mono ?_); (case side1 => exact zI22HI652); (case side2 => exact zB22HI652); rintro e w29 ⟨rfl, hi, hb, hk⟩; refine ⟨_, rfl, ?_⟩; replace HO655 := Aside0.mk (Kd.R_mono (Kd.R_keep (IsS69.apart (show IsS69 w _ g652 t650 t656 from zI22HI652) (by (with_reducible repeat (first | apply Kd.R_alloc | apply Kd.R_drewN | apply Kd.R_drew)); exact HO655.out) (by decide)) hk (fun _ h => h.2)) (fun _ h => h.1)); replace HB := Aside0.mk hb; replace HI652 := Aside0.mk hi; (try clear hb); (try clear hb2); (try clear hk); (try clear hi)))
    go_ret
    exact ⟨_, zR, by first | exact Kd.R_nil _ _ _ _ _ | exact Kd.N_nil _ _ _ _ _ | exact Kd.V_nil _ _ _ _ _ | exact Kd.Q_nil _ _ _ _ _ | exact Kd.S_nil _ _ _ _ _, zB22HI652⟩
   ·rw [if_neg c26] at H
    have c26b0 : (t657 == 2) = false := beq_eq_false_iff_ne.mpr c26
    have c26b1 : (t657 != 2) = true := bne_iff_ne.mpr c26
    obtain rfl := Option.some.inj H
    go_enter Try.func29, Try.ntmps29
    go_wp2_with (first | ((with_reducible refine gate_callee (f := 34) rfl ?_); refine gl 6 Try.func34 #[.slice A0 l0.length c0] ?_; (with_reducible refine (spec_l20Open.calls _ _ l0 t650 t651 w _ ?side1 ?side2 ?side3 A2.out).mono ?_); (case side1 => repeat (first | (with_reducible first | exact HB.out | apply below_alloc | apply pw_below_drewN | apply below_drew1) | exact HB.out)); (case side2 => exact HR0.out); (case side3 => exact HC0.out); rintro e w30 ⟨g652, rfl, hi, hb, hb2⟩; refine ⟨_, rfl, ?_⟩; replace HB := Aside0.mk hb; have HI652 := Aside0.mk hi; (try clear hb); (try clear hb2); (try clear hk); (try clear hi)) | ((with_reducible refine gate_callee (f := 35) rfl ?_); refine gl 8 Try.func35 #[.pointer (some ⟨g652, 0, none⟩)] ?_; (with_reducible refine (spec_l20Prog.calls k g652 t650 t651 t653 t656 w _ ?side1 ?side2 A3.out).mono ?_); (case side1 => exact zI22HI652); (case side2 => exact zB22HI652); rintro e w31 ⟨v654, rfl, ho0, hi, hb, hk⟩; refine ⟨_, rfl, ?_⟩; have HO655 := Aside0.mk (Kd.R_lower ho0 (below_size (zB22HI652))); replace HB := Aside0.mk hb; replace HI652 := Aside0.mk hi; (try clear hb); (try clear hb2); (try clear hk); (try clear hi); (try clear ho0)) | ((with_reducible refine gate_callee (f := 36) rfl ?_); refine gl 10 Try.func36 #[.pointer (some ⟨g652, 0, none⟩), .int .i64 8] ?_; (with_reducible refine (spec_l20Rd_pick.calls k g652 t650 t656 8 t657 t658 w _ ?side1 ?side2 A4.out).mono ?_); (case side1 => exact zI22HI652); (case side2 => exact zB22HI652); rintro e w32 ⟨rfl, hi, hb, hk⟩; refine ⟨_, rfl, ?_⟩; replace HO655 := Aside0.mk (Kd.R_mono (Kd.R_keep (IsS69.apart (show IsS69 w _ g652 t650 t656 from zI22HI652) (by (with_reducible repeat (first | apply Kd.R_alloc | apply Kd.R_drewN | apply Kd.R_drew)); exact HO655.out) (by decide)) hk (fun _ h => h.2)) (fun _ h => h.1)); replace HB := Aside0.mk hb; replace HI652 := Aside0.mk hi; (try clear hb); (try clear hb2); (try clear hk); (try clear hi)))
    go_ret
    exact ⟨_, zR, by (with_reducible repeat (first | apply Kd.R_alloc | apply Kd.R_drewN | apply Kd.R_drew)); exact HO655.out, zB22HI652⟩
def spec_DrawProgPut.f (k : Nat) (l0 : List Int) : Option ((List (S38))) := (spec_DrawProgForm.f k l0).bind fun t667 => (some t667)
set_option maxHeartbeats 8000000 in
set_option maxRecDepth 100000 in
theorem spec_DrawProgPut.calls (k : Nat) (A0 : Option Addr) (c0 : Nat) (l0 : List Int) (r : List (S38)) (w : World) (hr0 : Kd.C (Kd.int .u8) w A0 l0.length l0) (hc0 : l0.length ≤ c0) (h : spec_DrawProgPut.f k l0 = some r) :
  Calls Try.prog 16 #[.slice A0 l0.length c0] w fun e w' => ∃ v0_ : Value, e = .returned (v0_) ∧ Kd.R k38 38 w' w.heap.size (fun _ => True) v0_ r ∧ Below w.heap.size w w' := by
 have HR0 := Aside0.mk hr0
 have HC0 := Aside0.mk hc0
 clear hr0 hc0
 have HB := Aside0.mk (Below.refl w.heap.size w)
 have H : ((spec_DrawProgForm.f k l0).bind fun t667 => (some t667)) = some r := h
 clear h
 replace H := Option.bind_eq_some_iff.mp H
 obtain ⟨t667, A20, H⟩ := H
 try dsimp only at H
 have A2 := Aside0.mk A20
 clear A20
 obtain rfl := Option.some.inj H
 go_enter Try.func16, Try.ntmps16
 go_wp2_with (first | ((with_reducible refine gate_callee (f := 29) rfl ?_); refine gl 4 Try.func29 #[.slice A0 l0.length c0] ?_; (with_reducible refine (spec_DrawProgForm.calls k _ _ l0 t667 _ ?side1 ?side2 A2.out).mono ?_); (case side1 => repeat (first | exact HR0.out | (with_reducible refine Kd.C_alloc ?_ _) | (with_reducible refine Kd.C_drewN ?_ _) | (with_reducible refine Kd.C_drew ?_))); (case side2 => exact HC0.out); rintro e w3 ⟨v668, rfl, ho0, hb⟩; refine ⟨_, rfl, ?_⟩; have HO669 := Aside0.mk (Kd.R_lower ho0 (below_size zB)); replace HB := zS hb; (try clear hb); (try clear hb2); (try clear hk); (try clear hi); (try clear ho0)))
 go_ret
 exact ⟨_, zR, by (with_reducible repeat (first | apply Kd.R_alloc | apply Kd.R_drewN | apply Kd.R_drew)); exact HO669.out, zB⟩
mutual
def laws_FnProgPut.j0 : Nat → List (S38) → ByteArray → Bool → Option (Bool)
 | 0, _, _, _ => none
 | k + 1, x3, x4, x26 => if x26 = true then (none) else (if x4.toList = ([] : List UInt8) then (some true) else ((impl_ProgGet.f k x4).bind fun bt678 => (laws_FnProgPut.l0 k x3 x4 bt678.1 bt678.2 0)))
def laws_FnProgPut.l0 : Nat → List (S38) → ByteArray → List (S38) → Bool → Int → Option (Bool)
 | 0, _, _, _, _, _ => none
 | k + 1, x3, x4, x5, x6, x7 => if x7 < (x3.length : Int) then (if 0 ≤ (wrap64 (8 * x7)) then (if (wrap64 (8 * x7)) ≤ (wrap64 ((wrap64 (8 * x7)) + 8)) then (if (wrap64 ((wrap64 (8 * x7)) + 8)) ≤ (x4.size : Int) then (if 0 ≤ x7 then ((impl_InsPut.f k ((rd_T38 x3 x7).f0) ((rd_T38 x3 x7).f1) ((rd_T38 x3 x7).f2) ((rd_T38 x3 x7).f3) ((rd_T38 x3 x7).f4) ((rd_T38 x3 x7).f5)).bind fun t683 => (if (x4.extract ((wrap64 (8 * x7)) : Int).toNat ((wrap64 ((wrap64 (8 * x7)) + 8)) : Int).toNat).toList = t683.toList then (laws_FnProgPut.l0 k x3 x4 x5 x6 (wrap64 (x7 + 1))) else (none))) else (none)) else (none)) else (none)) else (none)) else (if x6 = true then ((laws_sgProg.f k x5 x3).bind fun t684 => (if t684 = true then (some ((x4.size : Int) == (wrap64 (8 * (x3.length : Int))))) else (none))) else (none))
end
def laws_FnProgPut.f (k : Nat) (l0 : List Int) : Option (Bool) := if (l0.length : Int) > 1048576 then (some true) else ((spec_DrawProgPut.f k l0).bind fun t672 => ((impl_ProgPut.f k t672).bind fun t675 => ((spec_ProgPut.f k t672).bind fun t676 => (if t675.toList = t676.toList then ((impl_ProgForm.f k t672).bind fun t677 => (laws_FnProgPut.j0 k t672 t675 ((t675.toList != ([] : List UInt8)) != (t677 == 0)))) else (laws_FnProgPut.j0 k t672 t675 true)))))
def laws_FnProgPut.T13 : Bool × List (List Nat × List Nat) := (true, [([], []), ([], []), ([1], [1]), ([], []), ([3], [3]), ([4], [4]), ([0, 2, 5], [0, 2, 5]), ([], []), ([], []), ([7, 8], [7, 8]), ([9], [9]), ([10], [10]), ([6, 11], [6, 11])])
def laws_FnProgPut.B13 : List Nat := [0, 0, 2, 0, 8, 24, 63, 0, 0, 384, 896, 1920, 4095]
theorem laws_FnProgPut.tab13 : rtab .any (opsOf Try.f5 13) = laws_FnProgPut.T13 := by kernel_rfl
theorem laws_FnProgPut.bits13 : waitsOk laws_FnProgPut.T13.2 laws_FnProgPut.B13 = true := by kernel_rfl
set_option maxHeartbeats 8000000 in
set_option maxRecDepth 100000 in
theorem laws_FnProgPut.calls (k : Nat) (A0 : Option Addr) (c0 : Nat) (l0 : List Int) (r : Bool) (w : World) (hr0 : Kd.C (Kd.int .u8) w A0 l0.length l0) (hc0 : l0.length ≤ c0) (h : laws_FnProgPut.f k l0 = some r) :
  Calls Try.prog 5 #[.slice A0 l0.length c0] w fun e w' => e = .returned (.bool r) ∧ Below w.heap.size w w' := by
 have hu38 := Try.underlying38
 have HR0 := Aside0.mk hr0
 have HC0 := Aside0.mk hc0
 clear hr0 hc0
 have HB := Aside0.mk (Below.refl w.heap.size w)
 have H : (if (l0.length : Int) > 1048576 then (some true) else ((spec_DrawProgPut.f k l0).bind fun t672 => ((impl_ProgPut.f k t672).bind fun t675 => ((spec_ProgPut.f k t672).bind fun t676 => (if t675.toList = t676.toList then ((impl_ProgForm.f k t672).bind fun t677 => (laws_FnProgPut.j0 k t672 t675 ((t675.toList != ([] : List UInt8)) != (t677 == 0)))) else (laws_FnProgPut.j0 k t672 t675 true)))))) = some r := h
 clear h
 by_cases c2 : (l0.length : Int) > 1048576
 ·rw [if_pos c2] at H
  have c2b0 : decide (1048576 < (l0.length : Int)) = true := decide_eq_true c2
  have c2b1 : decide (1048576 < l0.length) = true := decide_eq_true (by omega)
  clear c2
  obtain rfl := Option.some.inj H
  go_enter Try.func5, Try.ntmps5
  go_wp2
  go_ret
  exact ⟨zR, zB⟩
 ·rw [if_neg c2] at H
  have c2b0 : decide (1048576 < (l0.length : Int)) = false := decide_eq_false c2
  have c2b1 : decide (1048576 < l0.length) = false := decide_eq_false (by omega)
  clear c2
  replace H := Option.bind_eq_some_iff.mp H
  obtain ⟨t672, A30, H⟩ := H
  try dsimp only at H
  have A3 := Aside0.mk A30
  clear A30
  replace H := Option.bind_eq_some_iff.mp H
  obtain ⟨t675, A40, H⟩ := H
  try dsimp only at H
  have A4 := Aside0.mk A40
  clear A40
  have HC5 := Aside0.mk H
  clear H
  go_enter Try.func5, Try.ntmps5
  go_upto_region 5 with (first | ((with_reducible refine gate_callee (f := 16) rfl ?_); refine gl 12 Try.func16 #[.slice A0 l0.length c0] ?_; (with_reducible refine (spec_DrawProgPut.calls k _ _ l0 t672 _ ?side1 ?side2 A3.out).mono ?_); (case side1 => repeat (first | exact HR0.out | (with_reducible refine Kd.C_alloc ?_ _) | (with_reducible refine Kd.C_drewN ?_ _) | (with_reducible refine Kd.C_drew ?_))); (case side2 => exact HC0.out); rintro e w6 ⟨v673, rfl, ho0, hb⟩; refine ⟨_, rfl, ?_⟩; have HO674 := Aside0.mk (Kd.R_lower ho0 (below_size zB)); replace HB := zS hb; (try clear hb); (try clear hb2); (try clear hk); (try clear hi); (try clear ho0); obtain ⟨Ao7, co7, eo7⟩ := Kd.R_slice HO674.out; subst eo7) | ((with_reducible refine gate_callee (f := 10) rfl ?_); refine gl 14 Try.func10 #[.slice Ao7 t672.length co7] ?_; (with_reducible refine (impl_ProgPut.calls k _ _ t672 t675 _ ?side1 ?side2 A4.out).mono ?_); (case side1 => repeat (first | exact (Kd.R_reads' HO674.out).2.2 | (with_reducible refine Kd.C_alloc ?_ _) | (with_reducible refine Kd.C_drewN ?_ _) | (with_reducible refine Kd.C_drew ?_))); (case side2 => exact (Kd.R_reads' HO674.out).2.1); rintro e w8 ⟨rfl, hb⟩; refine ⟨_, rfl, ?_⟩; replace HO674 := Aside0.mk (Kd.R_below (by (with_reducible repeat (first | apply Kd.R_alloc | apply Kd.R_drewN | apply Kd.R_drew)); exact HO674.out) hb); replace HB := zS hb; try clear hb))
  (try simp only [Act.put, List.setIfInBounds_toArray, List.set_cons_zero, List.set_cons_succ])
  go_cut [26] (fun v26 wc => ∃ (kq : Nat) (x26_4 : Bool), v26 = .bool x26_4 ∧ Aside0 (laws_FnProgPut.j0 kq t672 t675 x26_4 = some r) ∧ Aside0 (kq ≤ k) ∧ Aside0 (Kd.R k38 38 wc w.heap.size (fun _ => True) (.slice Ao7 t672.length co7) t672) ∧ Aside0 (Below w.heap.size w wc))
  case first =>
   have H := HC5.out
   clear HC5
   replace H := Option.bind_eq_some_iff.mp H
   obtain ⟨t676, A90, H⟩ := H
   try dsimp only at H
   have A9 := Aside0.mk A90
   clear A90
   by_cases c10 : t675.toList = t676.toList
   ·rw [if_pos c10] at H
    have c10b0 : (t675.toList == t676.toList) = true := beq_iff_eq.mpr c10
    have c10b1 : (t675.toList != t676.toList) = false := bne_eq_false_iff_eq.mpr c10
    clear c10
    (first | rw [c10b0] | (simp only [i64_w, i32_w]; rw [c10b0]) | skip)
    replace H := Option.bind_eq_some_iff.mp H
    obtain ⟨t677, A110, H⟩ := H
    try dsimp only at H
    have A11 := Aside0.mk A110
    clear A110
    have H' := Aside0.mk H
    clear H
    go_wp2_with (first | ((with_reducible refine gate_callee (f := 8) rfl ?_); refine gl 17 Try.func8 #[.slice Ao7 t672.length co7] ?_; (with_reducible refine (spec_ProgPut.calls k _ _ t672 t676 _ ?side1 ?side2 A9.out).mono ?_); (case side1 => repeat (first | exact (Kd.R_reads' HO674.out).2.2 | (with_reducible refine Kd.C_alloc ?_ _) | (with_reducible refine Kd.C_drewN ?_ _) | (with_reducible refine Kd.C_drew ?_))); (case side2 => exact (Kd.R_reads' HO674.out).2.1); rintro e w12 ⟨rfl, hb⟩; refine ⟨_, rfl, ?_⟩; replace HO674 := Aside0.mk (Kd.R_below (by (with_reducible repeat (first | apply Kd.R_alloc | apply Kd.R_drewN | apply Kd.R_drew)); exact HO674.out) hb); replace HB := zS hb; try clear hb) | (go_at_call 17; (with_reducible refine (impl_ProgForm.calls k _ _ t672 t677 _ ?side1 ?side2 A11.out).mono ?_); (case side1 => repeat (first | exact (Kd.R_reads' HO674.out).2.2 | (with_reducible refine Kd.C_alloc ?_ _) | (with_reducible refine Kd.C_drewN ?_ _) | (with_reducible refine Kd.C_drew ?_))); (case side2 => exact (Kd.R_reads' HO674.out).2.1); rintro e w13 ⟨rfl, hb⟩; replace HO674 := Aside0.mk (Kd.R_below (by (with_reducible repeat (first | apply Kd.R_alloc | apply Kd.R_drewN | apply Kd.R_drew)); exact HO674.out) hb); replace HB := zS hb; try clear hb))
    go_meet
    case rel => exact ⟨_, (((t675.toList != ([] : List UInt8)) != (t677 == 0))), (by first | rfl | (rw [show ∀ l : List UInt8, (l != ([] : List UInt8)) = !l.isEmpty from fun l => by cases l <;> rfl]; rfl) | (simp; done) | (simp [*]; done)), H', ⟨by first | omega | exact Nat.le_refl _⟩, ⟨by (with_reducible repeat (first | apply Kd.R_alloc | apply Kd.R_drewN | apply Kd.R_drew)); exact HO674.out⟩, ⟨zB⟩⟩
   ·rw [if_neg c10] at H
    have c10b0 : (t675.toList == t676.toList) = false := beq_eq_false_iff_ne.mpr c10
    have c10b1 : (t675.toList != t676.toList) = true := bne_iff_ne.mpr c10
    (first | rw [c10b0] | (simp only [i64_w, i32_w]; rw [c10b0]) | skip)
    have H' := Aside0.mk H
    clear H
    go_wp2_with (first | ((with_reducible refine gate_callee (f := 8) rfl ?_); refine gl 17 Try.func8 #[.slice Ao7 t672.length co7] ?_; (with_reducible refine (spec_ProgPut.calls k _ _ t672 t676 _ ?side1 ?side2 A9.out).mono ?_); (case side1 => repeat (first | exact (Kd.R_reads' HO674.out).2.2 | (with_reducible refine Kd.C_alloc ?_ _) | (with_reducible refine Kd.C_drewN ?_ _) | (with_reducible refine Kd.C_drew ?_))); (case side2 => exact (Kd.R_reads' HO674.out).2.1); rintro e w14 ⟨rfl, hb⟩; refine ⟨_, rfl, ?_⟩; replace HO674 := Aside0.mk (Kd.R_below (by (with_reducible repeat (first | apply Kd.R_alloc | apply Kd.R_drewN | apply Kd.R_drew)); exact HO674.out) hb); replace HB := zS hb; try clear hb))
    go_meet
    case rel => exact ⟨_, (true), (by first | rfl | (simp; done) | (simp [*]; done)), H', ⟨by first | omega | exact Nat.le_refl _⟩, ⟨by (with_reducible repeat (first | apply Kd.R_alloc | apply Kd.R_drewN | apply Kd.R_drew)); exact HO674.out⟩, ⟨zB⟩⟩
  case rest =>
   clear HC5
   try clear c1
   try clear c2
   try clear c2b0
   try clear c2b1
   try clear p2
   try clear c5
   try clear c8
   try clear c10
   try clear c10b0
   try clear c10b1
   obtain ⟨kq, x26_4, rfl, HA, HJ4, HO_3, HB⟩ := hcut
   cases kq with
   | zero => exact absurd HA.out (by simp [laws_FnProgPut.j0])
   | succ kj4 =>
    have H := HA.out
    clear HA
    simp only [laws_FnProgPut.j0] at H
    by_cases c15 : x26_4 = true
    ·subst c15
     rw [if_pos rfl] at H
     exact absurd H (by simp)
    ·replace c15 := Bool.eq_false_iff.mpr c15
     subst c15
     rw [if_neg (show ¬ (false = true) by decide)] at H
     by_cases c16 : t675.toList = ([] : List UInt8)
     ·rw [if_pos c16] at H
      have c16b0 : (t675.toList == ([] : List UInt8)) = true := beq_iff_eq.mpr c16
      have c16b1 : (t675.toList != ([] : List UInt8)) = false := bne_eq_false_iff_eq.mpr c16
      clear c16
      obtain rfl := Option.some.inj H
      go_wp2
      go_ret
      exact ⟨zR, zB⟩
     ·rw [if_neg c16] at H
      have c16b0 : (t675.toList == ([] : List UInt8)) = false := beq_eq_false_iff_ne.mpr c16
      have c16b1 : (t675.toList != ([] : List UInt8)) = true := bne_iff_ne.mpr c16
      replace H := Option.bind_eq_some_iff.mp H
      obtain ⟨⟨t678, t679⟩, A170, H⟩ := H
      try dsimp only at H
      have A17 := Aside0.mk A170
      clear A170
      have H' := Aside0.mk H
      clear H
      go_wp2_with (first | ((with_reducible refine gate_callee (f := 13) rfl ?_); refine gl 31 Try.func13 #[.string t675] ?_; (with_reducible refine (impl_ProgGet.calls kj4 t675 t678 t679 _ A17.out).mono ?_); rintro e w18 ⟨v680, rfl, ho0, hb⟩; refine ⟨_, rfl, ?_⟩; have HO681 := Aside0.mk (Kd.R_lower (Kd.R_new' ho0 (Kd.R_lt (by (with_reducible repeat (first | apply Kd.R_alloc | apply Kd.R_drewN | apply Kd.R_drew)); exact HO_3.out))) (below_size zB)); replace HO_3 := Aside0.mk (Kd.R_elder' (by (with_reducible repeat (first | apply Kd.R_alloc | apply Kd.R_drewN | apply Kd.R_drew)); exact HO_3.out) (Kd.R_base ho0) hb); replace HB := zS hb; (try clear hb); (try clear hb2); (try clear hk); (try clear hi); (try clear ho0)))
      go_loopg [7] kj4 (fun kq v7 w' => ∃ (x7_2 : Int), v7 = .int .i64 x7_2 ∧ Aside0 (laws_FnProgPut.l0 kq t672 t675 t678 t679 x7_2 = some r) ∧ Aside0 (kq ≤ kj4) ∧ Aside0 (Kd.R k38 38 w' w.heap.size (fun k_ => some k_ ≠ (v680 : Value).ownBlock) (.slice Ao7 t672.length co7) t672) ∧ Aside0 (Kd.R k38 38 w' w.heap.size (fun k_ => some k_ ≠ ((.slice Ao7 t672.length co7) : Value).ownBlock) v680 t678) ∧ Aside0 (Below w.heap.size w w'))
      case atStart => exact ⟨(0), (by first | rfl | (simp; done) | (simp [*]; done)), H', ⟨Nat.le_refl _⟩, ⟨by (with_reducible repeat (first | apply Kd.R_alloc | apply Kd.R_drewN | apply Kd.R_drew)); exact Kd.R_mono HO_3.out (fun _ hk => hk.2)⟩, ⟨by (with_reducible repeat (first | apply Kd.R_alloc | apply Kd.R_drewN | apply Kd.R_drew)); exact Kd.R_mono HO681.out (fun _ hk => hk.2)⟩, ⟨zB⟩⟩
      case round =>
       clear H'
       try clear c1
       try clear c2
       try clear c2b0
       try clear c2b1
       try clear p2 p2
       try clear c5
       try clear c8
       try clear c10
       try clear c10b0
       try clear c10b1
       try clear c13
       try clear c15
       try clear c16
       try clear c16b0
       try clear c16b1
       obtain ⟨x7_2, rfl, HA, HK2, HO_3, HO_5, HB⟩ := hrel
       cases gk with
       | zero => exact absurd HA.out (by simp [laws_FnProgPut.l0])
       | succ k2 =>
        have H := HA.out
        clear HA
        simp only [laws_FnProgPut.l0] at H
        by_cases c19 : x7_2 < (t672.length : Int)
        ·rw [if_pos c19] at H
         have c19b0 : decide (x7_2 < (t672.length : Int)) = true := decide_eq_true c19
         clear c19
         obtain ⟨ji20, hji20⟩ : ∃ j_ : Int, (wrap64 (8 * x7_2)) = j_ := ⟨_, rfl⟩
         replace H : (if 0 ≤ (ji20) then (if (ji20) ≤ (wrap64 ((ji20) + 8)) then (if (wrap64 ((ji20) + 8)) ≤ (t675.size : Int) then (if 0 ≤ x7_2 then ((impl_InsPut.f k2 ((rd_T38 t672 x7_2).f0) ((rd_T38 t672 x7_2).f1) ((rd_T38 t672 x7_2).f2) ((rd_T38 t672 x7_2).f3) ((rd_T38 t672 x7_2).f4) ((rd_T38 t672 x7_2).f5)).bind fun t683 => (if (t675.extract ((ji20) : Int).toNat ((wrap64 ((ji20) + 8)) : Int).toNat).toList = t683.toList then (laws_FnProgPut.l0 k2 t672 t675 t678 t679 (wrap64 (x7_2 + 1))) else (none))) else (none)) else (none)) else (none)) else (none)) = some r := by first | (rw [hji20] at H; exact H) | (simp only [hji20] at H ⊢; exact H)
         have hji20w : (IntKind.i64.wrap (8 * x7_2)) = ji20 := (i64_w _).trans hji20
         by_cases c21 : 0 ≤ (ji20)
         ·rw [if_pos c21] at H
          have c21b0 := eq_true c21
          have c21b1 : decide (0 ≤ (ji20)) = true := decide_eq_true c21
          clear c21
          by_cases c22 : (ji20) ≤ (wrap64 ((ji20) + 8))
          ·rw [if_pos c22] at H
           have c22b0 := eq_true c22
           have c22b1 : decide ((ji20) ≤ (wrap64 ((ji20) + 8))) = true := decide_eq_true c22
           by_cases c23 : (wrap64 ((ji20) + 8)) ≤ (t675.size : Int)
           ·rw [if_pos c23] at H
            have c23b0 := eq_true c23
            have c23b1 : decide ((wrap64 ((ji20) + 8)) ≤ (t675.size : Int)) = true := decide_eq_true c23
            by_cases c24 : 0 ≤ x7_2
            ·rw [if_pos c24] at H
             have c24b0 : decide (0 ≤ x7_2) = true := decide_eq_true c24
             clear c24
             replace H := Option.bind_eq_some_iff.mp H
             obtain ⟨t683, A250, H⟩ := H
             try dsimp only at H
             have A25 := Aside0.mk A250
             clear A250
             by_cases c26 : (t675.extract ((ji20) : Int).toNat ((wrap64 ((ji20) + 8)) : Int).toNat).toList = t683.toList
             ·rw [if_pos c26] at H
              have c26b0 : ((t675.extract ((ji20) : Int).toNat ((wrap64 ((ji20) + 8)) : Int).toNat).toList == t683.toList) = true := beq_iff_eq.mpr c26
              have c26b1 : ((t675.extract ((ji20) : Int).toNat ((wrap64 ((ji20) + 8)) : Int).toNat).toList != t683.toList) = false := bne_eq_false_iff_eq.mpr c26
              clear c26
              have H' := Aside0.mk H
              clear H
              try go_wp2
              replace HO_3 := Aside0.mk (Kd.R_drew HO_3.out)
              replace HO_5 := Aside0.mk (Kd.R_drew HO_5.out)
              replace HB := Aside0.mk (below_drew1 HB.out)
              have p682 : 0 ≤ (x7_2 : Int) := dz22
              have q682 : x7_2 < (t672.length : Int) := dz22
              obtain ⟨ad682, e682, hx682_0, hx682_1, hx682_2, hx682_3, hx682_4, hx682_5⟩ := at_T38 (Kd.R_reads' HO_3.out).2.2 x7_2 p682 q682
              cases e682
              replace p682 := eq_true p682
              replace q682 := eq_true q682
              refine start_ (n := 13) (S := fun w' => w'.cell? (ad682.add ((x7_2).toNat * 6)) = some (.int .i64 ((rd_T38 t672 x7_2).f0)) ∧ w'.cell? ⟨(ad682.add ((x7_2).toNat * 6)).block, (ad682.add ((x7_2).toNat * 6)).off + 1, none⟩ = some (.int .i64 ((rd_T38 t672 x7_2).f1)) ∧ w'.cell? ⟨(ad682.add ((x7_2).toNat * 6)).block, (ad682.add ((x7_2).toNat * 6)).off + 2, none⟩ = some (.int .i64 ((rd_T38 t672 x7_2).f2)) ∧ w'.cell? ⟨(ad682.add ((x7_2).toNat * 6)).block, (ad682.add ((x7_2).toNat * 6)).off + 3, none⟩ = some (.int .i64 ((rd_T38 t672 x7_2).f3)) ∧ w'.cell? ⟨(ad682.add ((x7_2).toNat * 6)).block, (ad682.add ((x7_2).toNat * 6)).off + 4, none⟩ = some (.int .i64 ((rd_T38 t672 x7_2).f4)) ∧ w'.cell? ⟨(ad682.add ((x7_2).toNat * 6)).block, (ad682.add ((x7_2).toNat * 6)).off + 5, none⟩ = some (.int .i64 ((rd_T38 t672 x7_2).f5))) (ds := []) #[false, false, false, false, false, false, false, false, false, false, false, false, false] (by kernel_rfl) rfl rfl ⟨hx682_0, hx682_1, hx682_2, hx682_3, hx682_4, hx682_5⟩ (fun hHeld => ?_); refine with_tabW laws_FnProgPut.tab13 laws_FnProgPut.bits13 (fun HT_ HW_ => ?_)
              generalize wr.drew = w27 at HO_3 HO_5 HB hx682_0 hx682_1 hx682_2 hx682_3 hx682_4 hx682_5 hHeld ⊢
              refine pz 0 40 ?_
              refine pz 1 41 ?_
              refine pz 2 42 ?_
              refine pz 3 43 ?_
              refine pz 4 44 ?_
              refine pz 5 45 ?_
              refine pz 6 46 ?_
              refine pz 7 47 ?_
              refine pz 8 48 ?_
              refine pz 9 49 ?_
              refine tz 10 50 ?_
              refine oz 11 51 fun K hK => ?_
              refine gz Try.func18 #[.agg #[.int .i64 ((rd_T38 t672 x7_2).f0), .int .i64 ((rd_T38 t672 x7_2).f1), .int .i64 ((rd_T38 t672 x7_2).f2), .int .i64 ((rd_T38 t672 x7_2).f3), .int .i64 ((rd_T38 t672 x7_2).f4), .int .i64 ((rd_T38 t672 x7_2).f5)]] ?_
              with_reducible refine (impl_InsPut.calls k2 ((rd_T38 t672 x7_2).f0) ((rd_T38 t672 x7_2).f1) ((rd_T38 t672 x7_2).f2) ((rd_T38 t672 x7_2).f3) ((rd_T38 t672 x7_2).f4) ((rd_T38 t672 x7_2).f5) t683 _ A25.out).mono ?_
              rintro e w28 ⟨rfl, hb⟩
              have HS0_ := (hb.cell (World.block_lt_of_cell? _ _ (hHeld.1))).trans (hHeld.1)
              have HS1_ := (hb.cell (World.block_lt_of_cell? _ _ (hHeld.2.1))).trans (hHeld.2.1)
              have HS2_ := (hb.cell (World.block_lt_of_cell? _ _ (hHeld.2.2.1))).trans (hHeld.2.2.1)
              have HS3_ := (hb.cell (World.block_lt_of_cell? _ _ (hHeld.2.2.2.1))).trans (hHeld.2.2.2.1)
              have HS4_ := (hb.cell (World.block_lt_of_cell? _ _ (hHeld.2.2.2.2.1))).trans (hHeld.2.2.2.2.1)
              have HS5_ := (hb.cell (World.block_lt_of_cell? _ _ (hHeld.2.2.2.2.2))).trans (hHeld.2.2.2.2.2)
              refine ⟨_, rfl, ?_⟩
              replace HO_3 := Aside0.mk (Kd.R_below (by (with_reducible repeat (first | apply Kd.R_alloc | apply Kd.R_drewN | apply Kd.R_drew)); exact HO_3.out) hb)
              replace HO_5 := Aside0.mk (Kd.R_below (by (with_reducible repeat (first | apply Kd.R_alloc | apply Kd.R_drewN | apply Kd.R_drew)); exact HO_5.out) hb)
              replace HB := zS hb
              try clear hb
              refine hK.out _ _ ⟨HS0_, HS1_, HS2_, HS3_, HS4_, HS5_⟩ (fun hHeld => ?_)
              clear hK K
              refine nz ?_
              refine pz 12 52 ?_
              refine done_ (done_of HT_.out (by kernel_rfl)) ?_
              try go_wp2
              go_roundg k2
              case measure => have := HJ4.out; have := HK2.out; omega
              case rel => exact ⟨(wrap64 (x7_2 + 1)), (by first | rfl | (simp; done) | (simp [*]; done)), H', ⟨by have := HJ4.out; have := HK2.out; omega⟩, ⟨by (with_reducible repeat (first | apply Kd.R_alloc | apply Kd.R_drewN | apply Kd.R_drew)); exact HO_3.out⟩, ⟨by (with_reducible repeat (first | apply Kd.R_alloc | apply Kd.R_drewN | apply Kd.R_drew)); exact HO_5.out⟩, ⟨zB⟩⟩
             ·rw [if_neg c26] at H
              exact absurd H (by simp)
            ·rw [if_neg c24] at H
             exact absurd H (by simp)
           ·rw [if_neg c23] at H
            exact absurd H (by simp)
          ·rw [if_neg c22] at H
           exact absurd H (by simp)
         ·rw [if_neg c21] at H
          exact absurd H (by simp)
        ·rw [if_neg c19] at H
         have c19b0 : decide (x7_2 < (t672.length : Int)) = false := decide_eq_false c19
         clear c19
         by_cases c29 : t679 = true
         ·subst c29
          rw [if_pos rfl] at H
          replace H := Option.bind_eq_some_iff.mp H
          obtain ⟨t684, A300, H⟩ := H
          try dsimp only at H
          have A30 := Aside0.mk A300
          clear A300
          by_cases c31 : t684 = true
          ·subst c31
           rw [if_pos rfl] at H
           obtain rfl := Option.some.inj H
           obtain ⟨Ao32, co32, eo32⟩ := Kd.R_slice HO_5.out
           subst eo32
           go_wp2_with (first | (go_at_call 19; (with_reducible refine (laws_sgProg.calls k2 _ _ t678 _ _ t672 true _ ?side1 ?side2 ?side3 ?side4 A30.out).mono ?_); (case side1 => repeat (first | exact (Kd.R_reads' HO_5.out).2.2 | (with_reducible refine Kd.C_alloc ?_ _) | (with_reducible refine Kd.C_drewN ?_ _) | (with_reducible refine Kd.C_drew ?_))); (case side2 => exact (Kd.R_reads' HO_5.out).2.1); (case side3 => repeat (first | exact (Kd.R_reads' HO_3.out).2.2 | (with_reducible refine Kd.C_alloc ?_ _) | (with_reducible refine Kd.C_drewN ?_ _) | (with_reducible refine Kd.C_drew ?_))); (case side4 => exact (Kd.R_reads' HO_3.out).2.1); rintro e w' ⟨rfl, ⟨nd, rfl⟩⟩))
           go_ret
           exact ⟨zR, zB⟩
          ·replace c31 := Bool.eq_false_iff.mpr c31
           subst c31
           rw [if_neg (show ¬ (false = true) by decide)] at H
           exact absurd H (by simp)
         ·replace c29 := Bool.eq_false_iff.mpr c29
          subst c29
          rw [if_neg (show ¬ (false = true) by decide)] at H
          exact absurd H (by simp)
/-- THE ONE PURE STATEMENT of laws_FnProgPut: yours. -/
def laws_FnProgPut.Pure : Prop := ∀ (l0 : List Int), l0.length ≤ maxLen → l0.length * 1 ≤ 140737488351232 → (∀ x ∈ l0, (Lit.int .u8 x).wf = true) → ∃ k, laws_FnProgPut.f k l0 = some true
theorem laws_FnProgPut.walk (P : laws_FnProgPut.Pure) (a0 : Option Addr) (len0 cap0 : Nat) (z0 : List Int) (w : World) (w0 : (a0 = none ∧ len0 = 0 ∧ cap0 = 0 ∧ z0 = []) ∨ ∃ x, a0 = some x ∧ len0 ≤ cap0 ∧ cap0 ≤ maxLen ∧ z0.length = cap0 ∧ (∀ i, i < z0.length → w.cell? (x.add i) = some (.int .u8 (z0.getD i 0))) ∧ ∀ n ∈ z0, (Lit.int .u8 n).wf = true) (y0 : len0 * 1 ≤ 140737488351232) :
  Calls Try.prog 5 #[.slice a0 len0 cap0] w fun e w' => e = .returned (.bool true) ∧ Below w.heap.size w w' := by
 obtain ⟨l0, rfl, hr0, hm0, hw0, hc0⟩ := ReadsInt.ofRowC w0
 obtain ⟨k, h⟩ := P l0 hm0 y0 hw0
 refine (laws_FnProgPut.calls k _ _ l0 true w (Kd.C_of_reads (d := (0 : Int)) (h1 := fun _ => rfl) hr0) hc0 h).mono ?_
 rintro e w' ⟨rfl, hd⟩
 exact ⟨rfl, hd⟩
end Go.Proofs.Ytdfgaaeieneaoaa.Q
