/- The machine's side of this seat's laws: Go functions as Lean functions, and their contracts. By a program of this work over the kit's print. -/
import Derived.Test.YtjengfiaphgjbaaQ0
import Derived.Test.YtjengfiaphgjbaaQ8
import Derived.Test.YtjengfiaphgjbaaQ9
namespace Go.Proofs.Ytjengfiaphgjbaa.Q
open Go.RowKit Go.Proofs.YtjengfiaphgjbaaW.PrintWords Go.Proofs.YtjengfiaphgjbaaW.PrintLast Go.Proofs.YtjengfiaphgjbaaW.PrintMore
attribute [local go_sem] max2_int min2_int max_two min_two max_three min_three max_four min_four Go.Proofs.YtjengfiaphgjbaaN.not_i64 Go.Proofs.YtjengfiaphgjbaaN.isSome_setCell   -- for this text's walks alone
set_option linter.unusedVariables false
set_option linter.unusedSimpArgs false

/-! ### impl_branch: function 16 -/
def impl_branch.j0 : Nat → Bool → Int → Int → Int → Int → Int → Int → Int → Int → Option (Int × Int × Int × Int × Int × Int × Int × Int × Bool)
 | 0, _, _, _, _, _, _, _, _, _ => none
 | k + 1, x77, x359000, x359001, x359002, x359003, x365000, x365001, x365002, x365003 => if x77 = true then ((impl_noRange.f).bind fun bt365 => ((impl_noRange.f).bind fun bt369 => (some (bt365.1, bt365.2.1, bt365.2.2.1, bt365.2.2.2, bt369.1, bt369.2.1, bt369.2.2.1, bt369.2.2.2, false)))) else (some (x359000, x359001, x359002, x359003, x365000, x365001, x365002, x365003, true))
def impl_branch.f (k : Nat) (a0 : Int) (a1_0 : Int) (a1_1 : Int) (a1_2 : Int) (a1_3 : Int) (a2_0 : Int) (a2_1 : Int) (a2_2 : Int) (a2_3 : Int) (a3 : Bool) : Option (Int × Int × Int × Int × Int × Int × Int × Int × Bool) := (impl_Range_tidy.f a1_0 a1_1 a1_2 a1_3).bind fun bt319 => ((impl_Range_tidy.f a2_0 a2_1 a2_2 a2_3).bind fun bt323 => (if a0 = 14 then ((impl_below.f k bt319.1 bt319.2.1 bt319.2.2.1 bt319.2.2.2 bt323.1 bt323.2.1 bt323.2.2.1 bt323.2.2.2 a3).bind fun bt327 => (some (bt327.1, bt327.2.1, bt327.2.2.1, bt327.2.2.2.1, bt327.2.2.2.2.1, bt327.2.2.2.2.2.1, bt327.2.2.2.2.2.2.1, bt327.2.2.2.2.2.2.2.1, bt327.2.2.2.2.2.2.2.2))) else (if a0 = 15 then ((impl_below.f k bt323.1 bt323.2.1 bt323.2.2.1 bt323.2.2.2 bt319.1 bt319.2.1 bt319.2.2.1 bt319.2.2.2 a3).bind fun bt336 => (some (bt336.2.2.2.2.1, bt336.2.2.2.2.2.1, bt336.2.2.2.2.2.2.1, bt336.2.2.2.2.2.2.2.1, bt336.1, bt336.2.1, bt336.2.2.1, bt336.2.2.2.1, bt336.2.2.2.2.2.2.2.2))) else (if (a3 == (a0 == 12)) = true then ((impl_meet.f k bt319.1 bt319.2.1 bt319.2.2.1 bt319.2.2.2 bt323.1 bt323.2.1 bt323.2.2.1 bt323.2.2.2).bind fun bt347 => (some (bt347.1, bt347.2.1, bt347.2.2.1, bt347.2.2.2.1, bt347.1, bt347.2.1, bt347.2.2.1, bt347.2.2.2.1, bt347.2.2.2.2))) else ((impl_Range_but.f k bt319.1 bt319.2.1 bt319.2.2.1 bt319.2.2.2 bt323.1 bt323.2.1 bt323.2.2.1 bt323.2.2.2).bind fun bt353 => ((impl_Range_but.f k bt323.1 bt323.2.1 bt323.2.2.1 bt323.2.2.2 bt319.1 bt319.2.1 bt319.2.2.1 bt319.2.2.2).bind fun bt359 => (if bt353.2.2.2.2 = true then (impl_branch.j0 k (!bt359.2.2.2.2) bt353.1 bt353.2.1 bt353.2.2.1 bt353.2.2.2.1 bt359.1 bt359.2.1 bt359.2.2.1 bt359.2.2.2.1) else (impl_branch.j0 k true bt353.1 bt353.2.1 bt353.2.2.1 bt353.2.2.2.1 bt359.1 bt359.2.1 bt359.2.2.1 bt359.2.2.2.1))))))))


set_option maxHeartbeats 8000000 in
set_option maxRecDepth 100000 in
theorem impl_branch.calls (k : Nat) (a0 : Int) (a1_0 : Int) (a1_1 : Int) (a1_2 : Int) (a1_3 : Int) (a2_0 : Int) (a2_1 : Int) (a2_2 : Int) (a2_3 : Int) (a3 : Bool) (r1 : Int) (r2 : Int) (r3 : Int) (r4 : Int) (r5 : Int) (r6 : Int) (r7 : Int) (r8 : Int) (r9 : Bool) (w : World) (h : impl_branch.f k a0 a1_0 a1_1 a1_2 a1_3 a2_0 a2_1 a2_2 a2_3 a3 = some (r1, r2, r3, r4, r5, r6, r7, r8, r9)) :
  Calls Try.prog 16 #[.int .i64 a0, .agg #[.int .i64 a1_0, .int .i64 a1_1, .int .i64 a1_2, .int .i64 a1_3], .agg #[.int .i64 a2_0, .int .i64 a2_1, .int .i64 a2_2, .int .i64 a2_3], .bool a3] w fun e w' => e = .returned (.tuple #[.agg #[.int .i64 r1, .int .i64 r2, .int .i64 r3, .int .i64 r4], .agg #[.int .i64 r5, .int .i64 r6, .int .i64 r7, .int .i64 r8], .bool r9]) ∧ Below w.heap.size w w' := by
 have hu24 := Try.underlying24
 have HB := Aside0.mk (Below.refl w.heap.size w)
 have H : ((impl_Range_tidy.f a1_0 a1_1 a1_2 a1_3).bind fun bt319 => ((impl_Range_tidy.f a2_0 a2_1 a2_2 a2_3).bind fun bt323 => (if a0 = 14 then ((impl_below.f k bt319.1 bt319.2.1 bt319.2.2.1 bt319.2.2.2 bt323.1 bt323.2.1 bt323.2.2.1 bt323.2.2.2 a3).bind fun bt327 => (some (bt327.1, bt327.2.1, bt327.2.2.1, bt327.2.2.2.1, bt327.2.2.2.2.1, bt327.2.2.2.2.2.1, bt327.2.2.2.2.2.2.1, bt327.2.2.2.2.2.2.2.1, bt327.2.2.2.2.2.2.2.2))) else (if a0 = 15 then ((impl_below.f k bt323.1 bt323.2.1 bt323.2.2.1 bt323.2.2.2 bt319.1 bt319.2.1 bt319.2.2.1 bt319.2.2.2 a3).bind fun bt336 => (some (bt336.2.2.2.2.1, bt336.2.2.2.2.2.1, bt336.2.2.2.2.2.2.1, bt336.2.2.2.2.2.2.2.1, bt336.1, bt336.2.1, bt336.2.2.1, bt336.2.2.2.1, bt336.2.2.2.2.2.2.2.2))) else (if (a3 == (a0 == 12)) = true then ((impl_meet.f k bt319.1 bt319.2.1 bt319.2.2.1 bt319.2.2.2 bt323.1 bt323.2.1 bt323.2.2.1 bt323.2.2.2).bind fun bt347 => (some (bt347.1, bt347.2.1, bt347.2.2.1, bt347.2.2.2.1, bt347.1, bt347.2.1, bt347.2.2.1, bt347.2.2.2.1, bt347.2.2.2.2))) else ((impl_Range_but.f k bt319.1 bt319.2.1 bt319.2.2.1 bt319.2.2.2 bt323.1 bt323.2.1 bt323.2.2.1 bt323.2.2.2).bind fun bt353 => ((impl_Range_but.f k bt323.1 bt323.2.1 bt323.2.2.1 bt323.2.2.2 bt319.1 bt319.2.1 bt319.2.2.1 bt319.2.2.2).bind fun bt359 => (if bt353.2.2.2.2 = true then (impl_branch.j0 k (!bt359.2.2.2.2) bt353.1 bt353.2.1 bt353.2.2.1 bt353.2.2.2.1 bt359.1 bt359.2.1 bt359.2.2.1 bt359.2.2.2.1) else (impl_branch.j0 k true bt353.1 bt353.2.1 bt353.2.2.1 bt353.2.2.2.1 bt359.1 bt359.2.1 bt359.2.2.1 bt359.2.2.2.1))))))))) = some (r1, r2, r3, r4, r5, r6, r7, r8, r9) := h
 clear h
 replace H := Option.bind_eq_some_iff.mp H
 obtain ⟨⟨t319, t320, t321, t322⟩, A50, H⟩ := H
 try dsimp only at H
 have A5 := Aside0.mk A50
 clear A50
 replace H := Option.bind_eq_some_iff.mp H
 obtain ⟨⟨t323, t324, t325, t326⟩, A60, H⟩ := H
 try dsimp only at H
 have A6 := Aside0.mk A60
 clear A60
 by_cases c7 : a0 = 14
 ·rw [if_pos c7] at H
  have c7b0 : (a0 == 14) = true := beq_iff_eq.mpr c7
  have c7b1 : (a0 != 14) = false := bne_eq_false_iff_eq.mpr c7
  clear c7
  replace H := Option.bind_eq_some_iff.mp H
  obtain ⟨⟨t327, t328, t329, t330, t331, t332, t333, t334, t335⟩, A80, H⟩ := H
  try dsimp only at H
  have A8 := Aside0.mk A80
  clear A80
  simp only [Option.some.injEq, Prod.mk.injEq] at H
  obtain ⟨rfl, rfl, rfl, rfl, rfl, rfl, rfl, rfl, rfl⟩ := H
  go_enter Try.func16, Try.ntmps16
  try go_wp2_with (first | ((with_reducible refine gate_dst (N := 5) rfl ?_); refine be 5 #[.int .i64 a1_0, .int .i64 a1_1, .int .i64 a1_2, .int .i64 a1_3] 24 ?_; intro gb315 hg w9 hbox hb; have BK315 := Aside0.mk hbox; have GW315 := zW hg; replace HB := zS hb; have GE315 := GW315; clear hb hbox hg) | ((with_reducible refine gate_dst (N := 6) rfl ?_); refine be 6 #[.int .i64 a2_0, .int .i64 a2_1, .int .i64 a2_2, .int .i64 a2_3] 24 ?_; intro gb316 hg w10 hbox hb; have BK316 := Aside0.mk hbox; have GW316 := zW hg; replace HB := zS hb; have GE316 := GW316; have NB315_316 := zl BK315 hg rfl; have NB316_315 := zg BK315 hg rfl; replace BK315 := zb BK315 hb rfl; clear hb hbox hg) | ((with_reducible refine gate_dst (N := 8) rfl ?_); refine be 8 #[.int .i64 0, .int .i64 0, .int .i64 0, .int .i64 0] 24 ?_; intro gb317 hg w11 hbox hb; have BK317 := Aside0.mk hbox; have GW317 := zW hg; replace HB := zS hb; have GE317 := GW317; have NB315_317 := zl BK315 hg rfl; have NB317_315 := zg BK315 hg rfl; replace BK315 := zb BK315 hb rfl; have NB316_317 := zl BK316 hg rfl; have NB317_316 := zg BK316 hg rfl; replace BK316 := zb BK316 hb rfl; clear hb hbox hg) | ((with_reducible refine gate_dst (N := 9) rfl ?_); refine be 9 #[.int .i64 0, .int .i64 0, .int .i64 0, .int .i64 0] 24 ?_; intro gb318 hg w12 hbox hb; have BK318 := Aside0.mk hbox; have GW318 := zW hg; replace HB := zS hb; have GE318 := GW318; have NB315_318 := zl BK315 hg rfl; have NB318_315 := zg BK315 hg rfl; replace BK315 := zb BK315 hb rfl; have NB316_318 := zl BK316 hg rfl; have NB318_316 := zg BK316 hg rfl; replace BK316 := zb BK316 hb rfl; have NB317_318 := zl BK317 hg rfl; have NB318_317 := zg BK317 hg rfl; replace BK317 := zb BK317 hb rfl; clear hb hbox hg))
  replace BK315 := Aside0.mk (blk_drew BK315.out)
  replace BK316 := Aside0.mk (blk_drew BK316.out)
  replace BK317 := Aside0.mk (blk_drew BK317.out)
  replace BK318 := Aside0.mk (blk_drew BK318.out)
  replace HB := Aside0.mk (below_drew1 HB.out)
  refine start_ (n := 6) (S := fun w' => w'.cell? ⟨gb315, 0, none⟩ = some (.int .i64 a1_0) ∧ w'.cell? ⟨gb315, 1, none⟩ = some (.int .i64 a1_1) ∧ w'.cell? ⟨gb315, 2, none⟩ = some (.int .i64 a1_2) ∧ w'.cell? ⟨gb315, 3, none⟩ = some (.int .i64 a1_3) ∧ w'.cell? ⟨gb316, 0, none⟩ = some (.int .i64 a2_0) ∧ w'.cell? ⟨gb316, 1, none⟩ = some (.int .i64 a2_1) ∧ w'.cell? ⟨gb316, 2, none⟩ = some (.int .i64 a2_2) ∧ w'.cell? ⟨gb316, 3, none⟩ = some (.int .i64 a2_3)) (ds := [4, 5]) #[false, false, false, false, false, false] (by kernel_rfl) rfl rfl ⟨(blk_cell BK315.out 0).trans rfl, (blk_cell BK315.out 1).trans rfl, (blk_cell BK315.out 2).trans rfl, (blk_cell BK315.out 3).trans rfl, (blk_cell BK316.out 0).trans rfl, (blk_cell BK316.out 1).trans rfl, (blk_cell BK316.out 2).trans rfl, (blk_cell BK316.out 3).trans rfl⟩ (fun hHeld => ?_)
  generalize w12.drew = w13 at BK315 BK316 BK317 BK318 HB hHeld ⊢
  refine tz 0 20 ?_
  refine tz 2 22 ?_
  refine oz 1 21 fun K hK => ?_
  refine gz Try.func27 #[.agg #[.int .i64 a1_0, .int .i64 a1_1, .int .i64 a1_2, .int .i64 a1_3]] ?_
  with_reducible refine (impl_Range_tidy.calls a1_0 a1_1 a1_2 a1_3 t319 t320 t321 t322 _ A5.out).mono ?_
  rintro e w14 ⟨rfl, hb⟩
  refine ⟨_, rfl, ?_⟩
  replace BK315 := zb BK315 hb rfl
  replace BK316 := zb BK316 hb rfl
  replace BK317 := zb BK317 hb rfl
  replace BK318 := zb BK318 hb rfl
  replace HB := zS hb
  try clear hb
  refine hK.out _ _ ⟨(blk_cell BK315.out 0).trans rfl, (blk_cell BK315.out 1).trans rfl, (blk_cell BK315.out 2).trans rfl, (blk_cell BK315.out 3).trans rfl, (blk_cell BK316.out 0).trans rfl, (blk_cell BK316.out 1).trans rfl, (blk_cell BK316.out 2).trans rfl, (blk_cell BK316.out 3).trans rfl⟩ (fun hHeld => ?_)
  clear hK K
  refine nz ?_
  refine oz 3 23 fun K hK => ?_
  refine gz Try.func27 #[.agg #[.int .i64 a2_0, .int .i64 a2_1, .int .i64 a2_2, .int .i64 a2_3]] ?_
  with_reducible refine (impl_Range_tidy.calls a2_0 a2_1 a2_2 a2_3 t323 t324 t325 t326 _ A6.out).mono ?_
  rintro e w15 ⟨rfl, hb⟩
  refine ⟨_, rfl, ?_⟩
  replace BK315 := zb BK315 hb rfl
  replace BK316 := zb BK316 hb rfl
  replace BK317 := zb BK317 hb rfl
  replace BK318 := zb BK318 hb rfl
  replace HB := zS hb
  try clear hb
  refine hK.out _ _ ⟨(blk_cell BK315.out 0).trans rfl, (blk_cell BK315.out 1).trans rfl, (blk_cell BK315.out 2).trans rfl, (blk_cell BK315.out 3).trans rfl, (blk_cell BK316.out 0).trans rfl, (blk_cell BK316.out 1).trans rfl, (blk_cell BK316.out 2).trans rfl, (blk_cell BK316.out 3).trans rfl⟩ (fun hHeld => ?_)
  clear hK K
  refine nz ?_
  refine last_ (i := 4) (N := none) #[true, true, true, true, true, false] rfl rfl (by kernel_rfl) (by decide) (fun K hK => ?_)
  have hs16 : w15.cell? ⟨gb315, 0, none⟩ = some (.int .i64 a1_0) := (blk_cell BK315.out 0).trans rfl
  have hfs16 := blk_frozen BK315.out 0
  have hns16_1 := NB316_315.out
  have hns16_2 := NB317_315.out
  have hns16_3 := NB318_315.out
  have hms16_1 := NB315_316.out
  have hms16_2 := NB315_317.out
  have hms16_3 := NB315_318.out
  have hs17 : w15.cell? ⟨gb315, 1, none⟩ = some (.int .i64 a1_1) := (blk_cell BK315.out 1).trans rfl
  have hfs17 := blk_frozen BK315.out 1
  have hns17_1 := NB316_315.out
  have hns17_2 := NB317_315.out
  have hns17_3 := NB318_315.out
  have hms17_1 := NB315_316.out
  have hms17_2 := NB315_317.out
  have hms17_3 := NB315_318.out
  have hs18 : w15.cell? ⟨gb315, 2, none⟩ = some (.int .i64 a1_2) := (blk_cell BK315.out 2).trans rfl
  have hfs18 := blk_frozen BK315.out 2
  have hns18_1 := NB316_315.out
  have hns18_2 := NB317_315.out
  have hns18_3 := NB318_315.out
  have hms18_1 := NB315_316.out
  have hms18_2 := NB315_317.out
  have hms18_3 := NB315_318.out
  have hs19 : w15.cell? ⟨gb315, 3, none⟩ = some (.int .i64 a1_3) := (blk_cell BK315.out 3).trans rfl
  have hfs19 := blk_frozen BK315.out 3
  have hns19_1 := NB316_315.out
  have hns19_2 := NB317_315.out
  have hns19_3 := NB318_315.out
  have hms19_1 := NB315_316.out
  have hms19_2 := NB315_317.out
  have hms19_3 := NB315_318.out
  refine skip_ (w1 := ?_) (by rfl) rfl ?_ ?_
  rotate_left
  ·go_simp
   rfl
  refine hK.out _ _ ?_
  clear hK K
  refine last_ (i := 5) (N := none) #[true, true, true, true, true, true] rfl rfl (by kernel_rfl) (by decide) (fun K hK => ?_)
  have hs20 : w15.cell? ⟨gb316, 0, none⟩ = some (.int .i64 a2_0) := (blk_cell BK316.out 0).trans rfl
  have hfs20 := blk_frozen BK316.out 0
  have hns20_0 := NB315_316.out
  have hns20_2 := NB317_316.out
  have hns20_3 := NB318_316.out
  have hms20_0 := NB316_315.out
  have hms20_2 := NB316_317.out
  have hms20_3 := NB316_318.out
  have hs21 : w15.cell? ⟨gb316, 1, none⟩ = some (.int .i64 a2_1) := (blk_cell BK316.out 1).trans rfl
  have hfs21 := blk_frozen BK316.out 1
  have hns21_0 := NB315_316.out
  have hns21_2 := NB317_316.out
  have hns21_3 := NB318_316.out
  have hms21_0 := NB316_315.out
  have hms21_2 := NB316_317.out
  have hms21_3 := NB316_318.out
  have hs22 : w15.cell? ⟨gb316, 2, none⟩ = some (.int .i64 a2_2) := (blk_cell BK316.out 2).trans rfl
  have hfs22 := blk_frozen BK316.out 2
  have hns22_0 := NB315_316.out
  have hns22_2 := NB317_316.out
  have hns22_3 := NB318_316.out
  have hms22_0 := NB316_315.out
  have hms22_2 := NB316_317.out
  have hms22_3 := NB316_318.out
  have hs23 : w15.cell? ⟨gb316, 3, none⟩ = some (.int .i64 a2_3) := (blk_cell BK316.out 3).trans rfl
  have hfs23 := blk_frozen BK316.out 3
  have hns23_0 := NB315_316.out
  have hns23_2 := NB317_316.out
  have hns23_3 := NB318_316.out
  have hms23_0 := NB316_315.out
  have hms23_2 := NB316_317.out
  have hms23_3 := NB316_318.out
  refine skip_ (w1 := ?_) (by rfl) rfl ?_ ?_
  rotate_left
  ·go_simp
   rfl
  refine hK.out _ _ ?_
  clear hK K
  refine done_ (by kernel_rfl) ?_
  have hnb24 := NB315_316.out
  have hnc24 := NB316_315.out
  have hnb25 := NB315_317.out
  have hnc25 := NB317_315.out
  have hnb26 := NB315_318.out
  have hnc26 := NB318_315.out
  obtain ⟨hcz27_0, hcz27_1, hcz27_2, hcz27_3, hfz27_0, hfz27_1, hfz27_2, hfz27_3⟩ := zc4 BK315
  have hnb28 := NB316_317.out
  have hnc28 := NB317_316.out
  have hnb29 := NB316_318.out
  have hnc29 := NB318_316.out
  obtain ⟨hcz30_0, hcz30_1, hcz30_2, hcz30_3, hfz30_0, hfz30_1, hfz30_2, hfz30_3⟩ := zc4 BK316
  try go_wp2_with (first | ((with_reducible refine gate_callee (f := 28) rfl ?_); refine gl 30 Try.func28 #[.agg #[.int .i64 t319, .int .i64 t320, .int .i64 t321, .int .i64 t322], .agg #[.int .i64 t323, .int .i64 t324, .int .i64 t325, .int .i64 t326], .bool a3] ?_; (with_reducible refine (impl_below.calls k t319 t320 t321 t322 t323 t324 t325 t326 a3 t327 t328 t329 t330 t331 t332 t333 t334 t335 _ A8.out).mono ?_); rintro e w31 ⟨rfl, hb⟩; refine ⟨_, rfl, ?_⟩; replace BK315 := Aside0.mk (blk_below (g := gb315) (o := .cells #[.int .i64 t319, .int .i64 t320, .int .i64 t321, .int .i64 t322] 24 (0, 0)) (by refine fq ?_ NB315_316.out; refine fq ?_ NB315_316.out; refine fq ?_ NB315_316.out; refine fq ?_ NB315_316.out; refine bq ?_; refine blk_put (cs := #[.int .i64 t319, .int .i64 t320, .int .i64 t321, .int .i64 a1_3]) ?_ 3 _ rfl; refine bq ?_; refine blk_put (cs := #[.int .i64 t319, .int .i64 t320, .int .i64 a1_2, .int .i64 a1_3]) ?_ 2 _ rfl; refine bq ?_; refine blk_put (cs := #[.int .i64 t319, .int .i64 a1_1, .int .i64 a1_2, .int .i64 a1_3]) ?_ 1 _ rfl; refine bq ?_; refine blk_put (cs := #[.int .i64 a1_0, .int .i64 a1_1, .int .i64 a1_2, .int .i64 a1_3]) ?_ 0 _ rfl; exact bq BK315.out) hb); replace BK316 := Aside0.mk (blk_below (g := gb316) (o := .cells #[.int .i64 t323, .int .i64 t324, .int .i64 t325, .int .i64 t326] 24 (0, 0)) (by refine bq ?_; refine blk_put (cs := #[.int .i64 t323, .int .i64 t324, .int .i64 t325, .int .i64 a2_3]) ?_ 3 _ rfl; refine bq ?_; refine blk_put (cs := #[.int .i64 t323, .int .i64 t324, .int .i64 a2_2, .int .i64 a2_3]) ?_ 2 _ rfl; refine bq ?_; refine blk_put (cs := #[.int .i64 t323, .int .i64 a2_1, .int .i64 a2_2, .int .i64 a2_3]) ?_ 1 _ rfl; refine bq ?_; refine blk_put (cs := #[.int .i64 a2_0, .int .i64 a2_1, .int .i64 a2_2, .int .i64 a2_3]) ?_ 0 _ rfl; refine fq ?_ NB316_315.out; refine fq ?_ NB316_315.out; refine fq ?_ NB316_315.out; refine fq ?_ NB316_315.out; exact bq BK316.out) hb); replace BK317 := Aside0.mk (blk_below (g := gb317) (o := .cells #[.int .i64 0, .int .i64 0, .int .i64 0, .int .i64 0] 24 (0, 0)) (by refine fq ?_ NB317_316.out; refine fq ?_ NB317_316.out; refine fq ?_ NB317_316.out; refine fq ?_ NB317_316.out; refine fq ?_ NB317_315.out; refine fq ?_ NB317_315.out; refine fq ?_ NB317_315.out; refine fq ?_ NB317_315.out; exact bq BK317.out) hb); replace BK318 := Aside0.mk (blk_below (g := gb318) (o := .cells #[.int .i64 0, .int .i64 0, .int .i64 0, .int .i64 0] 24 (0, 0)) (by refine fq ?_ NB318_316.out; refine fq ?_ NB318_316.out; refine fq ?_ NB318_316.out; refine fq ?_ NB318_316.out; refine fq ?_ NB318_315.out; refine fq ?_ NB318_315.out; refine fq ?_ NB318_315.out; refine fq ?_ NB318_315.out; exact bq BK318.out) hb); replace HB := zS hb; try clear hb; have hnb32 := NB317_318.out; have hnc32 := NB318_317.out; obtain ⟨hcz33_0, hcz33_1, hcz33_2, hcz33_3, hfz33_0, hfz33_1, hfz33_2, hfz33_3⟩ := zc4 BK317; obtain ⟨hcz34_0, hcz34_1, hcz34_2, hcz34_3, hfz34_0, hfz34_1, hfz34_2, hfz34_3⟩ := zc4 BK318))
  refine bodyPost_ret (results_list (rs := [.cell 8 24, .cell 9 24, .tmp 10]) rfl (by simp) (.cell gb317 24 #[.int .i64 t327, .int .i64 t328, .int .i64 t329, .int .i64 t330] (0, 0) _ rfl (by refine fq ?_ NB317_318.out; refine fq ?_ NB317_318.out; refine fq ?_ NB317_318.out; refine fq ?_ NB317_318.out; refine bq ?_; refine blk_put (cs := #[.int .i64 t327, .int .i64 t328, .int .i64 t329, .int .i64 0]) ?_ 3 _ rfl; refine bq ?_; refine blk_put (cs := #[.int .i64 t327, .int .i64 t328, .int .i64 0, .int .i64 0]) ?_ 2 _ rfl; refine bq ?_; refine blk_put (cs := #[.int .i64 t327, .int .i64 0, .int .i64 0, .int .i64 0]) ?_ 1 _ rfl; refine bq ?_; refine blk_put (cs := #[.int .i64 0, .int .i64 0, .int .i64 0, .int .i64 0]) ?_ 0 _ rfl; exact bq BK317.out) Try.underlying24 rfl (by kernel_rfl) (.cell gb318 24 #[.int .i64 t331, .int .i64 t332, .int .i64 t333, .int .i64 t334] (0, 0) _ rfl (by refine bq ?_; refine blk_put (cs := #[.int .i64 t331, .int .i64 t332, .int .i64 t333, .int .i64 0]) ?_ 3 _ rfl; refine bq ?_; refine blk_put (cs := #[.int .i64 t331, .int .i64 t332, .int .i64 0, .int .i64 0]) ?_ 2 _ rfl; refine bq ?_; refine blk_put (cs := #[.int .i64 t331, .int .i64 0, .int .i64 0, .int .i64 0]) ?_ 1 _ rfl; refine bq ?_; refine blk_put (cs := #[.int .i64 0, .int .i64 0, .int .i64 0, .int .i64 0]) ?_ 0 _ rfl; refine fq ?_ NB318_317.out; refine fq ?_ NB318_317.out; refine fq ?_ NB318_317.out; refine fq ?_ NB318_317.out; exact bq BK318.out) Try.underlying24 rfl (by kernel_rfl) (.tmp .nil)))) rfl ?_
  exact ⟨zR, zB⟩
 ·rw [if_neg c7] at H
  have c7b0 : (a0 == 14) = false := beq_eq_false_iff_ne.mpr c7
  have c7b1 : (a0 != 14) = true := bne_iff_ne.mpr c7
  by_cases c35 : a0 = 15
  ·rw [if_pos c35] at H
   have c35b0 : (a0 == 15) = true := beq_iff_eq.mpr c35
   have c35b1 : (a0 != 15) = false := bne_eq_false_iff_eq.mpr c35
   clear c35
   replace H := Option.bind_eq_some_iff.mp H
   obtain ⟨⟨t336, t337, t338, t339, t340, t341, t342, t343, t344⟩, A360, H⟩ := H
   try dsimp only at H
   have A36 := Aside0.mk A360
   clear A360
   simp only [Option.some.injEq, Prod.mk.injEq] at H
   obtain ⟨rfl, rfl, rfl, rfl, rfl, rfl, rfl, rfl, rfl⟩ := H
   go_enter Try.func16, Try.ntmps16
   try go_wp2_with (first | ((with_reducible refine gate_dst (N := 5) rfl ?_); refine be 5 #[.int .i64 a1_0, .int .i64 a1_1, .int .i64 a1_2, .int .i64 a1_3] 24 ?_; intro gb315 hg w37 hbox hb; have BK315 := Aside0.mk hbox; have GW315 := zW hg; replace HB := zS hb; have GE315 := GW315; clear hb hbox hg) | ((with_reducible refine gate_dst (N := 6) rfl ?_); refine be 6 #[.int .i64 a2_0, .int .i64 a2_1, .int .i64 a2_2, .int .i64 a2_3] 24 ?_; intro gb316 hg w38 hbox hb; have BK316 := Aside0.mk hbox; have GW316 := zW hg; replace HB := zS hb; have GE316 := GW316; have NB315_316 := zl BK315 hg rfl; have NB316_315 := zg BK315 hg rfl; replace BK315 := zb BK315 hb rfl; clear hb hbox hg) | ((with_reducible refine gate_dst (N := 8) rfl ?_); refine be 8 #[.int .i64 0, .int .i64 0, .int .i64 0, .int .i64 0] 24 ?_; intro gb317 hg w39 hbox hb; have BK317 := Aside0.mk hbox; have GW317 := zW hg; replace HB := zS hb; have GE317 := GW317; have NB315_317 := zl BK315 hg rfl; have NB317_315 := zg BK315 hg rfl; replace BK315 := zb BK315 hb rfl; have NB316_317 := zl BK316 hg rfl; have NB317_316 := zg BK316 hg rfl; replace BK316 := zb BK316 hb rfl; clear hb hbox hg) | ((with_reducible refine gate_dst (N := 9) rfl ?_); refine be 9 #[.int .i64 0, .int .i64 0, .int .i64 0, .int .i64 0] 24 ?_; intro gb318 hg w40 hbox hb; have BK318 := Aside0.mk hbox; have GW318 := zW hg; replace HB := zS hb; have GE318 := GW318; have NB315_318 := zl BK315 hg rfl; have NB318_315 := zg BK315 hg rfl; replace BK315 := zb BK315 hb rfl; have NB316_318 := zl BK316 hg rfl; have NB318_316 := zg BK316 hg rfl; replace BK316 := zb BK316 hb rfl; have NB317_318 := zl BK317 hg rfl; have NB318_317 := zg BK317 hg rfl; replace BK317 := zb BK317 hb rfl; clear hb hbox hg))
   replace BK315 := Aside0.mk (blk_drew BK315.out)
   replace BK316 := Aside0.mk (blk_drew BK316.out)
   replace BK317 := Aside0.mk (blk_drew BK317.out)
   replace BK318 := Aside0.mk (blk_drew BK318.out)
   replace HB := Aside0.mk (below_drew1 HB.out)
   refine start_ (n := 6) (S := fun w' => w'.cell? ⟨gb315, 0, none⟩ = some (.int .i64 a1_0) ∧ w'.cell? ⟨gb315, 1, none⟩ = some (.int .i64 a1_1) ∧ w'.cell? ⟨gb315, 2, none⟩ = some (.int .i64 a1_2) ∧ w'.cell? ⟨gb315, 3, none⟩ = some (.int .i64 a1_3) ∧ w'.cell? ⟨gb316, 0, none⟩ = some (.int .i64 a2_0) ∧ w'.cell? ⟨gb316, 1, none⟩ = some (.int .i64 a2_1) ∧ w'.cell? ⟨gb316, 2, none⟩ = some (.int .i64 a2_2) ∧ w'.cell? ⟨gb316, 3, none⟩ = some (.int .i64 a2_3)) (ds := [4, 5]) #[false, false, false, false, false, false] (by kernel_rfl) rfl rfl ⟨(blk_cell BK315.out 0).trans rfl, (blk_cell BK315.out 1).trans rfl, (blk_cell BK315.out 2).trans rfl, (blk_cell BK315.out 3).trans rfl, (blk_cell BK316.out 0).trans rfl, (blk_cell BK316.out 1).trans rfl, (blk_cell BK316.out 2).trans rfl, (blk_cell BK316.out 3).trans rfl⟩ (fun hHeld => ?_)
   generalize w40.drew = w41 at BK315 BK316 BK317 BK318 HB hHeld ⊢
   refine tz 0 20 ?_
   refine tz 2 22 ?_
   refine oz 1 21 fun K hK => ?_
   refine gz Try.func27 #[.agg #[.int .i64 a1_0, .int .i64 a1_1, .int .i64 a1_2, .int .i64 a1_3]] ?_
   with_reducible refine (impl_Range_tidy.calls a1_0 a1_1 a1_2 a1_3 t319 t320 t321 t322 _ A5.out).mono ?_
   rintro e w42 ⟨rfl, hb⟩
   refine ⟨_, rfl, ?_⟩
   replace BK315 := zb BK315 hb rfl
   replace BK316 := zb BK316 hb rfl
   replace BK317 := zb BK317 hb rfl
   replace BK318 := zb BK318 hb rfl
   replace HB := zS hb
   try clear hb
   refine hK.out _ _ ⟨(blk_cell BK315.out 0).trans rfl, (blk_cell BK315.out 1).trans rfl, (blk_cell BK315.out 2).trans rfl, (blk_cell BK315.out 3).trans rfl, (blk_cell BK316.out 0).trans rfl, (blk_cell BK316.out 1).trans rfl, (blk_cell BK316.out 2).trans rfl, (blk_cell BK316.out 3).trans rfl⟩ (fun hHeld => ?_)
   clear hK K
   refine nz ?_
   refine oz 3 23 fun K hK => ?_
   refine gz Try.func27 #[.agg #[.int .i64 a2_0, .int .i64 a2_1, .int .i64 a2_2, .int .i64 a2_3]] ?_
   with_reducible refine (impl_Range_tidy.calls a2_0 a2_1 a2_2 a2_3 t323 t324 t325 t326 _ A6.out).mono ?_
   rintro e w43 ⟨rfl, hb⟩
   refine ⟨_, rfl, ?_⟩
   replace BK315 := zb BK315 hb rfl
   replace BK316 := zb BK316 hb rfl
   replace BK317 := zb BK317 hb rfl
   replace BK318 := zb BK318 hb rfl
   replace HB := zS hb
   try clear hb
   refine hK.out _ _ ⟨(blk_cell BK315.out 0).trans rfl, (blk_cell BK315.out 1).trans rfl, (blk_cell BK315.out 2).trans rfl, (blk_cell BK315.out 3).trans rfl, (blk_cell BK316.out 0).trans rfl, (blk_cell BK316.out 1).trans rfl, (blk_cell BK316.out 2).trans rfl, (blk_cell BK316.out 3).trans rfl⟩ (fun hHeld => ?_)
   clear hK K
   refine nz ?_
   refine last_ (i := 4) (N := none) #[true, true, true, true, true, false] rfl rfl (by kernel_rfl) (by decide) (fun K hK => ?_)
   have hs44 : w43.cell? ⟨gb315, 0, none⟩ = some (.int .i64 a1_0) := (blk_cell BK315.out 0).trans rfl
   have hfs44 := blk_frozen BK315.out 0
   have hns44_1 := NB316_315.out
   have hns44_2 := NB317_315.out
   have hns44_3 := NB318_315.out
   have hms44_1 := NB315_316.out
   have hms44_2 := NB315_317.out
   have hms44_3 := NB315_318.out
   have hs45 : w43.cell? ⟨gb315, 1, none⟩ = some (.int .i64 a1_1) := (blk_cell BK315.out 1).trans rfl
   have hfs45 := blk_frozen BK315.out 1
   have hns45_1 := NB316_315.out
   have hns45_2 := NB317_315.out
   have hns45_3 := NB318_315.out
   have hms45_1 := NB315_316.out
   have hms45_2 := NB315_317.out
   have hms45_3 := NB315_318.out
   have hs46 : w43.cell? ⟨gb315, 2, none⟩ = some (.int .i64 a1_2) := (blk_cell BK315.out 2).trans rfl
   have hfs46 := blk_frozen BK315.out 2
   have hns46_1 := NB316_315.out
   have hns46_2 := NB317_315.out
   have hns46_3 := NB318_315.out
   have hms46_1 := NB315_316.out
   have hms46_2 := NB315_317.out
   have hms46_3 := NB315_318.out
   have hs47 : w43.cell? ⟨gb315, 3, none⟩ = some (.int .i64 a1_3) := (blk_cell BK315.out 3).trans rfl
   have hfs47 := blk_frozen BK315.out 3
   have hns47_1 := NB316_315.out
   have hns47_2 := NB317_315.out
   have hns47_3 := NB318_315.out
   have hms47_1 := NB315_316.out
   have hms47_2 := NB315_317.out
   have hms47_3 := NB315_318.out
   refine skip_ (w1 := ?_) (by rfl) rfl ?_ ?_
   rotate_left
   ·go_simp
    rfl
   refine hK.out _ _ ?_
   clear hK K
   refine last_ (i := 5) (N := none) #[true, true, true, true, true, true] rfl rfl (by kernel_rfl) (by decide) (fun K hK => ?_)
   have hs48 : w43.cell? ⟨gb316, 0, none⟩ = some (.int .i64 a2_0) := (blk_cell BK316.out 0).trans rfl
   have hfs48 := blk_frozen BK316.out 0
   have hns48_0 := NB315_316.out
   have hns48_2 := NB317_316.out
   have hns48_3 := NB318_316.out
   have hms48_0 := NB316_315.out
   have hms48_2 := NB316_317.out
   have hms48_3 := NB316_318.out
   have hs49 : w43.cell? ⟨gb316, 1, none⟩ = some (.int .i64 a2_1) := (blk_cell BK316.out 1).trans rfl
   have hfs49 := blk_frozen BK316.out 1
   have hns49_0 := NB315_316.out
   have hns49_2 := NB317_316.out
   have hns49_3 := NB318_316.out
   have hms49_0 := NB316_315.out
   have hms49_2 := NB316_317.out
   have hms49_3 := NB316_318.out
   have hs50 : w43.cell? ⟨gb316, 2, none⟩ = some (.int .i64 a2_2) := (blk_cell BK316.out 2).trans rfl
   have hfs50 := blk_frozen BK316.out 2
   have hns50_0 := NB315_316.out
   have hns50_2 := NB317_316.out
   have hns50_3 := NB318_316.out
   have hms50_0 := NB316_315.out
   have hms50_2 := NB316_317.out
   have hms50_3 := NB316_318.out
   have hs51 : w43.cell? ⟨gb316, 3, none⟩ = some (.int .i64 a2_3) := (blk_cell BK316.out 3).trans rfl
   have hfs51 := blk_frozen BK316.out 3
   have hns51_0 := NB315_316.out
   have hns51_2 := NB317_316.out
   have hns51_3 := NB318_316.out
   have hms51_0 := NB316_315.out
   have hms51_2 := NB316_317.out
   have hms51_3 := NB316_318.out
   refine skip_ (w1 := ?_) (by rfl) rfl ?_ ?_
   rotate_left
   ·go_simp
    rfl
   refine hK.out _ _ ?_
   clear hK K
   refine done_ (by kernel_rfl) ?_
   have hnb52 := NB316_315.out
   have hnc52 := NB315_316.out
   have hnb53 := NB316_317.out
   have hnc53 := NB317_316.out
   have hnb54 := NB316_318.out
   have hnc54 := NB318_316.out
   obtain ⟨hcz55_0, hcz55_1, hcz55_2, hcz55_3, hfz55_0, hfz55_1, hfz55_2, hfz55_3⟩ := zc4 BK316
   have hnb56 := NB315_317.out
   have hnc56 := NB317_315.out
   have hnb57 := NB315_318.out
   have hnc57 := NB318_315.out
   obtain ⟨hcz58_0, hcz58_1, hcz58_2, hcz58_3, hfz58_0, hfz58_1, hfz58_2, hfz58_3⟩ := zc4 BK315
   try go_wp2_with (first | ((with_reducible refine gate_callee (f := 28) rfl ?_); refine gl 40 Try.func28 #[.agg #[.int .i64 t323, .int .i64 t324, .int .i64 t325, .int .i64 t326], .agg #[.int .i64 t319, .int .i64 t320, .int .i64 t321, .int .i64 t322], .bool a3] ?_; (with_reducible refine (impl_below.calls k t323 t324 t325 t326 t319 t320 t321 t322 a3 t336 t337 t338 t339 t340 t341 t342 t343 t344 _ A36.out).mono ?_); rintro e w59 ⟨rfl, hb⟩; refine ⟨_, rfl, ?_⟩; replace BK315 := Aside0.mk (blk_below (g := gb315) (o := .cells #[.int .i64 t319, .int .i64 t320, .int .i64 t321, .int .i64 t322] 24 (0, 0)) (by refine fq ?_ NB315_316.out; refine fq ?_ NB315_316.out; refine fq ?_ NB315_316.out; refine fq ?_ NB315_316.out; refine bq ?_; refine blk_put (cs := #[.int .i64 t319, .int .i64 t320, .int .i64 t321, .int .i64 a1_3]) ?_ 3 _ rfl; refine bq ?_; refine blk_put (cs := #[.int .i64 t319, .int .i64 t320, .int .i64 a1_2, .int .i64 a1_3]) ?_ 2 _ rfl; refine bq ?_; refine blk_put (cs := #[.int .i64 t319, .int .i64 a1_1, .int .i64 a1_2, .int .i64 a1_3]) ?_ 1 _ rfl; refine bq ?_; refine blk_put (cs := #[.int .i64 a1_0, .int .i64 a1_1, .int .i64 a1_2, .int .i64 a1_3]) ?_ 0 _ rfl; exact bq BK315.out) hb); replace BK316 := Aside0.mk (blk_below (g := gb316) (o := .cells #[.int .i64 t323, .int .i64 t324, .int .i64 t325, .int .i64 t326] 24 (0, 0)) (by refine bq ?_; refine blk_put (cs := #[.int .i64 t323, .int .i64 t324, .int .i64 t325, .int .i64 a2_3]) ?_ 3 _ rfl; refine bq ?_; refine blk_put (cs := #[.int .i64 t323, .int .i64 t324, .int .i64 a2_2, .int .i64 a2_3]) ?_ 2 _ rfl; refine bq ?_; refine blk_put (cs := #[.int .i64 t323, .int .i64 a2_1, .int .i64 a2_2, .int .i64 a2_3]) ?_ 1 _ rfl; refine bq ?_; refine blk_put (cs := #[.int .i64 a2_0, .int .i64 a2_1, .int .i64 a2_2, .int .i64 a2_3]) ?_ 0 _ rfl; refine fq ?_ NB316_315.out; refine fq ?_ NB316_315.out; refine fq ?_ NB316_315.out; refine fq ?_ NB316_315.out; exact bq BK316.out) hb); replace BK317 := Aside0.mk (blk_below (g := gb317) (o := .cells #[.int .i64 0, .int .i64 0, .int .i64 0, .int .i64 0] 24 (0, 0)) (by refine fq ?_ NB317_316.out; refine fq ?_ NB317_316.out; refine fq ?_ NB317_316.out; refine fq ?_ NB317_316.out; refine fq ?_ NB317_315.out; refine fq ?_ NB317_315.out; refine fq ?_ NB317_315.out; refine fq ?_ NB317_315.out; exact bq BK317.out) hb); replace BK318 := Aside0.mk (blk_below (g := gb318) (o := .cells #[.int .i64 0, .int .i64 0, .int .i64 0, .int .i64 0] 24 (0, 0)) (by refine fq ?_ NB318_316.out; refine fq ?_ NB318_316.out; refine fq ?_ NB318_316.out; refine fq ?_ NB318_316.out; refine fq ?_ NB318_315.out; refine fq ?_ NB318_315.out; refine fq ?_ NB318_315.out; refine fq ?_ NB318_315.out; exact bq BK318.out) hb); replace HB := zS hb; try clear hb) | ((with_reducible refine gate_dst (N := 11) rfl ?_); refine be 11 #[.int .i64 0, .int .i64 0, .int .i64 0, .int .i64 0] 24 ?_; intro gb345 hg w60 hbox hb; have BK345 := Aside0.mk hbox; have GW345 := zW hg; replace HB := zS hb; have GE345 := GW345; have NB315_345 := zl BK315 hg rfl; have NB345_315 := zg BK315 hg rfl; replace BK315 := zb BK315 hb rfl; have NB316_345 := zl BK316 hg rfl; have NB345_316 := zg BK316 hg rfl; replace BK316 := zb BK316 hb rfl; have NB317_345 := zl BK317 hg rfl; have NB345_317 := zg BK317 hg rfl; replace BK317 := zb BK317 hb rfl; have NB318_345 := zl BK318 hg rfl; have NB345_318 := zg BK318 hg rfl; replace BK318 := zb BK318 hb rfl; clear hb hbox hg) | ((with_reducible refine gate_dst (N := 12) rfl ?_); refine be 12 #[.int .i64 0, .int .i64 0, .int .i64 0, .int .i64 0] 24 ?_; intro gb346 hg w61 hbox hb; have BK346 := Aside0.mk hbox; have GW346 := zW hg; replace HB := zS hb; have GE346 := GW346; have NB315_346 := zl BK315 hg rfl; have NB346_315 := zg BK315 hg rfl; replace BK315 := zb BK315 hb rfl; have NB316_346 := zl BK316 hg rfl; have NB346_316 := zg BK316 hg rfl; replace BK316 := zb BK316 hb rfl; have NB317_346 := zl BK317 hg rfl; have NB346_317 := zg BK317 hg rfl; replace BK317 := zb BK317 hb rfl; have NB318_346 := zl BK318 hg rfl; have NB346_318 := zg BK318 hg rfl; replace BK318 := zb BK318 hb rfl; have NB345_346 := zl BK345 hg rfl; have NB346_345 := zg BK345 hg rfl; replace BK345 := zb BK345 hb rfl; clear hb hbox hg; have hnb62 := NB345_315.out; have hnc62 := NB315_345.out; have hnb63 := NB345_316.out; have hnc63 := NB316_345.out; have hnb64 := NB345_317.out; have hnc64 := NB317_345.out; have hnb65 := NB345_318.out; have hnc65 := NB318_345.out; have hnb66 := NB345_346.out; have hnc66 := NB346_345.out; obtain ⟨hcz67_0, hcz67_1, hcz67_2, hcz67_3, hfz67_0, hfz67_1, hfz67_2, hfz67_3⟩ := zc4 BK345; have hnb68 := NB346_315.out; have hnc68 := NB315_346.out; have hnb69 := NB346_316.out; have hnc69 := NB316_346.out; have hnb70 := NB346_317.out; have hnc70 := NB317_346.out; have hnb71 := NB346_318.out; have hnc71 := NB318_346.out; obtain ⟨hcz72_0, hcz72_1, hcz72_2, hcz72_3, hfz72_0, hfz72_1, hfz72_2, hfz72_3⟩ := zc4 BK346))
   have n0_ : Aside0 (((((((((w61.setCell ⟨gb345, 0, none⟩ (.int .i64 t336)).setCell ⟨gb345, 1, none⟩ (.int .i64 t337)).setCell ⟨gb345, 2, none⟩ (.int .i64 t338)).setCell ⟨gb345, 3, none⟩ (.int .i64 t339)).setCell ⟨gb346, 0, none⟩ (.int .i64 t340)).setCell ⟨gb346, 1, none⟩ (.int .i64 t341)).setCell ⟨gb346, 2, none⟩ (.int .i64 t342)).setCell ⟨gb346, 3, none⟩ (.int .i64 t343)).heap[gb315]? = some (.cells #[.int .i64 t319, .int .i64 t320, .int .i64 t321, .int .i64 t322] 24 (0, 0))) := ⟨by refine fq ?_ NB315_346.out; refine fq ?_ NB315_346.out; refine fq ?_ NB315_346.out; refine fq ?_ NB315_346.out; refine fq ?_ NB315_345.out; refine fq ?_ NB315_345.out; refine fq ?_ NB315_345.out; refine fq ?_ NB315_345.out; exact bq BK315.out⟩
   have n1_ : Aside0 (((((((((w61.setCell ⟨gb345, 0, none⟩ (.int .i64 t336)).setCell ⟨gb345, 1, none⟩ (.int .i64 t337)).setCell ⟨gb345, 2, none⟩ (.int .i64 t338)).setCell ⟨gb345, 3, none⟩ (.int .i64 t339)).setCell ⟨gb346, 0, none⟩ (.int .i64 t340)).setCell ⟨gb346, 1, none⟩ (.int .i64 t341)).setCell ⟨gb346, 2, none⟩ (.int .i64 t342)).setCell ⟨gb346, 3, none⟩ (.int .i64 t343)).heap[gb316]? = some (.cells #[.int .i64 t323, .int .i64 t324, .int .i64 t325, .int .i64 t326] 24 (0, 0))) := ⟨by refine fq ?_ NB316_346.out; refine fq ?_ NB316_346.out; refine fq ?_ NB316_346.out; refine fq ?_ NB316_346.out; refine fq ?_ NB316_345.out; refine fq ?_ NB316_345.out; refine fq ?_ NB316_345.out; refine fq ?_ NB316_345.out; exact bq BK316.out⟩
   have n2_ : Aside0 (((((((((w61.setCell ⟨gb345, 0, none⟩ (.int .i64 t336)).setCell ⟨gb345, 1, none⟩ (.int .i64 t337)).setCell ⟨gb345, 2, none⟩ (.int .i64 t338)).setCell ⟨gb345, 3, none⟩ (.int .i64 t339)).setCell ⟨gb346, 0, none⟩ (.int .i64 t340)).setCell ⟨gb346, 1, none⟩ (.int .i64 t341)).setCell ⟨gb346, 2, none⟩ (.int .i64 t342)).setCell ⟨gb346, 3, none⟩ (.int .i64 t343)).heap[gb317]? = some (.cells #[.int .i64 0, .int .i64 0, .int .i64 0, .int .i64 0] 24 (0, 0))) := ⟨by refine fq ?_ NB317_346.out; refine fq ?_ NB317_346.out; refine fq ?_ NB317_346.out; refine fq ?_ NB317_346.out; refine fq ?_ NB317_345.out; refine fq ?_ NB317_345.out; refine fq ?_ NB317_345.out; refine fq ?_ NB317_345.out; exact bq BK317.out⟩
   have n3_ : Aside0 (((((((((w61.setCell ⟨gb345, 0, none⟩ (.int .i64 t336)).setCell ⟨gb345, 1, none⟩ (.int .i64 t337)).setCell ⟨gb345, 2, none⟩ (.int .i64 t338)).setCell ⟨gb345, 3, none⟩ (.int .i64 t339)).setCell ⟨gb346, 0, none⟩ (.int .i64 t340)).setCell ⟨gb346, 1, none⟩ (.int .i64 t341)).setCell ⟨gb346, 2, none⟩ (.int .i64 t342)).setCell ⟨gb346, 3, none⟩ (.int .i64 t343)).heap[gb318]? = some (.cells #[.int .i64 0, .int .i64 0, .int .i64 0, .int .i64 0] 24 (0, 0))) := ⟨by refine fq ?_ NB318_346.out; refine fq ?_ NB318_346.out; refine fq ?_ NB318_346.out; refine fq ?_ NB318_346.out; refine fq ?_ NB318_345.out; refine fq ?_ NB318_345.out; refine fq ?_ NB318_345.out; refine fq ?_ NB318_345.out; exact bq BK318.out⟩
   have n4_ : Aside0 (((((((((w61.setCell ⟨gb345, 0, none⟩ (.int .i64 t336)).setCell ⟨gb345, 1, none⟩ (.int .i64 t337)).setCell ⟨gb345, 2, none⟩ (.int .i64 t338)).setCell ⟨gb345, 3, none⟩ (.int .i64 t339)).setCell ⟨gb346, 0, none⟩ (.int .i64 t340)).setCell ⟨gb346, 1, none⟩ (.int .i64 t341)).setCell ⟨gb346, 2, none⟩ (.int .i64 t342)).setCell ⟨gb346, 3, none⟩ (.int .i64 t343)).heap[gb345]? = some (.cells #[.int .i64 t336, .int .i64 t337, .int .i64 t338, .int .i64 t339] 24 (0, 0))) := ⟨by refine fq ?_ NB345_346.out; refine fq ?_ NB345_346.out; refine fq ?_ NB345_346.out; refine fq ?_ NB345_346.out; refine bq ?_; refine blk_put (cs := #[.int .i64 t336, .int .i64 t337, .int .i64 t338, .int .i64 0]) ?_ 3 _ rfl; refine bq ?_; refine blk_put (cs := #[.int .i64 t336, .int .i64 t337, .int .i64 0, .int .i64 0]) ?_ 2 _ rfl; refine bq ?_; refine blk_put (cs := #[.int .i64 t336, .int .i64 0, .int .i64 0, .int .i64 0]) ?_ 1 _ rfl; refine bq ?_; refine blk_put (cs := #[.int .i64 0, .int .i64 0, .int .i64 0, .int .i64 0]) ?_ 0 _ rfl; exact bq BK345.out⟩
   have n5_ : Aside0 (((((((((w61.setCell ⟨gb345, 0, none⟩ (.int .i64 t336)).setCell ⟨gb345, 1, none⟩ (.int .i64 t337)).setCell ⟨gb345, 2, none⟩ (.int .i64 t338)).setCell ⟨gb345, 3, none⟩ (.int .i64 t339)).setCell ⟨gb346, 0, none⟩ (.int .i64 t340)).setCell ⟨gb346, 1, none⟩ (.int .i64 t341)).setCell ⟨gb346, 2, none⟩ (.int .i64 t342)).setCell ⟨gb346, 3, none⟩ (.int .i64 t343)).heap[gb346]? = some (.cells #[.int .i64 t340, .int .i64 t341, .int .i64 t342, .int .i64 t343] 24 (0, 0))) := ⟨by refine bq ?_; refine blk_put (cs := #[.int .i64 t340, .int .i64 t341, .int .i64 t342, .int .i64 0]) ?_ 3 _ rfl; refine bq ?_; refine blk_put (cs := #[.int .i64 t340, .int .i64 t341, .int .i64 0, .int .i64 0]) ?_ 2 _ rfl; refine bq ?_; refine blk_put (cs := #[.int .i64 t340, .int .i64 0, .int .i64 0, .int .i64 0]) ?_ 1 _ rfl; refine bq ?_; refine blk_put (cs := #[.int .i64 0, .int .i64 0, .int .i64 0, .int .i64 0]) ?_ 0 _ rfl; refine fq ?_ NB346_345.out; refine fq ?_ NB346_345.out; refine fq ?_ NB346_345.out; refine fq ?_ NB346_345.out; exact bq BK346.out⟩
   have n6_ : Aside0 (Below w.heap.size w ((((((((w61.setCell ⟨gb345, 0, none⟩ (.int .i64 t336)).setCell ⟨gb345, 1, none⟩ (.int .i64 t337)).setCell ⟨gb345, 2, none⟩ (.int .i64 t338)).setCell ⟨gb345, 3, none⟩ (.int .i64 t339)).setCell ⟨gb346, 0, none⟩ (.int .i64 t340)).setCell ⟨gb346, 1, none⟩ (.int .i64 t341)).setCell ⟨gb346, 2, none⟩ (.int .i64 t342)).setCell ⟨gb346, 3, none⟩ (.int .i64 t343))) := ⟨zB⟩
   (try clear BK315)
   (try clear BK316)
   (try clear BK317)
   (try clear BK318)
   (try clear BK345)
   (try clear BK346)
   (try clear HB)
   generalize ((((((((w61.setCell ⟨gb345, 0, none⟩ (.int .i64 t336)).setCell ⟨gb345, 1, none⟩ (.int .i64 t337)).setCell ⟨gb345, 2, none⟩ (.int .i64 t338)).setCell ⟨gb345, 3, none⟩ (.int .i64 t339)).setCell ⟨gb346, 0, none⟩ (.int .i64 t340)).setCell ⟨gb346, 1, none⟩ (.int .i64 t341)).setCell ⟨gb346, 2, none⟩ (.int .i64 t342)).setCell ⟨gb346, 3, none⟩ (.int .i64 t343)) = w73 at n0_ n1_ n2_ n3_ n4_ n5_ n6_ ⊢
   have BK315 := n0_
   have BK316 := n1_
   have BK317 := n2_
   have BK318 := n3_
   have BK345 := n4_
   have BK346 := n5_
   have HB := n6_
   clear n0_ n1_ n2_ n3_ n4_ n5_ n6_
   replace BK315 := Aside0.mk (blk_drew BK315.out)
   replace BK316 := Aside0.mk (blk_drew BK316.out)
   replace BK317 := Aside0.mk (blk_drew BK317.out)
   replace BK318 := Aside0.mk (blk_drew BK318.out)
   replace BK345 := Aside0.mk (blk_drew BK345.out)
   replace BK346 := Aside0.mk (blk_drew BK346.out)
   replace HB := Aside0.mk (below_drew1 HB.out)
   refine start_ (n := 6) (S := fun w' => w'.cell? ⟨gb346, 0, none⟩ = some (.int .i64 t340) ∧ w'.cell? ⟨gb346, 1, none⟩ = some (.int .i64 t341) ∧ w'.cell? ⟨gb346, 2, none⟩ = some (.int .i64 t342) ∧ w'.cell? ⟨gb346, 3, none⟩ = some (.int .i64 t343) ∧ w'.cell? ⟨gb345, 0, none⟩ = some (.int .i64 t336) ∧ w'.cell? ⟨gb345, 1, none⟩ = some (.int .i64 t337) ∧ w'.cell? ⟨gb345, 2, none⟩ = some (.int .i64 t338) ∧ w'.cell? ⟨gb345, 3, none⟩ = some (.int .i64 t339)) (ds := []) #[false, false, false, false, false, false] (by kernel_rfl) rfl rfl ⟨(blk_cell BK346.out 0).trans rfl, (blk_cell BK346.out 1).trans rfl, (blk_cell BK346.out 2).trans rfl, (blk_cell BK346.out 3).trans rfl, (blk_cell BK345.out 0).trans rfl, (blk_cell BK345.out 1).trans rfl, (blk_cell BK345.out 2).trans rfl, (blk_cell BK345.out 3).trans rfl⟩ (fun hHeld => ?_)
   generalize w73.drew = w74 at BK315 BK316 BK317 BK318 BK345 BK346 HB hHeld ⊢
   refine pz 2 46 ?_
   refine tz 0 44 ?_
   refine tz 1 45 ?_
   refine oN 3 fun K hK => ?_
   have hs75 : w74.cell? ⟨gb317, 0, none⟩ = some (.int .i64 0) := (blk_cell BK317.out 0).trans rfl
   have hfs75 := blk_frozen BK317.out 0
   have hns75_0 := NB315_317.out
   have hns75_1 := NB316_317.out
   have hns75_3 := NB318_317.out
   have hns75_4 := NB345_317.out
   have hns75_5 := NB346_317.out
   have hms75_0 := NB317_315.out
   have hms75_1 := NB317_316.out
   have hms75_3 := NB317_318.out
   have hms75_4 := NB317_345.out
   have hms75_5 := NB317_346.out
   have hs76 : w74.cell? ⟨gb317, 1, none⟩ = some (.int .i64 0) := (blk_cell BK317.out 1).trans rfl
   have hfs76 := blk_frozen BK317.out 1
   have hns76_0 := NB315_317.out
   have hns76_1 := NB316_317.out
   have hns76_3 := NB318_317.out
   have hns76_4 := NB345_317.out
   have hns76_5 := NB346_317.out
   have hms76_0 := NB317_315.out
   have hms76_1 := NB317_316.out
   have hms76_3 := NB317_318.out
   have hms76_4 := NB317_345.out
   have hms76_5 := NB317_346.out
   have hs77 : w74.cell? ⟨gb317, 2, none⟩ = some (.int .i64 0) := (blk_cell BK317.out 2).trans rfl
   have hfs77 := blk_frozen BK317.out 2
   have hns77_0 := NB315_317.out
   have hns77_1 := NB316_317.out
   have hns77_3 := NB318_317.out
   have hns77_4 := NB345_317.out
   have hns77_5 := NB346_317.out
   have hms77_0 := NB317_315.out
   have hms77_1 := NB317_316.out
   have hms77_3 := NB317_318.out
   have hms77_4 := NB317_345.out
   have hms77_5 := NB317_346.out
   have hs78 : w74.cell? ⟨gb317, 3, none⟩ = some (.int .i64 0) := (blk_cell BK317.out 3).trans rfl
   have hfs78 := blk_frozen BK317.out 3
   have hns78_0 := NB315_317.out
   have hns78_1 := NB316_317.out
   have hns78_3 := NB318_317.out
   have hns78_4 := NB345_317.out
   have hns78_5 := NB346_317.out
   have hms78_0 := NB317_315.out
   have hms78_1 := NB317_316.out
   have hms78_3 := NB317_318.out
   have hms78_4 := NB317_345.out
   have hms78_5 := NB317_346.out
   refine skip_ (w1 := ?_) (by rfl) rfl ?_ ?_
   rotate_left
   ·go_simp
    rfl
   refine hK.out _ _ ⟨((cell_far (p := ⟨gb317, _, none⟩) NB346_317.out _).trans (((cell_far (p := ⟨gb317, _, none⟩) NB346_317.out _).trans (((cell_far (p := ⟨gb317, _, none⟩) NB346_317.out _).trans (((cell_far (p := ⟨gb317, _, none⟩) NB346_317.out _).trans (hHeld.1)))))))), ((cell_far (p := ⟨gb317, _, none⟩) NB346_317.out _).trans (((cell_far (p := ⟨gb317, _, none⟩) NB346_317.out _).trans (((cell_far (p := ⟨gb317, _, none⟩) NB346_317.out _).trans (((cell_far (p := ⟨gb317, _, none⟩) NB346_317.out _).trans (hHeld.2.1)))))))), ((cell_far (p := ⟨gb317, _, none⟩) NB346_317.out _).trans (((cell_far (p := ⟨gb317, _, none⟩) NB346_317.out _).trans (((cell_far (p := ⟨gb317, _, none⟩) NB346_317.out _).trans (((cell_far (p := ⟨gb317, _, none⟩) NB346_317.out _).trans (hHeld.2.2.1)))))))), ((cell_far (p := ⟨gb317, _, none⟩) NB346_317.out _).trans (((cell_far (p := ⟨gb317, _, none⟩) NB346_317.out _).trans (((cell_far (p := ⟨gb317, _, none⟩) NB346_317.out _).trans (((cell_far (p := ⟨gb317, _, none⟩) NB346_317.out _).trans (hHeld.2.2.2.1)))))))), ((cell_far (p := ⟨gb317, _, none⟩) NB345_317.out _).trans (((cell_far (p := ⟨gb317, _, none⟩) NB345_317.out _).trans (((cell_far (p := ⟨gb317, _, none⟩) NB345_317.out _).trans (((cell_far (p := ⟨gb317, _, none⟩) NB345_317.out _).trans (hHeld.2.2.2.2.1)))))))), ((cell_far (p := ⟨gb317, _, none⟩) NB345_317.out _).trans (((cell_far (p := ⟨gb317, _, none⟩) NB345_317.out _).trans (((cell_far (p := ⟨gb317, _, none⟩) NB345_317.out _).trans (((cell_far (p := ⟨gb317, _, none⟩) NB345_317.out _).trans (hHeld.2.2.2.2.2.1)))))))), ((cell_far (p := ⟨gb317, _, none⟩) NB345_317.out _).trans (((cell_far (p := ⟨gb317, _, none⟩) NB345_317.out _).trans (((cell_far (p := ⟨gb317, _, none⟩) NB345_317.out _).trans (((cell_far (p := ⟨gb317, _, none⟩) NB345_317.out _).trans (hHeld.2.2.2.2.2.2.1)))))))), ((cell_far (p := ⟨gb317, _, none⟩) NB345_317.out _).trans (((cell_far (p := ⟨gb317, _, none⟩) NB345_317.out _).trans (((cell_far (p := ⟨gb317, _, none⟩) NB345_317.out _).trans (((cell_far (p := ⟨gb317, _, none⟩) NB345_317.out _).trans (hHeld.2.2.2.2.2.2.2))))))))⟩ (fun hHeld => ?_)
   clear hK K
   refine oN 4 fun K hK => ?_
   have hs79 : w74.cell? ⟨gb318, 0, none⟩ = some (.int .i64 0) := (blk_cell BK318.out 0).trans rfl
   have hfs79 := blk_frozen BK318.out 0
   have hns79_0 := NB315_318.out
   have hns79_1 := NB316_318.out
   have hns79_2 := NB317_318.out
   have hns79_4 := NB345_318.out
   have hns79_5 := NB346_318.out
   have hms79_0 := NB318_315.out
   have hms79_1 := NB318_316.out
   have hms79_2 := NB318_317.out
   have hms79_4 := NB318_345.out
   have hms79_5 := NB318_346.out
   have hs80 : w74.cell? ⟨gb318, 1, none⟩ = some (.int .i64 0) := (blk_cell BK318.out 1).trans rfl
   have hfs80 := blk_frozen BK318.out 1
   have hns80_0 := NB315_318.out
   have hns80_1 := NB316_318.out
   have hns80_2 := NB317_318.out
   have hns80_4 := NB345_318.out
   have hns80_5 := NB346_318.out
   have hms80_0 := NB318_315.out
   have hms80_1 := NB318_316.out
   have hms80_2 := NB318_317.out
   have hms80_4 := NB318_345.out
   have hms80_5 := NB318_346.out
   have hs81 : w74.cell? ⟨gb318, 2, none⟩ = some (.int .i64 0) := (blk_cell BK318.out 2).trans rfl
   have hfs81 := blk_frozen BK318.out 2
   have hns81_0 := NB315_318.out
   have hns81_1 := NB316_318.out
   have hns81_2 := NB317_318.out
   have hns81_4 := NB345_318.out
   have hns81_5 := NB346_318.out
   have hms81_0 := NB318_315.out
   have hms81_1 := NB318_316.out
   have hms81_2 := NB318_317.out
   have hms81_4 := NB318_345.out
   have hms81_5 := NB318_346.out
   have hs82 : w74.cell? ⟨gb318, 3, none⟩ = some (.int .i64 0) := (blk_cell BK318.out 3).trans rfl
   have hfs82 := blk_frozen BK318.out 3
   have hns82_0 := NB315_318.out
   have hns82_1 := NB316_318.out
   have hns82_2 := NB317_318.out
   have hns82_4 := NB345_318.out
   have hns82_5 := NB346_318.out
   have hms82_0 := NB318_315.out
   have hms82_1 := NB318_316.out
   have hms82_2 := NB318_317.out
   have hms82_4 := NB318_345.out
   have hms82_5 := NB318_346.out
   refine skip_ (w1 := ?_) (by rfl) rfl ?_ ?_
   rotate_left
   ·go_simp
    rfl
   refine hK.out _ _ ⟨((cell_far (p := ⟨gb318, _, none⟩) NB346_318.out _).trans (((cell_far (p := ⟨gb318, _, none⟩) NB346_318.out _).trans (((cell_far (p := ⟨gb318, _, none⟩) NB346_318.out _).trans (((cell_far (p := ⟨gb318, _, none⟩) NB346_318.out _).trans (hHeld.1)))))))), ((cell_far (p := ⟨gb318, _, none⟩) NB346_318.out _).trans (((cell_far (p := ⟨gb318, _, none⟩) NB346_318.out _).trans (((cell_far (p := ⟨gb318, _, none⟩) NB346_318.out _).trans (((cell_far (p := ⟨gb318, _, none⟩) NB346_318.out _).trans (hHeld.2.1)))))))), ((cell_far (p := ⟨gb318, _, none⟩) NB346_318.out _).trans (((cell_far (p := ⟨gb318, _, none⟩) NB346_318.out _).trans (((cell_far (p := ⟨gb318, _, none⟩) NB346_318.out _).trans (((cell_far (p := ⟨gb318, _, none⟩) NB346_318.out _).trans (hHeld.2.2.1)))))))), ((cell_far (p := ⟨gb318, _, none⟩) NB346_318.out _).trans (((cell_far (p := ⟨gb318, _, none⟩) NB346_318.out _).trans (((cell_far (p := ⟨gb318, _, none⟩) NB346_318.out _).trans (((cell_far (p := ⟨gb318, _, none⟩) NB346_318.out _).trans (hHeld.2.2.2.1)))))))), ((cell_far (p := ⟨gb318, _, none⟩) NB345_318.out _).trans (((cell_far (p := ⟨gb318, _, none⟩) NB345_318.out _).trans (((cell_far (p := ⟨gb318, _, none⟩) NB345_318.out _).trans (((cell_far (p := ⟨gb318, _, none⟩) NB345_318.out _).trans (hHeld.2.2.2.2.1)))))))), ((cell_far (p := ⟨gb318, _, none⟩) NB345_318.out _).trans (((cell_far (p := ⟨gb318, _, none⟩) NB345_318.out _).trans (((cell_far (p := ⟨gb318, _, none⟩) NB345_318.out _).trans (((cell_far (p := ⟨gb318, _, none⟩) NB345_318.out _).trans (hHeld.2.2.2.2.2.1)))))))), ((cell_far (p := ⟨gb318, _, none⟩) NB345_318.out _).trans (((cell_far (p := ⟨gb318, _, none⟩) NB345_318.out _).trans (((cell_far (p := ⟨gb318, _, none⟩) NB345_318.out _).trans (((cell_far (p := ⟨gb318, _, none⟩) NB345_318.out _).trans (hHeld.2.2.2.2.2.2.1)))))))), ((cell_far (p := ⟨gb318, _, none⟩) NB345_318.out _).trans (((cell_far (p := ⟨gb318, _, none⟩) NB345_318.out _).trans (((cell_far (p := ⟨gb318, _, none⟩) NB345_318.out _).trans (((cell_far (p := ⟨gb318, _, none⟩) NB345_318.out _).trans (hHeld.2.2.2.2.2.2.2))))))))⟩ (fun hHeld => ?_)
   clear hK K
   refine pz 5 10 ?_
   refine done_ (by kernel_rfl) ?_
   try go_wp2
   refine bodyPost_ret (results_list (rs := [.cell 8 24, .cell 9 24, .tmp 10]) rfl (by simp) (.cell gb317 24 #[.int .i64 t340, .int .i64 t341, .int .i64 t342, .int .i64 t343] (0, 0) _ rfl (by refine fq ?_ NB317_318.out; refine fq ?_ NB317_318.out; refine fq ?_ NB317_318.out; refine fq ?_ NB317_318.out; refine bq ?_; refine blk_put (cs := #[.int .i64 t340, .int .i64 t341, .int .i64 t342, .int .i64 0]) ?_ 3 _ rfl; refine bq ?_; refine blk_put (cs := #[.int .i64 t340, .int .i64 t341, .int .i64 0, .int .i64 0]) ?_ 2 _ rfl; refine bq ?_; refine blk_put (cs := #[.int .i64 t340, .int .i64 0, .int .i64 0, .int .i64 0]) ?_ 1 _ rfl; refine bq ?_; refine blk_put (cs := #[.int .i64 0, .int .i64 0, .int .i64 0, .int .i64 0]) ?_ 0 _ rfl; exact bq BK317.out) Try.underlying24 rfl (by kernel_rfl) (.cell gb318 24 #[.int .i64 t336, .int .i64 t337, .int .i64 t338, .int .i64 t339] (0, 0) _ rfl (by refine bq ?_; refine blk_put (cs := #[.int .i64 t336, .int .i64 t337, .int .i64 t338, .int .i64 0]) ?_ 3 _ rfl; refine bq ?_; refine blk_put (cs := #[.int .i64 t336, .int .i64 t337, .int .i64 0, .int .i64 0]) ?_ 2 _ rfl; refine bq ?_; refine blk_put (cs := #[.int .i64 t336, .int .i64 0, .int .i64 0, .int .i64 0]) ?_ 1 _ rfl; refine bq ?_; refine blk_put (cs := #[.int .i64 0, .int .i64 0, .int .i64 0, .int .i64 0]) ?_ 0 _ rfl; refine fq ?_ NB318_317.out; refine fq ?_ NB318_317.out; refine fq ?_ NB318_317.out; refine fq ?_ NB318_317.out; exact bq BK318.out) Try.underlying24 rfl (by kernel_rfl) (.tmp .nil)))) rfl ?_
   exact ⟨zR, zB⟩
  ·rw [if_neg c35] at H
   have c35b0 : (a0 == 15) = false := beq_eq_false_iff_ne.mpr c35
   have c35b1 : (a0 != 15) = true := bne_iff_ne.mpr c35
   by_cases c83 : (a3 == (a0 == 12)) = true
   ·rw [if_pos c83] at H
    have c83b0 : (a3 == (a0 == 12)) = true := c83
    (try (have c83b1 : decide (a3 = (a0 == 12)) = true := by simpa using c83))
    (try (have c83b2 : (a3 == (a0 == 12)) = true := by simpa using c83))
    clear c83
    replace H := Option.bind_eq_some_iff.mp H
    obtain ⟨⟨t347, t348, t349, t350, t351⟩, A840, H⟩ := H
    try dsimp only at H
    have A84 := Aside0.mk A840
    clear A840
    simp only [Option.some.injEq, Prod.mk.injEq] at H
    obtain ⟨rfl, rfl, rfl, rfl, rfl, rfl, rfl, rfl, rfl⟩ := H
    go_enter Try.func16, Try.ntmps16
    try go_wp2_with (first | ((with_reducible refine gate_dst (N := 5) rfl ?_); refine be 5 #[.int .i64 a1_0, .int .i64 a1_1, .int .i64 a1_2, .int .i64 a1_3] 24 ?_; intro gb315 hg w85 hbox hb; have BK315 := Aside0.mk hbox; have GW315 := zW hg; replace HB := zS hb; have GE315 := GW315; clear hb hbox hg) | ((with_reducible refine gate_dst (N := 6) rfl ?_); refine be 6 #[.int .i64 a2_0, .int .i64 a2_1, .int .i64 a2_2, .int .i64 a2_3] 24 ?_; intro gb316 hg w86 hbox hb; have BK316 := Aside0.mk hbox; have GW316 := zW hg; replace HB := zS hb; have GE316 := GW316; have NB315_316 := zl BK315 hg rfl; have NB316_315 := zg BK315 hg rfl; replace BK315 := zb BK315 hb rfl; clear hb hbox hg) | ((with_reducible refine gate_dst (N := 8) rfl ?_); refine be 8 #[.int .i64 0, .int .i64 0, .int .i64 0, .int .i64 0] 24 ?_; intro gb317 hg w87 hbox hb; have BK317 := Aside0.mk hbox; have GW317 := zW hg; replace HB := zS hb; have GE317 := GW317; have NB315_317 := zl BK315 hg rfl; have NB317_315 := zg BK315 hg rfl; replace BK315 := zb BK315 hb rfl; have NB316_317 := zl BK316 hg rfl; have NB317_316 := zg BK316 hg rfl; replace BK316 := zb BK316 hb rfl; clear hb hbox hg) | ((with_reducible refine gate_dst (N := 9) rfl ?_); refine be 9 #[.int .i64 0, .int .i64 0, .int .i64 0, .int .i64 0] 24 ?_; intro gb318 hg w88 hbox hb; have BK318 := Aside0.mk hbox; have GW318 := zW hg; replace HB := zS hb; have GE318 := GW318; have NB315_318 := zl BK315 hg rfl; have NB318_315 := zg BK315 hg rfl; replace BK315 := zb BK315 hb rfl; have NB316_318 := zl BK316 hg rfl; have NB318_316 := zg BK316 hg rfl; replace BK316 := zb BK316 hb rfl; have NB317_318 := zl BK317 hg rfl; have NB318_317 := zg BK317 hg rfl; replace BK317 := zb BK317 hb rfl; clear hb hbox hg))
    replace BK315 := Aside0.mk (blk_drew BK315.out)
    replace BK316 := Aside0.mk (blk_drew BK316.out)
    replace BK317 := Aside0.mk (blk_drew BK317.out)
    replace BK318 := Aside0.mk (blk_drew BK318.out)
    replace HB := Aside0.mk (below_drew1 HB.out)
    refine start_ (n := 6) (S := fun w' => w'.cell? ⟨gb315, 0, none⟩ = some (.int .i64 a1_0) ∧ w'.cell? ⟨gb315, 1, none⟩ = some (.int .i64 a1_1) ∧ w'.cell? ⟨gb315, 2, none⟩ = some (.int .i64 a1_2) ∧ w'.cell? ⟨gb315, 3, none⟩ = some (.int .i64 a1_3) ∧ w'.cell? ⟨gb316, 0, none⟩ = some (.int .i64 a2_0) ∧ w'.cell? ⟨gb316, 1, none⟩ = some (.int .i64 a2_1) ∧ w'.cell? ⟨gb316, 2, none⟩ = some (.int .i64 a2_2) ∧ w'.cell? ⟨gb316, 3, none⟩ = some (.int .i64 a2_3)) (ds := [4, 5]) #[false, false, false, false, false, false] (by kernel_rfl) rfl rfl ⟨(blk_cell BK315.out 0).trans rfl, (blk_cell BK315.out 1).trans rfl, (blk_cell BK315.out 2).trans rfl, (blk_cell BK315.out 3).trans rfl, (blk_cell BK316.out 0).trans rfl, (blk_cell BK316.out 1).trans rfl, (blk_cell BK316.out 2).trans rfl, (blk_cell BK316.out 3).trans rfl⟩ (fun hHeld => ?_)
    generalize w88.drew = w89 at BK315 BK316 BK317 BK318 HB hHeld ⊢
    refine tz 0 20 ?_
    refine tz 2 22 ?_
    refine oz 1 21 fun K hK => ?_
    refine gz Try.func27 #[.agg #[.int .i64 a1_0, .int .i64 a1_1, .int .i64 a1_2, .int .i64 a1_3]] ?_
    with_reducible refine (impl_Range_tidy.calls a1_0 a1_1 a1_2 a1_3 t319 t320 t321 t322 _ A5.out).mono ?_
    rintro e w90 ⟨rfl, hb⟩
    refine ⟨_, rfl, ?_⟩
    replace BK315 := zb BK315 hb rfl
    replace BK316 := zb BK316 hb rfl
    replace BK317 := zb BK317 hb rfl
    replace BK318 := zb BK318 hb rfl
    replace HB := zS hb
    try clear hb
    refine hK.out _ _ ⟨(blk_cell BK315.out 0).trans rfl, (blk_cell BK315.out 1).trans rfl, (blk_cell BK315.out 2).trans rfl, (blk_cell BK315.out 3).trans rfl, (blk_cell BK316.out 0).trans rfl, (blk_cell BK316.out 1).trans rfl, (blk_cell BK316.out 2).trans rfl, (blk_cell BK316.out 3).trans rfl⟩ (fun hHeld => ?_)
    clear hK K
    refine nz ?_
    refine oz 3 23 fun K hK => ?_
    refine gz Try.func27 #[.agg #[.int .i64 a2_0, .int .i64 a2_1, .int .i64 a2_2, .int .i64 a2_3]] ?_
    with_reducible refine (impl_Range_tidy.calls a2_0 a2_1 a2_2 a2_3 t323 t324 t325 t326 _ A6.out).mono ?_
    rintro e w91 ⟨rfl, hb⟩
    refine ⟨_, rfl, ?_⟩
    replace BK315 := zb BK315 hb rfl
    replace BK316 := zb BK316 hb rfl
    replace BK317 := zb BK317 hb rfl
    replace BK318 := zb BK318 hb rfl
    replace HB := zS hb
    try clear hb
    refine hK.out _ _ ⟨(blk_cell BK315.out 0).trans rfl, (blk_cell BK315.out 1).trans rfl, (blk_cell BK315.out 2).trans rfl, (blk_cell BK315.out 3).trans rfl, (blk_cell BK316.out 0).trans rfl, (blk_cell BK316.out 1).trans rfl, (blk_cell BK316.out 2).trans rfl, (blk_cell BK316.out 3).trans rfl⟩ (fun hHeld => ?_)
    clear hK K
    refine nz ?_
    refine last_ (i := 4) (N := none) #[true, true, true, true, true, false] rfl rfl (by kernel_rfl) (by decide) (fun K hK => ?_)
    have hs92 : w91.cell? ⟨gb315, 0, none⟩ = some (.int .i64 a1_0) := (blk_cell BK315.out 0).trans rfl
    have hfs92 := blk_frozen BK315.out 0
    have hns92_1 := NB316_315.out
    have hns92_2 := NB317_315.out
    have hns92_3 := NB318_315.out
    have hms92_1 := NB315_316.out
    have hms92_2 := NB315_317.out
    have hms92_3 := NB315_318.out
    have hs93 : w91.cell? ⟨gb315, 1, none⟩ = some (.int .i64 a1_1) := (blk_cell BK315.out 1).trans rfl
    have hfs93 := blk_frozen BK315.out 1
    have hns93_1 := NB316_315.out
    have hns93_2 := NB317_315.out
    have hns93_3 := NB318_315.out
    have hms93_1 := NB315_316.out
    have hms93_2 := NB315_317.out
    have hms93_3 := NB315_318.out
    have hs94 : w91.cell? ⟨gb315, 2, none⟩ = some (.int .i64 a1_2) := (blk_cell BK315.out 2).trans rfl
    have hfs94 := blk_frozen BK315.out 2
    have hns94_1 := NB316_315.out
    have hns94_2 := NB317_315.out
    have hns94_3 := NB318_315.out
    have hms94_1 := NB315_316.out
    have hms94_2 := NB315_317.out
    have hms94_3 := NB315_318.out
    have hs95 : w91.cell? ⟨gb315, 3, none⟩ = some (.int .i64 a1_3) := (blk_cell BK315.out 3).trans rfl
    have hfs95 := blk_frozen BK315.out 3
    have hns95_1 := NB316_315.out
    have hns95_2 := NB317_315.out
    have hns95_3 := NB318_315.out
    have hms95_1 := NB315_316.out
    have hms95_2 := NB315_317.out
    have hms95_3 := NB315_318.out
    refine skip_ (w1 := ?_) (by rfl) rfl ?_ ?_
    rotate_left
    ·go_simp
     rfl
    refine hK.out _ _ ?_
    clear hK K
    refine last_ (i := 5) (N := none) #[true, true, true, true, true, true] rfl rfl (by kernel_rfl) (by decide) (fun K hK => ?_)
    have hs96 : w91.cell? ⟨gb316, 0, none⟩ = some (.int .i64 a2_0) := (blk_cell BK316.out 0).trans rfl
    have hfs96 := blk_frozen BK316.out 0
    have hns96_0 := NB315_316.out
    have hns96_2 := NB317_316.out
    have hns96_3 := NB318_316.out
    have hms96_0 := NB316_315.out
    have hms96_2 := NB316_317.out
    have hms96_3 := NB316_318.out
    have hs97 : w91.cell? ⟨gb316, 1, none⟩ = some (.int .i64 a2_1) := (blk_cell BK316.out 1).trans rfl
    have hfs97 := blk_frozen BK316.out 1
    have hns97_0 := NB315_316.out
    have hns97_2 := NB317_316.out
    have hns97_3 := NB318_316.out
    have hms97_0 := NB316_315.out
    have hms97_2 := NB316_317.out
    have hms97_3 := NB316_318.out
    have hs98 : w91.cell? ⟨gb316, 2, none⟩ = some (.int .i64 a2_2) := (blk_cell BK316.out 2).trans rfl
    have hfs98 := blk_frozen BK316.out 2
    have hns98_0 := NB315_316.out
    have hns98_2 := NB317_316.out
    have hns98_3 := NB318_316.out
    have hms98_0 := NB316_315.out
    have hms98_2 := NB316_317.out
    have hms98_3 := NB316_318.out
    have hs99 : w91.cell? ⟨gb316, 3, none⟩ = some (.int .i64 a2_3) := (blk_cell BK316.out 3).trans rfl
    have hfs99 := blk_frozen BK316.out 3
    have hns99_0 := NB315_316.out
    have hns99_2 := NB317_316.out
    have hns99_3 := NB318_316.out
    have hms99_0 := NB316_315.out
    have hms99_2 := NB316_317.out
    have hms99_3 := NB316_318.out
    refine skip_ (w1 := ?_) (by rfl) rfl ?_ ?_
    rotate_left
    ·go_simp
     rfl
    refine hK.out _ _ ?_
    clear hK K
    refine done_ (by kernel_rfl) ?_
    have hnb100 := NB315_316.out
    have hnc100 := NB316_315.out
    have hnb101 := NB315_317.out
    have hnc101 := NB317_315.out
    have hnb102 := NB315_318.out
    have hnc102 := NB318_315.out
    obtain ⟨hcz103_0, hcz103_1, hcz103_2, hcz103_3, hfz103_0, hfz103_1, hfz103_2, hfz103_3⟩ := zc4 BK315
    have hnb104 := NB316_317.out
    have hnc104 := NB317_316.out
    have hnb105 := NB316_318.out
    have hnc105 := NB318_316.out
    obtain ⟨hcz106_0, hcz106_1, hcz106_2, hcz106_3, hfz106_0, hfz106_1, hfz106_2, hfz106_3⟩ := zc4 BK316
    try go_wp2_with (first | ((with_reducible refine gate_callee (f := 29) rfl ?_); refine gl 54 Try.func29 #[.agg #[.int .i64 t319, .int .i64 t320, .int .i64 t321, .int .i64 t322], .agg #[.int .i64 t323, .int .i64 t324, .int .i64 t325, .int .i64 t326]] ?_; (with_reducible refine (impl_meet.calls k t319 t320 t321 t322 t323 t324 t325 t326 t347 t348 t349 t350 t351 _ A84.out).mono ?_); rintro e w107 ⟨rfl, hb⟩; refine ⟨_, rfl, ?_⟩; replace BK315 := Aside0.mk (blk_below (g := gb315) (o := .cells #[.int .i64 t319, .int .i64 t320, .int .i64 t321, .int .i64 t322] 24 (0, 0)) (by refine fq ?_ NB315_316.out; refine fq ?_ NB315_316.out; refine fq ?_ NB315_316.out; refine fq ?_ NB315_316.out; refine bq ?_; refine blk_put (cs := #[.int .i64 t319, .int .i64 t320, .int .i64 t321, .int .i64 a1_3]) ?_ 3 _ rfl; refine bq ?_; refine blk_put (cs := #[.int .i64 t319, .int .i64 t320, .int .i64 a1_2, .int .i64 a1_3]) ?_ 2 _ rfl; refine bq ?_; refine blk_put (cs := #[.int .i64 t319, .int .i64 a1_1, .int .i64 a1_2, .int .i64 a1_3]) ?_ 1 _ rfl; refine bq ?_; refine blk_put (cs := #[.int .i64 a1_0, .int .i64 a1_1, .int .i64 a1_2, .int .i64 a1_3]) ?_ 0 _ rfl; exact bq BK315.out) hb); replace BK316 := Aside0.mk (blk_below (g := gb316) (o := .cells #[.int .i64 t323, .int .i64 t324, .int .i64 t325, .int .i64 t326] 24 (0, 0)) (by refine bq ?_; refine blk_put (cs := #[.int .i64 t323, .int .i64 t324, .int .i64 t325, .int .i64 a2_3]) ?_ 3 _ rfl; refine bq ?_; refine blk_put (cs := #[.int .i64 t323, .int .i64 t324, .int .i64 a2_2, .int .i64 a2_3]) ?_ 2 _ rfl; refine bq ?_; refine blk_put (cs := #[.int .i64 t323, .int .i64 a2_1, .int .i64 a2_2, .int .i64 a2_3]) ?_ 1 _ rfl; refine bq ?_; refine blk_put (cs := #[.int .i64 a2_0, .int .i64 a2_1, .int .i64 a2_2, .int .i64 a2_3]) ?_ 0 _ rfl; refine fq ?_ NB316_315.out; refine fq ?_ NB316_315.out; refine fq ?_ NB316_315.out; refine fq ?_ NB316_315.out; exact bq BK316.out) hb); replace BK317 := Aside0.mk (blk_below (g := gb317) (o := .cells #[.int .i64 0, .int .i64 0, .int .i64 0, .int .i64 0] 24 (0, 0)) (by refine fq ?_ NB317_316.out; refine fq ?_ NB317_316.out; refine fq ?_ NB317_316.out; refine fq ?_ NB317_316.out; refine fq ?_ NB317_315.out; refine fq ?_ NB317_315.out; refine fq ?_ NB317_315.out; refine fq ?_ NB317_315.out; exact bq BK317.out) hb); replace BK318 := Aside0.mk (blk_below (g := gb318) (o := .cells #[.int .i64 0, .int .i64 0, .int .i64 0, .int .i64 0] 24 (0, 0)) (by refine fq ?_ NB318_316.out; refine fq ?_ NB318_316.out; refine fq ?_ NB318_316.out; refine fq ?_ NB318_316.out; refine fq ?_ NB318_315.out; refine fq ?_ NB318_315.out; refine fq ?_ NB318_315.out; refine fq ?_ NB318_315.out; exact bq BK318.out) hb); replace HB := zS hb; try clear hb) | ((with_reducible refine gate_dst (N := 14) rfl ?_); refine be 14 #[.int .i64 0, .int .i64 0, .int .i64 0, .int .i64 0] 24 ?_; intro gb352 hg w108 hbox hb; have BK352 := Aside0.mk hbox; have GW352 := zW hg; replace HB := zS hb; have GE352 := GW352; have NB315_352 := zl BK315 hg rfl; have NB352_315 := zg BK315 hg rfl; replace BK315 := zb BK315 hb rfl; have NB316_352 := zl BK316 hg rfl; have NB352_316 := zg BK316 hg rfl; replace BK316 := zb BK316 hb rfl; have NB317_352 := zl BK317 hg rfl; have NB352_317 := zg BK317 hg rfl; replace BK317 := zb BK317 hb rfl; have NB318_352 := zl BK318 hg rfl; have NB352_318 := zg BK318 hg rfl; replace BK318 := zb BK318 hb rfl; clear hb hbox hg; have hnb109 := NB352_315.out; have hnc109 := NB315_352.out; have hnb110 := NB352_316.out; have hnc110 := NB316_352.out; have hnb111 := NB352_317.out; have hnc111 := NB317_352.out; have hnb112 := NB352_318.out; have hnc112 := NB318_352.out; obtain ⟨hcz113_0, hcz113_1, hcz113_2, hcz113_3, hfz113_0, hfz113_1, hfz113_2, hfz113_3⟩ := zc4 BK352))
    have n0_ : Aside0 (((((w108.setCell ⟨gb352, 0, none⟩ (.int .i64 t347)).setCell ⟨gb352, 1, none⟩ (.int .i64 t348)).setCell ⟨gb352, 2, none⟩ (.int .i64 t349)).setCell ⟨gb352, 3, none⟩ (.int .i64 t350)).heap[gb315]? = some (.cells #[.int .i64 t319, .int .i64 t320, .int .i64 t321, .int .i64 t322] 24 (0, 0))) := ⟨by refine fq ?_ NB315_352.out; refine fq ?_ NB315_352.out; refine fq ?_ NB315_352.out; refine fq ?_ NB315_352.out; exact bq BK315.out⟩
    have n1_ : Aside0 (((((w108.setCell ⟨gb352, 0, none⟩ (.int .i64 t347)).setCell ⟨gb352, 1, none⟩ (.int .i64 t348)).setCell ⟨gb352, 2, none⟩ (.int .i64 t349)).setCell ⟨gb352, 3, none⟩ (.int .i64 t350)).heap[gb316]? = some (.cells #[.int .i64 t323, .int .i64 t324, .int .i64 t325, .int .i64 t326] 24 (0, 0))) := ⟨by refine fq ?_ NB316_352.out; refine fq ?_ NB316_352.out; refine fq ?_ NB316_352.out; refine fq ?_ NB316_352.out; exact bq BK316.out⟩
    have n2_ : Aside0 (((((w108.setCell ⟨gb352, 0, none⟩ (.int .i64 t347)).setCell ⟨gb352, 1, none⟩ (.int .i64 t348)).setCell ⟨gb352, 2, none⟩ (.int .i64 t349)).setCell ⟨gb352, 3, none⟩ (.int .i64 t350)).heap[gb317]? = some (.cells #[.int .i64 0, .int .i64 0, .int .i64 0, .int .i64 0] 24 (0, 0))) := ⟨by refine fq ?_ NB317_352.out; refine fq ?_ NB317_352.out; refine fq ?_ NB317_352.out; refine fq ?_ NB317_352.out; exact bq BK317.out⟩
    have n3_ : Aside0 (((((w108.setCell ⟨gb352, 0, none⟩ (.int .i64 t347)).setCell ⟨gb352, 1, none⟩ (.int .i64 t348)).setCell ⟨gb352, 2, none⟩ (.int .i64 t349)).setCell ⟨gb352, 3, none⟩ (.int .i64 t350)).heap[gb318]? = some (.cells #[.int .i64 0, .int .i64 0, .int .i64 0, .int .i64 0] 24 (0, 0))) := ⟨by refine fq ?_ NB318_352.out; refine fq ?_ NB318_352.out; refine fq ?_ NB318_352.out; refine fq ?_ NB318_352.out; exact bq BK318.out⟩
    have n4_ : Aside0 (((((w108.setCell ⟨gb352, 0, none⟩ (.int .i64 t347)).setCell ⟨gb352, 1, none⟩ (.int .i64 t348)).setCell ⟨gb352, 2, none⟩ (.int .i64 t349)).setCell ⟨gb352, 3, none⟩ (.int .i64 t350)).heap[gb352]? = some (.cells #[.int .i64 t347, .int .i64 t348, .int .i64 t349, .int .i64 t350] 24 (0, 0))) := ⟨by refine bq ?_; refine blk_put (cs := #[.int .i64 t347, .int .i64 t348, .int .i64 t349, .int .i64 0]) ?_ 3 _ rfl; refine bq ?_; refine blk_put (cs := #[.int .i64 t347, .int .i64 t348, .int .i64 0, .int .i64 0]) ?_ 2 _ rfl; refine bq ?_; refine blk_put (cs := #[.int .i64 t347, .int .i64 0, .int .i64 0, .int .i64 0]) ?_ 1 _ rfl; refine bq ?_; refine blk_put (cs := #[.int .i64 0, .int .i64 0, .int .i64 0, .int .i64 0]) ?_ 0 _ rfl; exact bq BK352.out⟩
    have n5_ : Aside0 (Below w.heap.size w ((((w108.setCell ⟨gb352, 0, none⟩ (.int .i64 t347)).setCell ⟨gb352, 1, none⟩ (.int .i64 t348)).setCell ⟨gb352, 2, none⟩ (.int .i64 t349)).setCell ⟨gb352, 3, none⟩ (.int .i64 t350))) := ⟨zB⟩
    (try clear BK315)
    (try clear BK316)
    (try clear BK317)
    (try clear BK318)
    (try clear BK352)
    (try clear HB)
    generalize ((((w108.setCell ⟨gb352, 0, none⟩ (.int .i64 t347)).setCell ⟨gb352, 1, none⟩ (.int .i64 t348)).setCell ⟨gb352, 2, none⟩ (.int .i64 t349)).setCell ⟨gb352, 3, none⟩ (.int .i64 t350)) = w114 at n0_ n1_ n2_ n3_ n4_ n5_ ⊢
    have BK315 := n0_
    have BK316 := n1_
    have BK317 := n2_
    have BK318 := n3_
    have BK352 := n4_
    have HB := n5_
    clear n0_ n1_ n2_ n3_ n4_ n5_
    replace BK315 := Aside0.mk (blk_drew BK315.out)
    replace BK316 := Aside0.mk (blk_drew BK316.out)
    replace BK317 := Aside0.mk (blk_drew BK317.out)
    replace BK318 := Aside0.mk (blk_drew BK318.out)
    replace BK352 := Aside0.mk (blk_drew BK352.out)
    replace HB := Aside0.mk (below_drew1 HB.out)
    refine start_ (n := 6) (S := fun w' => w'.cell? ⟨gb352, 0, none⟩ = some (.int .i64 t347) ∧ w'.cell? ⟨gb352, 1, none⟩ = some (.int .i64 t348) ∧ w'.cell? ⟨gb352, 2, none⟩ = some (.int .i64 t349) ∧ w'.cell? ⟨gb352, 3, none⟩ = some (.int .i64 t350)) (ds := []) #[false, false, false, false, false, false] (by kernel_rfl) rfl rfl ⟨(blk_cell BK352.out 0).trans rfl, (blk_cell BK352.out 1).trans rfl, (blk_cell BK352.out 2).trans rfl, (blk_cell BK352.out 3).trans rfl⟩ (fun hHeld => ?_)
    generalize w114.drew = w115 at BK315 BK316 BK317 BK318 BK352 HB hHeld ⊢
    refine pz 2 59 ?_
    refine tz 0 57 ?_
    refine tz 1 58 ?_
    refine oN 3 fun K hK => ?_
    have hs116 : w115.cell? ⟨gb317, 0, none⟩ = some (.int .i64 0) := (blk_cell BK317.out 0).trans rfl
    have hfs116 := blk_frozen BK317.out 0
    have hns116_0 := NB315_317.out
    have hns116_1 := NB316_317.out
    have hns116_3 := NB318_317.out
    have hns116_4 := NB352_317.out
    have hms116_0 := NB317_315.out
    have hms116_1 := NB317_316.out
    have hms116_3 := NB317_318.out
    have hms116_4 := NB317_352.out
    have hs117 : w115.cell? ⟨gb317, 1, none⟩ = some (.int .i64 0) := (blk_cell BK317.out 1).trans rfl
    have hfs117 := blk_frozen BK317.out 1
    have hns117_0 := NB315_317.out
    have hns117_1 := NB316_317.out
    have hns117_3 := NB318_317.out
    have hns117_4 := NB352_317.out
    have hms117_0 := NB317_315.out
    have hms117_1 := NB317_316.out
    have hms117_3 := NB317_318.out
    have hms117_4 := NB317_352.out
    have hs118 : w115.cell? ⟨gb317, 2, none⟩ = some (.int .i64 0) := (blk_cell BK317.out 2).trans rfl
    have hfs118 := blk_frozen BK317.out 2
    have hns118_0 := NB315_317.out
    have hns118_1 := NB316_317.out
    have hns118_3 := NB318_317.out
    have hns118_4 := NB352_317.out
    have hms118_0 := NB317_315.out
    have hms118_1 := NB317_316.out
    have hms118_3 := NB317_318.out
    have hms118_4 := NB317_352.out
    have hs119 : w115.cell? ⟨gb317, 3, none⟩ = some (.int .i64 0) := (blk_cell BK317.out 3).trans rfl
    have hfs119 := blk_frozen BK317.out 3
    have hns119_0 := NB315_317.out
    have hns119_1 := NB316_317.out
    have hns119_3 := NB318_317.out
    have hns119_4 := NB352_317.out
    have hms119_0 := NB317_315.out
    have hms119_1 := NB317_316.out
    have hms119_3 := NB317_318.out
    have hms119_4 := NB317_352.out
    refine skip_ (w1 := ?_) (by rfl) rfl ?_ ?_
    rotate_left
    ·go_simp
     rfl
    refine hK.out _ _ ⟨((cell_far (p := ⟨gb317, _, none⟩) NB352_317.out _).trans (((cell_far (p := ⟨gb317, _, none⟩) NB352_317.out _).trans (((cell_far (p := ⟨gb317, _, none⟩) NB352_317.out _).trans (((cell_far (p := ⟨gb317, _, none⟩) NB352_317.out _).trans (hHeld.1)))))))), ((cell_far (p := ⟨gb317, _, none⟩) NB352_317.out _).trans (((cell_far (p := ⟨gb317, _, none⟩) NB352_317.out _).trans (((cell_far (p := ⟨gb317, _, none⟩) NB352_317.out _).trans (((cell_far (p := ⟨gb317, _, none⟩) NB352_317.out _).trans (hHeld.2.1)))))))), ((cell_far (p := ⟨gb317, _, none⟩) NB352_317.out _).trans (((cell_far (p := ⟨gb317, _, none⟩) NB352_317.out _).trans (((cell_far (p := ⟨gb317, _, none⟩) NB352_317.out _).trans (((cell_far (p := ⟨gb317, _, none⟩) NB352_317.out _).trans (hHeld.2.2.1)))))))), ((cell_far (p := ⟨gb317, _, none⟩) NB352_317.out _).trans (((cell_far (p := ⟨gb317, _, none⟩) NB352_317.out _).trans (((cell_far (p := ⟨gb317, _, none⟩) NB352_317.out _).trans (((cell_far (p := ⟨gb317, _, none⟩) NB352_317.out _).trans (hHeld.2.2.2))))))))⟩ (fun hHeld => ?_)
    clear hK K
    refine oN 4 fun K hK => ?_
    have hs120 : w115.cell? ⟨gb318, 0, none⟩ = some (.int .i64 0) := (blk_cell BK318.out 0).trans rfl
    have hfs120 := blk_frozen BK318.out 0
    have hns120_0 := NB315_318.out
    have hns120_1 := NB316_318.out
    have hns120_2 := NB317_318.out
    have hns120_4 := NB352_318.out
    have hms120_0 := NB318_315.out
    have hms120_1 := NB318_316.out
    have hms120_2 := NB318_317.out
    have hms120_4 := NB318_352.out
    have hs121 : w115.cell? ⟨gb318, 1, none⟩ = some (.int .i64 0) := (blk_cell BK318.out 1).trans rfl
    have hfs121 := blk_frozen BK318.out 1
    have hns121_0 := NB315_318.out
    have hns121_1 := NB316_318.out
    have hns121_2 := NB317_318.out
    have hns121_4 := NB352_318.out
    have hms121_0 := NB318_315.out
    have hms121_1 := NB318_316.out
    have hms121_2 := NB318_317.out
    have hms121_4 := NB318_352.out
    have hs122 : w115.cell? ⟨gb318, 2, none⟩ = some (.int .i64 0) := (blk_cell BK318.out 2).trans rfl
    have hfs122 := blk_frozen BK318.out 2
    have hns122_0 := NB315_318.out
    have hns122_1 := NB316_318.out
    have hns122_2 := NB317_318.out
    have hns122_4 := NB352_318.out
    have hms122_0 := NB318_315.out
    have hms122_1 := NB318_316.out
    have hms122_2 := NB318_317.out
    have hms122_4 := NB318_352.out
    have hs123 : w115.cell? ⟨gb318, 3, none⟩ = some (.int .i64 0) := (blk_cell BK318.out 3).trans rfl
    have hfs123 := blk_frozen BK318.out 3
    have hns123_0 := NB315_318.out
    have hns123_1 := NB316_318.out
    have hns123_2 := NB317_318.out
    have hns123_4 := NB352_318.out
    have hms123_0 := NB318_315.out
    have hms123_1 := NB318_316.out
    have hms123_2 := NB318_317.out
    have hms123_4 := NB318_352.out
    refine skip_ (w1 := ?_) (by rfl) rfl ?_ ?_
    rotate_left
    ·go_simp
     rfl
    refine hK.out _ _ ⟨((cell_far (p := ⟨gb318, _, none⟩) NB352_318.out _).trans (((cell_far (p := ⟨gb318, _, none⟩) NB352_318.out _).trans (((cell_far (p := ⟨gb318, _, none⟩) NB352_318.out _).trans (((cell_far (p := ⟨gb318, _, none⟩) NB352_318.out _).trans (hHeld.1)))))))), ((cell_far (p := ⟨gb318, _, none⟩) NB352_318.out _).trans (((cell_far (p := ⟨gb318, _, none⟩) NB352_318.out _).trans (((cell_far (p := ⟨gb318, _, none⟩) NB352_318.out _).trans (((cell_far (p := ⟨gb318, _, none⟩) NB352_318.out _).trans (hHeld.2.1)))))))), ((cell_far (p := ⟨gb318, _, none⟩) NB352_318.out _).trans (((cell_far (p := ⟨gb318, _, none⟩) NB352_318.out _).trans (((cell_far (p := ⟨gb318, _, none⟩) NB352_318.out _).trans (((cell_far (p := ⟨gb318, _, none⟩) NB352_318.out _).trans (hHeld.2.2.1)))))))), ((cell_far (p := ⟨gb318, _, none⟩) NB352_318.out _).trans (((cell_far (p := ⟨gb318, _, none⟩) NB352_318.out _).trans (((cell_far (p := ⟨gb318, _, none⟩) NB352_318.out _).trans (((cell_far (p := ⟨gb318, _, none⟩) NB352_318.out _).trans (hHeld.2.2.2))))))))⟩ (fun hHeld => ?_)
    clear hK K
    refine pz 5 10 ?_
    refine done_ (by kernel_rfl) ?_
    try go_wp2
    refine bodyPost_ret (results_list (rs := [.cell 8 24, .cell 9 24, .tmp 10]) rfl (by simp) (.cell gb317 24 #[.int .i64 t347, .int .i64 t348, .int .i64 t349, .int .i64 t350] (0, 0) _ rfl (by refine fq ?_ NB317_318.out; refine fq ?_ NB317_318.out; refine fq ?_ NB317_318.out; refine fq ?_ NB317_318.out; refine bq ?_; refine blk_put (cs := #[.int .i64 t347, .int .i64 t348, .int .i64 t349, .int .i64 0]) ?_ 3 _ rfl; refine bq ?_; refine blk_put (cs := #[.int .i64 t347, .int .i64 t348, .int .i64 0, .int .i64 0]) ?_ 2 _ rfl; refine bq ?_; refine blk_put (cs := #[.int .i64 t347, .int .i64 0, .int .i64 0, .int .i64 0]) ?_ 1 _ rfl; refine bq ?_; refine blk_put (cs := #[.int .i64 0, .int .i64 0, .int .i64 0, .int .i64 0]) ?_ 0 _ rfl; exact bq BK317.out) Try.underlying24 rfl (by kernel_rfl) (.cell gb318 24 #[.int .i64 t347, .int .i64 t348, .int .i64 t349, .int .i64 t350] (0, 0) _ rfl (by refine bq ?_; refine blk_put (cs := #[.int .i64 t347, .int .i64 t348, .int .i64 t349, .int .i64 0]) ?_ 3 _ rfl; refine bq ?_; refine blk_put (cs := #[.int .i64 t347, .int .i64 t348, .int .i64 0, .int .i64 0]) ?_ 2 _ rfl; refine bq ?_; refine blk_put (cs := #[.int .i64 t347, .int .i64 0, .int .i64 0, .int .i64 0]) ?_ 1 _ rfl; refine bq ?_; refine blk_put (cs := #[.int .i64 0, .int .i64 0, .int .i64 0, .int .i64 0]) ?_ 0 _ rfl; refine fq ?_ NB318_317.out; refine fq ?_ NB318_317.out; refine fq ?_ NB318_317.out; refine fq ?_ NB318_317.out; exact bq BK318.out) Try.underlying24 rfl (by kernel_rfl) (.tmp .nil)))) rfl ?_
    exact ⟨zR, zB⟩
   ·rw [if_neg c83] at H
    have c83b0 : (a3 == (a0 == 12)) = false := by simpa using c83
    (try (have c83b1 : decide (a3 = (a0 == 12)) = false := by simpa using c83))
    (try (have c83b2 : (a3 == (a0 == 12)) = false := by simpa using c83))
    (try (have c83b3 : ¬ (a3 = (a0 == 12)) := by simpa using c83))
    clear c83
    replace H := Option.bind_eq_some_iff.mp H
    obtain ⟨⟨t353, t354, t355, t356, t357⟩, A1240, H⟩ := H
    try dsimp only at H
    have A124 := Aside0.mk A1240
    clear A1240
    replace H := Option.bind_eq_some_iff.mp H
    obtain ⟨⟨t359, t360, t361, t362, t363⟩, A1250, H⟩ := H
    try dsimp only at H
    have A125 := Aside0.mk A1250
    clear A1250
    have HC126 := Aside0.mk H
    clear H
    go_enter Try.func16, Try.ntmps16
    try go_wp2_with (first | ((with_reducible refine gate_dst (N := 5) rfl ?_); refine be 5 #[.int .i64 a1_0, .int .i64 a1_1, .int .i64 a1_2, .int .i64 a1_3] 24 ?_; intro gb315 hg w127 hbox hb; have BK315 := Aside0.mk hbox; have GW315 := zW hg; replace HB := zS hb; have GE315 := GW315; clear hb hbox hg) | ((with_reducible refine gate_dst (N := 6) rfl ?_); refine be 6 #[.int .i64 a2_0, .int .i64 a2_1, .int .i64 a2_2, .int .i64 a2_3] 24 ?_; intro gb316 hg w128 hbox hb; have BK316 := Aside0.mk hbox; have GW316 := zW hg; replace HB := zS hb; have GE316 := GW316; have NB315_316 := zl BK315 hg rfl; have NB316_315 := zg BK315 hg rfl; replace BK315 := zb BK315 hb rfl; clear hb hbox hg) | ((with_reducible refine gate_dst (N := 8) rfl ?_); refine be 8 #[.int .i64 0, .int .i64 0, .int .i64 0, .int .i64 0] 24 ?_; intro gb317 hg w129 hbox hb; have BK317 := Aside0.mk hbox; have GW317 := zW hg; replace HB := zS hb; have GE317 := GW317; have NB315_317 := zl BK315 hg rfl; have NB317_315 := zg BK315 hg rfl; replace BK315 := zb BK315 hb rfl; have NB316_317 := zl BK316 hg rfl; have NB317_316 := zg BK316 hg rfl; replace BK316 := zb BK316 hb rfl; clear hb hbox hg) | ((with_reducible refine gate_dst (N := 9) rfl ?_); refine be 9 #[.int .i64 0, .int .i64 0, .int .i64 0, .int .i64 0] 24 ?_; intro gb318 hg w130 hbox hb; have BK318 := Aside0.mk hbox; have GW318 := zW hg; replace HB := zS hb; have GE318 := GW318; have NB315_318 := zl BK315 hg rfl; have NB318_315 := zg BK315 hg rfl; replace BK315 := zb BK315 hb rfl; have NB316_318 := zl BK316 hg rfl; have NB318_316 := zg BK316 hg rfl; replace BK316 := zb BK316 hb rfl; have NB317_318 := zl BK317 hg rfl; have NB318_317 := zg BK317 hg rfl; replace BK317 := zb BK317 hb rfl; clear hb hbox hg))
    replace BK315 := Aside0.mk (blk_drew BK315.out)
    replace BK316 := Aside0.mk (blk_drew BK316.out)
    replace BK317 := Aside0.mk (blk_drew BK317.out)
    replace BK318 := Aside0.mk (blk_drew BK318.out)
    replace HB := Aside0.mk (below_drew1 HB.out)
    refine start_ (n := 6) (S := fun w' => w'.cell? ⟨gb315, 0, none⟩ = some (.int .i64 a1_0) ∧ w'.cell? ⟨gb315, 1, none⟩ = some (.int .i64 a1_1) ∧ w'.cell? ⟨gb315, 2, none⟩ = some (.int .i64 a1_2) ∧ w'.cell? ⟨gb315, 3, none⟩ = some (.int .i64 a1_3) ∧ w'.cell? ⟨gb316, 0, none⟩ = some (.int .i64 a2_0) ∧ w'.cell? ⟨gb316, 1, none⟩ = some (.int .i64 a2_1) ∧ w'.cell? ⟨gb316, 2, none⟩ = some (.int .i64 a2_2) ∧ w'.cell? ⟨gb316, 3, none⟩ = some (.int .i64 a2_3)) (ds := [4, 5]) #[false, false, false, false, false, false] (by kernel_rfl) rfl rfl ⟨(blk_cell BK315.out 0).trans rfl, (blk_cell BK315.out 1).trans rfl, (blk_cell BK315.out 2).trans rfl, (blk_cell BK315.out 3).trans rfl, (blk_cell BK316.out 0).trans rfl, (blk_cell BK316.out 1).trans rfl, (blk_cell BK316.out 2).trans rfl, (blk_cell BK316.out 3).trans rfl⟩ (fun hHeld => ?_)
    generalize w130.drew = w131 at BK315 BK316 BK317 BK318 HB hHeld ⊢
    refine tz 0 20 ?_
    refine tz 2 22 ?_
    refine oz 1 21 fun K hK => ?_
    refine gz Try.func27 #[.agg #[.int .i64 a1_0, .int .i64 a1_1, .int .i64 a1_2, .int .i64 a1_3]] ?_
    with_reducible refine (impl_Range_tidy.calls a1_0 a1_1 a1_2 a1_3 t319 t320 t321 t322 _ A5.out).mono ?_
    rintro e w132 ⟨rfl, hb⟩
    refine ⟨_, rfl, ?_⟩
    replace BK315 := zb BK315 hb rfl
    replace BK316 := zb BK316 hb rfl
    replace BK317 := zb BK317 hb rfl
    replace BK318 := zb BK318 hb rfl
    replace HB := zS hb
    try clear hb
    refine hK.out _ _ ⟨(blk_cell BK315.out 0).trans rfl, (blk_cell BK315.out 1).trans rfl, (blk_cell BK315.out 2).trans rfl, (blk_cell BK315.out 3).trans rfl, (blk_cell BK316.out 0).trans rfl, (blk_cell BK316.out 1).trans rfl, (blk_cell BK316.out 2).trans rfl, (blk_cell BK316.out 3).trans rfl⟩ (fun hHeld => ?_)
    clear hK K
    refine nz ?_
    refine oz 3 23 fun K hK => ?_
    refine gz Try.func27 #[.agg #[.int .i64 a2_0, .int .i64 a2_1, .int .i64 a2_2, .int .i64 a2_3]] ?_
    with_reducible refine (impl_Range_tidy.calls a2_0 a2_1 a2_2 a2_3 t323 t324 t325 t326 _ A6.out).mono ?_
    rintro e w133 ⟨rfl, hb⟩
    refine ⟨_, rfl, ?_⟩
    replace BK315 := zb BK315 hb rfl
    replace BK316 := zb BK316 hb rfl
    replace BK317 := zb BK317 hb rfl
    replace BK318 := zb BK318 hb rfl
    replace HB := zS hb
    try clear hb
    refine hK.out _ _ ⟨(blk_cell BK315.out 0).trans rfl, (blk_cell BK315.out 1).trans rfl, (blk_cell BK315.out 2).trans rfl, (blk_cell BK315.out 3).trans rfl, (blk_cell BK316.out 0).trans rfl, (blk_cell BK316.out 1).trans rfl, (blk_cell BK316.out 2).trans rfl, (blk_cell BK316.out 3).trans rfl⟩ (fun hHeld => ?_)
    clear hK K
    refine nz ?_
    refine last_ (i := 4) (N := none) #[true, true, true, true, true, false] rfl rfl (by kernel_rfl) (by decide) (fun K hK => ?_)
    have hs134 : w133.cell? ⟨gb315, 0, none⟩ = some (.int .i64 a1_0) := (blk_cell BK315.out 0).trans rfl
    have hfs134 := blk_frozen BK315.out 0
    have hns134_1 := NB316_315.out
    have hns134_2 := NB317_315.out
    have hns134_3 := NB318_315.out
    have hms134_1 := NB315_316.out
    have hms134_2 := NB315_317.out
    have hms134_3 := NB315_318.out
    have hs135 : w133.cell? ⟨gb315, 1, none⟩ = some (.int .i64 a1_1) := (blk_cell BK315.out 1).trans rfl
    have hfs135 := blk_frozen BK315.out 1
    have hns135_1 := NB316_315.out
    have hns135_2 := NB317_315.out
    have hns135_3 := NB318_315.out
    have hms135_1 := NB315_316.out
    have hms135_2 := NB315_317.out
    have hms135_3 := NB315_318.out
    have hs136 : w133.cell? ⟨gb315, 2, none⟩ = some (.int .i64 a1_2) := (blk_cell BK315.out 2).trans rfl
    have hfs136 := blk_frozen BK315.out 2
    have hns136_1 := NB316_315.out
    have hns136_2 := NB317_315.out
    have hns136_3 := NB318_315.out
    have hms136_1 := NB315_316.out
    have hms136_2 := NB315_317.out
    have hms136_3 := NB315_318.out
    have hs137 : w133.cell? ⟨gb315, 3, none⟩ = some (.int .i64 a1_3) := (blk_cell BK315.out 3).trans rfl
    have hfs137 := blk_frozen BK315.out 3
    have hns137_1 := NB316_315.out
    have hns137_2 := NB317_315.out
    have hns137_3 := NB318_315.out
    have hms137_1 := NB315_316.out
    have hms137_2 := NB315_317.out
    have hms137_3 := NB315_318.out
    refine skip_ (w1 := ?_) (by rfl) rfl ?_ ?_
    rotate_left
    ·go_simp
     rfl
    refine hK.out _ _ ?_
    clear hK K
    refine last_ (i := 5) (N := none) #[true, true, true, true, true, true] rfl rfl (by kernel_rfl) (by decide) (fun K hK => ?_)
    have hs138 : w133.cell? ⟨gb316, 0, none⟩ = some (.int .i64 a2_0) := (blk_cell BK316.out 0).trans rfl
    have hfs138 := blk_frozen BK316.out 0
    have hns138_0 := NB315_316.out
    have hns138_2 := NB317_316.out
    have hns138_3 := NB318_316.out
    have hms138_0 := NB316_315.out
    have hms138_2 := NB316_317.out
    have hms138_3 := NB316_318.out
    have hs139 : w133.cell? ⟨gb316, 1, none⟩ = some (.int .i64 a2_1) := (blk_cell BK316.out 1).trans rfl
    have hfs139 := blk_frozen BK316.out 1
    have hns139_0 := NB315_316.out
    have hns139_2 := NB317_316.out
    have hns139_3 := NB318_316.out
    have hms139_0 := NB316_315.out
    have hms139_2 := NB316_317.out
    have hms139_3 := NB316_318.out
    have hs140 : w133.cell? ⟨gb316, 2, none⟩ = some (.int .i64 a2_2) := (blk_cell BK316.out 2).trans rfl
    have hfs140 := blk_frozen BK316.out 2
    have hns140_0 := NB315_316.out
    have hns140_2 := NB317_316.out
    have hns140_3 := NB318_316.out
    have hms140_0 := NB316_315.out
    have hms140_2 := NB316_317.out
    have hms140_3 := NB316_318.out
    have hs141 : w133.cell? ⟨gb316, 3, none⟩ = some (.int .i64 a2_3) := (blk_cell BK316.out 3).trans rfl
    have hfs141 := blk_frozen BK316.out 3
    have hns141_0 := NB315_316.out
    have hns141_2 := NB317_316.out
    have hns141_3 := NB318_316.out
    have hms141_0 := NB316_315.out
    have hms141_2 := NB316_317.out
    have hms141_3 := NB316_318.out
    refine skip_ (w1 := ?_) (by rfl) rfl ?_ ?_
    rotate_left
    ·go_simp
     rfl
    refine hK.out _ _ ?_
    clear hK K
    refine done_ (by kernel_rfl) ?_
    have hnb142 := NB315_316.out
    have hnc142 := NB316_315.out
    have hnb143 := NB315_317.out
    have hnc143 := NB317_315.out
    have hnb144 := NB315_318.out
    have hnc144 := NB318_315.out
    obtain ⟨hcz145_0, hcz145_1, hcz145_2, hcz145_3, hfz145_0, hfz145_1, hfz145_2, hfz145_3⟩ := zc4 BK315
    have hnb146 := NB316_317.out
    have hnc146 := NB317_316.out
    have hnb147 := NB316_318.out
    have hnc147 := NB318_316.out
    obtain ⟨hcz148_0, hcz148_1, hcz148_2, hcz148_3, hfz148_0, hfz148_1, hfz148_2, hfz148_3⟩ := zc4 BK316
    go_upto_region 13 with (first | ((with_reducible refine gate_callee (f := 30) rfl ?_); refine gl 63 Try.func30 #[.agg #[.int .i64 t319, .int .i64 t320, .int .i64 t321, .int .i64 t322], .agg #[.int .i64 t323, .int .i64 t324, .int .i64 t325, .int .i64 t326]] ?_; (with_reducible refine (impl_Range_but.calls k t319 t320 t321 t322 t323 t324 t325 t326 t353 t354 t355 t356 t357 _ A124.out).mono ?_); rintro e w149 ⟨rfl, hb⟩; refine ⟨_, rfl, ?_⟩; replace BK315 := Aside0.mk (blk_below (g := gb315) (o := .cells #[.int .i64 t319, .int .i64 t320, .int .i64 t321, .int .i64 t322] 24 (0, 0)) (by refine fq ?_ NB315_316.out; refine fq ?_ NB315_316.out; refine fq ?_ NB315_316.out; refine fq ?_ NB315_316.out; refine bq ?_; refine blk_put (cs := #[.int .i64 t319, .int .i64 t320, .int .i64 t321, .int .i64 a1_3]) ?_ 3 _ rfl; refine bq ?_; refine blk_put (cs := #[.int .i64 t319, .int .i64 t320, .int .i64 a1_2, .int .i64 a1_3]) ?_ 2 _ rfl; refine bq ?_; refine blk_put (cs := #[.int .i64 t319, .int .i64 a1_1, .int .i64 a1_2, .int .i64 a1_3]) ?_ 1 _ rfl; refine bq ?_; refine blk_put (cs := #[.int .i64 a1_0, .int .i64 a1_1, .int .i64 a1_2, .int .i64 a1_3]) ?_ 0 _ rfl; exact bq BK315.out) hb); replace BK316 := Aside0.mk (blk_below (g := gb316) (o := .cells #[.int .i64 t323, .int .i64 t324, .int .i64 t325, .int .i64 t326] 24 (0, 0)) (by refine bq ?_; refine blk_put (cs := #[.int .i64 t323, .int .i64 t324, .int .i64 t325, .int .i64 a2_3]) ?_ 3 _ rfl; refine bq ?_; refine blk_put (cs := #[.int .i64 t323, .int .i64 t324, .int .i64 a2_2, .int .i64 a2_3]) ?_ 2 _ rfl; refine bq ?_; refine blk_put (cs := #[.int .i64 t323, .int .i64 a2_1, .int .i64 a2_2, .int .i64 a2_3]) ?_ 1 _ rfl; refine bq ?_; refine blk_put (cs := #[.int .i64 a2_0, .int .i64 a2_1, .int .i64 a2_2, .int .i64 a2_3]) ?_ 0 _ rfl; refine fq ?_ NB316_315.out; refine fq ?_ NB316_315.out; refine fq ?_ NB316_315.out; refine fq ?_ NB316_315.out; exact bq BK316.out) hb); replace BK317 := Aside0.mk (blk_below (g := gb317) (o := .cells #[.int .i64 0, .int .i64 0, .int .i64 0, .int .i64 0] 24 (0, 0)) (by refine fq ?_ NB317_316.out; refine fq ?_ NB317_316.out; refine fq ?_ NB317_316.out; refine fq ?_ NB317_316.out; refine fq ?_ NB317_315.out; refine fq ?_ NB317_315.out; refine fq ?_ NB317_315.out; refine fq ?_ NB317_315.out; exact bq BK317.out) hb); replace BK318 := Aside0.mk (blk_below (g := gb318) (o := .cells #[.int .i64 0, .int .i64 0, .int .i64 0, .int .i64 0] 24 (0, 0)) (by refine fq ?_ NB318_316.out; refine fq ?_ NB318_316.out; refine fq ?_ NB318_316.out; refine fq ?_ NB318_316.out; refine fq ?_ NB318_315.out; refine fq ?_ NB318_315.out; refine fq ?_ NB318_315.out; refine fq ?_ NB318_315.out; exact bq BK318.out) hb); replace HB := zS hb; try clear hb) | ((with_reducible refine gate_dst (N := 16) rfl ?_); refine be 16 #[.int .i64 0, .int .i64 0, .int .i64 0, .int .i64 0] 24 ?_; intro gb358 hg w150 hbox hb; have BK358 := Aside0.mk hbox; have GW358 := zW hg; replace HB := zS hb; have GE358 := GW358; have NB315_358 := zl BK315 hg rfl; have NB358_315 := zg BK315 hg rfl; replace BK315 := zb BK315 hb rfl; have NB316_358 := zl BK316 hg rfl; have NB358_316 := zg BK316 hg rfl; replace BK316 := zb BK316 hb rfl; have NB317_358 := zl BK317 hg rfl; have NB358_317 := zg BK317 hg rfl; replace BK317 := zb BK317 hb rfl; have NB318_358 := zl BK318 hg rfl; have NB358_318 := zg BK318 hg rfl; replace BK318 := zb BK318 hb rfl; clear hb hbox hg; have hnb151 := NB358_315.out; have hnc151 := NB315_358.out; have hnb152 := NB358_316.out; have hnc152 := NB316_358.out; have hnb153 := NB358_317.out; have hnc153 := NB317_358.out; have hnb154 := NB358_318.out; have hnc154 := NB318_358.out; obtain ⟨hcz155_0, hcz155_1, hcz155_2, hcz155_3, hfz155_0, hfz155_1, hfz155_2, hfz155_3⟩ := zc4 BK358; obtain ⟨hcz156_0, hcz156_1, hcz156_2, hcz156_3, hfz156_0, hfz156_1, hfz156_2, hfz156_3⟩ := zc4 BK316; obtain ⟨hcz157_0, hcz157_1, hcz157_2, hcz157_3, hfz157_0, hfz157_1, hfz157_2, hfz157_3⟩ := zc4 BK315) | ((with_reducible refine gate_callee (f := 30) rfl ?_); refine gl 69 Try.func30 #[.agg #[.int .i64 t323, .int .i64 t324, .int .i64 t325, .int .i64 t326], .agg #[.int .i64 t319, .int .i64 t320, .int .i64 t321, .int .i64 t322]] ?_; (with_reducible refine (impl_Range_but.calls k t323 t324 t325 t326 t319 t320 t321 t322 t359 t360 t361 t362 t363 _ A125.out).mono ?_); rintro e w158 ⟨rfl, hb⟩; refine ⟨_, rfl, ?_⟩; replace BK315 := Aside0.mk (blk_below (g := gb315) (o := .cells #[.int .i64 t319, .int .i64 t320, .int .i64 t321, .int .i64 t322] 24 (0, 0)) (by refine fq ?_ NB315_358.out; refine fq ?_ NB315_358.out; refine fq ?_ NB315_358.out; refine fq ?_ NB315_358.out; exact bq BK315.out) hb); replace BK316 := Aside0.mk (blk_below (g := gb316) (o := .cells #[.int .i64 t323, .int .i64 t324, .int .i64 t325, .int .i64 t326] 24 (0, 0)) (by refine fq ?_ NB316_358.out; refine fq ?_ NB316_358.out; refine fq ?_ NB316_358.out; refine fq ?_ NB316_358.out; exact bq BK316.out) hb); replace BK317 := Aside0.mk (blk_below (g := gb317) (o := .cells #[.int .i64 0, .int .i64 0, .int .i64 0, .int .i64 0] 24 (0, 0)) (by refine fq ?_ NB317_358.out; refine fq ?_ NB317_358.out; refine fq ?_ NB317_358.out; refine fq ?_ NB317_358.out; exact bq BK317.out) hb); replace BK318 := Aside0.mk (blk_below (g := gb318) (o := .cells #[.int .i64 0, .int .i64 0, .int .i64 0, .int .i64 0] 24 (0, 0)) (by refine fq ?_ NB318_358.out; refine fq ?_ NB318_358.out; refine fq ?_ NB318_358.out; refine fq ?_ NB318_358.out; exact bq BK318.out) hb); replace BK358 := Aside0.mk (blk_below (g := gb358) (o := .cells #[.int .i64 t353, .int .i64 t354, .int .i64 t355, .int .i64 t356] 24 (0, 0)) (by refine bq ?_; refine blk_put (cs := #[.int .i64 t353, .int .i64 t354, .int .i64 t355, .int .i64 0]) ?_ 3 _ rfl; refine bq ?_; refine blk_put (cs := #[.int .i64 t353, .int .i64 t354, .int .i64 0, .int .i64 0]) ?_ 2 _ rfl; refine bq ?_; refine blk_put (cs := #[.int .i64 t353, .int .i64 0, .int .i64 0, .int .i64 0]) ?_ 1 _ rfl; refine bq ?_; refine blk_put (cs := #[.int .i64 0, .int .i64 0, .int .i64 0, .int .i64 0]) ?_ 0 _ rfl; exact bq BK358.out) hb); replace HB := zS hb; try clear hb) | ((with_reducible refine gate_dst (N := 18) rfl ?_); refine be 18 #[.int .i64 0, .int .i64 0, .int .i64 0, .int .i64 0] 24 ?_; intro gb364 hg w159 hbox hb; have BK364 := Aside0.mk hbox; have GW364 := zW hg; replace HB := zS hb; have GE364 := GW364; have NB315_364 := zl BK315 hg rfl; have NB364_315 := zg BK315 hg rfl; replace BK315 := zb BK315 hb rfl; have NB316_364 := zl BK316 hg rfl; have NB364_316 := zg BK316 hg rfl; replace BK316 := zb BK316 hb rfl; have NB317_364 := zl BK317 hg rfl; have NB364_317 := zg BK317 hg rfl; replace BK317 := zb BK317 hb rfl; have NB318_364 := zl BK318 hg rfl; have NB364_318 := zg BK318 hg rfl; replace BK318 := zb BK318 hb rfl; have NB358_364 := zl BK358 hg rfl; have NB364_358 := zg BK358 hg rfl; replace BK358 := zb BK358 hb rfl; clear hb hbox hg; have hnb160 := NB364_315.out; have hnc160 := NB315_364.out; have hnb161 := NB364_316.out; have hnc161 := NB316_364.out; have hnb162 := NB364_317.out; have hnc162 := NB317_364.out; have hnb163 := NB364_318.out; have hnc163 := NB318_364.out; have hnb164 := NB364_358.out; have hnc164 := NB358_364.out; obtain ⟨hcz165_0, hcz165_1, hcz165_2, hcz165_3, hfz165_0, hfz165_1, hfz165_2, hfz165_3⟩ := zc4 BK364))
    (try simp only [Act.put, List.setIfInBounds_toArray, List.set_cons_zero, List.set_cons_succ])
    go_cut [77] (fun v77 wc => ∃ (kq : Nat) (x77_125 : Bool), v77 = .bool x77_125 ∧ Aside0 (impl_branch.j0 kq x77_125 t353 t354 t355 t356 t359 t360 t361 t362 = some (r1, r2, r3, r4, r5, r6, r7, r8, r9)) ∧ Aside0 (kq ≤ k) ∧ Aside0 (wc.heap[gb315]? = some (.cells #[.int .i64 t319, .int .i64 t320, .int .i64 t321, .int .i64 t322] 24 (0, 0))) ∧ Aside0 (wc.heap[gb316]? = some (.cells #[.int .i64 t323, .int .i64 t324, .int .i64 t325, .int .i64 t326] 24 (0, 0))) ∧ Aside0 (wc.heap[gb317]? = some (.cells #[.int .i64 0, .int .i64 0, .int .i64 0, .int .i64 0] 24 (0, 0))) ∧ Aside0 (wc.heap[gb318]? = some (.cells #[.int .i64 0, .int .i64 0, .int .i64 0, .int .i64 0] 24 (0, 0))) ∧ Aside0 (wc.heap[gb358]? = some (.cells #[.int .i64 t353, .int .i64 t354, .int .i64 t355, .int .i64 t356] 24 (0, 0))) ∧ Aside0 (wc.heap[gb364]? = some (.cells #[.int .i64 t359, .int .i64 t360, .int .i64 t361, .int .i64 t362] 24 (0, 0))) ∧ Aside0 (Below w.heap.size w wc))
    case first =>
     have H := HC126.out
     clear HC126
     by_cases c166 : t357 = true
     ·subst c166
      rw [if_pos rfl] at H
      have H' := Aside0.mk H
      clear H
      go_wp2
      go_meet
      case rel => exact ⟨_, (!t363), (by first | rfl | (simp; done) | (simp [*]; done)), H', ⟨by first | omega | exact Nat.le_refl _⟩, ⟨by refine fq ?_ NB315_364.out; refine fq ?_ NB315_364.out; refine fq ?_ NB315_364.out; refine fq ?_ NB315_364.out; exact bq BK315.out⟩, ⟨by refine fq ?_ NB316_364.out; refine fq ?_ NB316_364.out; refine fq ?_ NB316_364.out; refine fq ?_ NB316_364.out; exact bq BK316.out⟩, ⟨by refine fq ?_ NB317_364.out; refine fq ?_ NB317_364.out; refine fq ?_ NB317_364.out; refine fq ?_ NB317_364.out; exact bq BK317.out⟩, ⟨by refine fq ?_ NB318_364.out; refine fq ?_ NB318_364.out; refine fq ?_ NB318_364.out; refine fq ?_ NB318_364.out; exact bq BK318.out⟩, ⟨by refine fq ?_ NB358_364.out; refine fq ?_ NB358_364.out; refine fq ?_ NB358_364.out; refine fq ?_ NB358_364.out; exact bq BK358.out⟩, ⟨by refine bq ?_; refine blk_put (cs := #[.int .i64 t359, .int .i64 t360, .int .i64 t361, .int .i64 0]) ?_ 3 _ rfl; refine bq ?_; refine blk_put (cs := #[.int .i64 t359, .int .i64 t360, .int .i64 0, .int .i64 0]) ?_ 2 _ rfl; refine bq ?_; refine blk_put (cs := #[.int .i64 t359, .int .i64 0, .int .i64 0, .int .i64 0]) ?_ 1 _ rfl; refine bq ?_; refine blk_put (cs := #[.int .i64 0, .int .i64 0, .int .i64 0, .int .i64 0]) ?_ 0 _ rfl; exact bq BK364.out⟩, ⟨zB⟩⟩
     ·replace c166 := Bool.eq_false_iff.mpr c166
      subst c166
      rw [if_neg (show ¬ (false = true) by decide)] at H
      have H' := Aside0.mk H
      clear H
      go_wp2
      go_meet
      case rel => exact ⟨_, (true), (by first | rfl | (simp; done) | (simp [*]; done)), H', ⟨by first | omega | exact Nat.le_refl _⟩, ⟨by refine fq ?_ NB315_364.out; refine fq ?_ NB315_364.out; refine fq ?_ NB315_364.out; refine fq ?_ NB315_364.out; exact bq BK315.out⟩, ⟨by refine fq ?_ NB316_364.out; refine fq ?_ NB316_364.out; refine fq ?_ NB316_364.out; refine fq ?_ NB316_364.out; exact bq BK316.out⟩, ⟨by refine fq ?_ NB317_364.out; refine fq ?_ NB317_364.out; refine fq ?_ NB317_364.out; refine fq ?_ NB317_364.out; exact bq BK317.out⟩, ⟨by refine fq ?_ NB318_364.out; refine fq ?_ NB318_364.out; refine fq ?_ NB318_364.out; refine fq ?_ NB318_364.out; exact bq BK318.out⟩, ⟨by refine fq ?_ NB358_364.out; refine fq ?_ NB358_364.out; refine fq ?_ NB358_364.out; refine fq ?_ NB358_364.out; exact bq BK358.out⟩, ⟨by refine bq ?_; refine blk_put (cs := #[.int .i64 t359, .int .i64 t360, .int .i64 t361, .int .i64 0]) ?_ 3 _ rfl; refine bq ?_; refine blk_put (cs := #[.int .i64 t359, .int .i64 t360, .int .i64 0, .int .i64 0]) ?_ 2 _ rfl; refine bq ?_; refine blk_put (cs := #[.int .i64 t359, .int .i64 0, .int .i64 0, .int .i64 0]) ?_ 1 _ rfl; refine bq ?_; refine blk_put (cs := #[.int .i64 0, .int .i64 0, .int .i64 0, .int .i64 0]) ?_ 0 _ rfl; exact bq BK364.out⟩, ⟨zB⟩⟩
    case rest =>
     clear HC126
     try clear c1
     try clear c2
     try clear p2
     try clear c3
     try clear c8
     try clear c10
     try clear c11
     try clear c14
     try clear c15
     try clear c16
     try clear c27
     try clear c29
     try clear c30
     try clear c83
     try clear c83b0
     try clear c83b1
     try clear c83b2
     try clear c100
     try clear c101
     try clear c102
     try clear c104
     try clear c105
     try clear c109
     try clear c110
     try clear c111
     try clear c112
     try clear c142
     try clear c143
     try clear c144
     try clear c146
     try clear c147
     try clear c151
     try clear c152
     try clear c153
     try clear c154
     try clear c160
     try clear c161
     try clear c162
     try clear c163
     try clear c164
     try clear c166
     try clear hcz103_0 hcz103_1 hcz103_2 hcz103_3 hfz103_0 hfz103_1 hfz103_2 hfz103_3
     try clear hcz106_0 hcz106_1 hcz106_2 hcz106_3 hfz106_0 hfz106_1 hfz106_2 hfz106_3
     try clear hcz113_0 hcz113_1 hcz113_2 hcz113_3 hfz113_0 hfz113_1 hfz113_2 hfz113_3
     try clear hcz145_0 hcz145_1 hcz145_2 hcz145_3 hfz145_0 hfz145_1 hfz145_2 hfz145_3
     try clear hcz148_0 hcz148_1 hcz148_2 hcz148_3 hfz148_0 hfz148_1 hfz148_2 hfz148_3
     try clear hcz155_0 hcz155_1 hcz155_2 hcz155_3 hfz155_0 hfz155_1 hfz155_2 hfz155_3
     try clear hcz156_0 hcz156_1 hcz156_2 hcz156_3 hfz156_0 hfz156_1 hfz156_2 hfz156_3
     try clear hcz157_0 hcz157_1 hcz157_2 hcz157_3 hfz157_0 hfz157_1 hfz157_2 hfz157_3
     try clear hcz165_0 hcz165_1 hcz165_2 hcz165_3 hfz165_0 hfz165_1 hfz165_2 hfz165_3
     obtain ⟨kq, x77_125, rfl, HA, HJ125, BK315, BK316, BK317, BK318, BK358, BK364, HB⟩ := hcut
     cases kq with
     | zero => exact absurd HA.out (by simp [impl_branch.j0])
     | succ kj125 =>
      have H := HA.out
      clear HA
      simp only [impl_branch.j0] at H
      by_cases c167 : x77_125 = true
      ·subst c167
       rw [if_pos rfl] at H
       replace H := Option.bind_eq_some_iff.mp H
       obtain ⟨⟨t365, t366, t367, t368⟩, A1680, H⟩ := H
       try dsimp only at H
       have A168 := Aside0.mk A1680
       clear A1680
       replace H := Option.bind_eq_some_iff.mp H
       obtain ⟨⟨t369, t370, t371, t372⟩, A1690, H⟩ := H
       try dsimp only at H
       have A169 := Aside0.mk A1690
       clear A1690
       simp only [Option.some.injEq, Prod.mk.injEq] at H
       obtain ⟨rfl, rfl, rfl, rfl, rfl, rfl, rfl, rfl, rfl⟩ := H
       go_wp2_with (first | ((with_reducible refine gate_callee (f := 15) rfl ?_); refine gl 78 Try.func15 #[] ?_; (with_reducible refine (impl_noRange.calls  t365 t366 t367 t368 _ A168.out).mono ?_); rintro e w170 ⟨rfl, hb⟩; refine ⟨_, rfl, ?_⟩; replace BK315 := zb BK315 hb rfl; replace BK316 := zb BK316 hb rfl; replace BK317 := zb BK317 hb rfl; replace BK318 := zb BK318 hb rfl; replace BK358 := zb BK358 hb rfl; replace BK364 := zb BK364 hb rfl; replace HB := zS hb; try clear hb) | ((with_reducible refine gate_callee (f := 15) rfl ?_); refine gl 79 Try.func15 #[] ?_; (with_reducible refine (impl_noRange.calls  t369 t370 t371 t372 _ A169.out).mono ?_); rintro e w171 ⟨rfl, hb⟩; refine ⟨_, rfl, ?_⟩; replace BK315 := zb BK315 hb rfl; replace BK316 := zb BK316 hb rfl; replace BK317 := zb BK317 hb rfl; replace BK318 := zb BK318 hb rfl; replace BK358 := zb BK358 hb rfl; replace BK364 := zb BK364 hb rfl; replace HB := zS hb; try clear hb; have hnb172 := NB317_315.out; have hnc172 := NB315_317.out; have hnb173 := NB317_316.out; have hnc173 := NB316_317.out; have hnb174 := NB317_318.out; have hnc174 := NB318_317.out; have hnb175 := NB317_358.out; have hnc175 := NB358_317.out; have hnb176 := NB317_364.out; have hnc176 := NB364_317.out; obtain ⟨hcz177_0, hcz177_1, hcz177_2, hcz177_3, hfz177_0, hfz177_1, hfz177_2, hfz177_3⟩ := zc4 BK317; have hnb178 := NB318_315.out; have hnc178 := NB315_318.out; have hnb179 := NB318_316.out; have hnc179 := NB316_318.out; have hnb180 := NB318_358.out; have hnc180 := NB358_318.out; have hnb181 := NB318_364.out; have hnc181 := NB364_318.out; obtain ⟨hcz182_0, hcz182_1, hcz182_2, hcz182_3, hfz182_0, hfz182_1, hfz182_2, hfz182_3⟩ := zc4 BK318))
       refine bodyPost_ret (results_list (rs := [.cell 8 24, .cell 9 24, .tmp 10]) rfl (by simp) (.cell gb317 24 #[.int .i64 t365, .int .i64 t366, .int .i64 t367, .int .i64 t368] (0, 0) _ rfl (by refine fq ?_ NB317_318.out; refine fq ?_ NB317_318.out; refine fq ?_ NB317_318.out; refine fq ?_ NB317_318.out; refine bq ?_; refine blk_put (cs := #[.int .i64 t365, .int .i64 t366, .int .i64 t367, .int .i64 0]) ?_ 3 _ rfl; refine bq ?_; refine blk_put (cs := #[.int .i64 t365, .int .i64 t366, .int .i64 0, .int .i64 0]) ?_ 2 _ rfl; refine bq ?_; refine blk_put (cs := #[.int .i64 t365, .int .i64 0, .int .i64 0, .int .i64 0]) ?_ 1 _ rfl; refine bq ?_; refine blk_put (cs := #[.int .i64 0, .int .i64 0, .int .i64 0, .int .i64 0]) ?_ 0 _ rfl; exact bq BK317.out) Try.underlying24 rfl (by kernel_rfl) (.cell gb318 24 #[.int .i64 t369, .int .i64 t370, .int .i64 t371, .int .i64 t372] (0, 0) _ rfl (by refine bq ?_; refine blk_put (cs := #[.int .i64 t369, .int .i64 t370, .int .i64 t371, .int .i64 0]) ?_ 3 _ rfl; refine bq ?_; refine blk_put (cs := #[.int .i64 t369, .int .i64 t370, .int .i64 0, .int .i64 0]) ?_ 2 _ rfl; refine bq ?_; refine blk_put (cs := #[.int .i64 t369, .int .i64 0, .int .i64 0, .int .i64 0]) ?_ 1 _ rfl; refine bq ?_; refine blk_put (cs := #[.int .i64 0, .int .i64 0, .int .i64 0, .int .i64 0]) ?_ 0 _ rfl; refine fq ?_ NB318_317.out; refine fq ?_ NB318_317.out; refine fq ?_ NB318_317.out; refine fq ?_ NB318_317.out; exact bq BK318.out) Try.underlying24 rfl (by kernel_rfl) (.tmp .nil)))) rfl ?_
       exact ⟨zR, zB⟩
      ·replace c167 := Bool.eq_false_iff.mpr c167
       subst c167
       rw [if_neg (show ¬ (false = true) by decide)] at H
       simp only [Option.some.injEq, Prod.mk.injEq] at H
       obtain ⟨rfl, rfl, rfl, rfl, rfl, rfl, rfl, rfl, rfl⟩ := H
       try go_wp2
       replace BK315 := Aside0.mk (blk_drew BK315.out)
       replace BK316 := Aside0.mk (blk_drew BK316.out)
       replace BK317 := Aside0.mk (blk_drew BK317.out)
       replace BK318 := Aside0.mk (blk_drew BK318.out)
       replace BK358 := Aside0.mk (blk_drew BK358.out)
       replace BK364 := Aside0.mk (blk_drew BK364.out)
       replace HB := Aside0.mk (below_drew1 HB.out)
       refine start_ (n := 5) (S := fun w' => w'.cell? ⟨gb358, 0, none⟩ = some (.int .i64 t353) ∧ w'.cell? ⟨gb358, 1, none⟩ = some (.int .i64 t354) ∧ w'.cell? ⟨gb358, 2, none⟩ = some (.int .i64 t355) ∧ w'.cell? ⟨gb358, 3, none⟩ = some (.int .i64 t356) ∧ w'.cell? ⟨gb364, 0, none⟩ = some (.int .i64 t359) ∧ w'.cell? ⟨gb364, 1, none⟩ = some (.int .i64 t360) ∧ w'.cell? ⟨gb364, 2, none⟩ = some (.int .i64 t361) ∧ w'.cell? ⟨gb364, 3, none⟩ = some (.int .i64 t362)) (ds := []) #[false, false, false, false, false] (by kernel_rfl) rfl rfl ⟨(blk_cell BK358.out 0).trans rfl, (blk_cell BK358.out 1).trans rfl, (blk_cell BK358.out 2).trans rfl, (blk_cell BK358.out 3).trans rfl, (blk_cell BK364.out 0).trans rfl, (blk_cell BK364.out 1).trans rfl, (blk_cell BK364.out 2).trans rfl, (blk_cell BK364.out 3).trans rfl⟩ (fun hHeld => ?_)
       generalize wc.drew = w183 at BK315 BK316 BK317 BK318 BK358 BK364 HB hHeld ⊢
       refine tz 0 80 ?_
       refine tz 1 81 ?_
       refine oN 2 fun K hK => ?_
       have hs184 : w183.cell? ⟨gb317, 0, none⟩ = some (.int .i64 0) := (blk_cell BK317.out 0).trans rfl
       have hfs184 := blk_frozen BK317.out 0
       have hns184_0 := NB315_317.out
       have hns184_1 := NB316_317.out
       have hns184_3 := NB318_317.out
       have hns184_4 := NB358_317.out
       have hns184_5 := NB364_317.out
       have hms184_0 := NB317_315.out
       have hms184_1 := NB317_316.out
       have hms184_3 := NB317_318.out
       have hms184_4 := NB317_358.out
       have hms184_5 := NB317_364.out
       have hs185 : w183.cell? ⟨gb317, 1, none⟩ = some (.int .i64 0) := (blk_cell BK317.out 1).trans rfl
       have hfs185 := blk_frozen BK317.out 1
       have hns185_0 := NB315_317.out
       have hns185_1 := NB316_317.out
       have hns185_3 := NB318_317.out
       have hns185_4 := NB358_317.out
       have hns185_5 := NB364_317.out
       have hms185_0 := NB317_315.out
       have hms185_1 := NB317_316.out
       have hms185_3 := NB317_318.out
       have hms185_4 := NB317_358.out
       have hms185_5 := NB317_364.out
       have hs186 : w183.cell? ⟨gb317, 2, none⟩ = some (.int .i64 0) := (blk_cell BK317.out 2).trans rfl
       have hfs186 := blk_frozen BK317.out 2
       have hns186_0 := NB315_317.out
       have hns186_1 := NB316_317.out
       have hns186_3 := NB318_317.out
       have hns186_4 := NB358_317.out
       have hns186_5 := NB364_317.out
       have hms186_0 := NB317_315.out
       have hms186_1 := NB317_316.out
       have hms186_3 := NB317_318.out
       have hms186_4 := NB317_358.out
       have hms186_5 := NB317_364.out
       have hs187 : w183.cell? ⟨gb317, 3, none⟩ = some (.int .i64 0) := (blk_cell BK317.out 3).trans rfl
       have hfs187 := blk_frozen BK317.out 3
       have hns187_0 := NB315_317.out
       have hns187_1 := NB316_317.out
       have hns187_3 := NB318_317.out
       have hns187_4 := NB358_317.out
       have hns187_5 := NB364_317.out
       have hms187_0 := NB317_315.out
       have hms187_1 := NB317_316.out
       have hms187_3 := NB317_318.out
       have hms187_4 := NB317_358.out
       have hms187_5 := NB317_364.out
       refine skip_ (w1 := ?_) (by rfl) rfl ?_ ?_
       rotate_left
       ·go_simp
        rfl
       refine hK.out _ _ ⟨((cell_far (p := ⟨gb317, _, none⟩) NB358_317.out _).trans (((cell_far (p := ⟨gb317, _, none⟩) NB358_317.out _).trans (((cell_far (p := ⟨gb317, _, none⟩) NB358_317.out _).trans (((cell_far (p := ⟨gb317, _, none⟩) NB358_317.out _).trans (hHeld.1)))))))), ((cell_far (p := ⟨gb317, _, none⟩) NB358_317.out _).trans (((cell_far (p := ⟨gb317, _, none⟩) NB358_317.out _).trans (((cell_far (p := ⟨gb317, _, none⟩) NB358_317.out _).trans (((cell_far (p := ⟨gb317, _, none⟩) NB358_317.out _).trans (hHeld.2.1)))))))), ((cell_far (p := ⟨gb317, _, none⟩) NB358_317.out _).trans (((cell_far (p := ⟨gb317, _, none⟩) NB358_317.out _).trans (((cell_far (p := ⟨gb317, _, none⟩) NB358_317.out _).trans (((cell_far (p := ⟨gb317, _, none⟩) NB358_317.out _).trans (hHeld.2.2.1)))))))), ((cell_far (p := ⟨gb317, _, none⟩) NB358_317.out _).trans (((cell_far (p := ⟨gb317, _, none⟩) NB358_317.out _).trans (((cell_far (p := ⟨gb317, _, none⟩) NB358_317.out _).trans (((cell_far (p := ⟨gb317, _, none⟩) NB358_317.out _).trans (hHeld.2.2.2.1)))))))), ((cell_far (p := ⟨gb317, _, none⟩) NB364_317.out _).trans (((cell_far (p := ⟨gb317, _, none⟩) NB364_317.out _).trans (((cell_far (p := ⟨gb317, _, none⟩) NB364_317.out _).trans (((cell_far (p := ⟨gb317, _, none⟩) NB364_317.out _).trans (hHeld.2.2.2.2.1)))))))), ((cell_far (p := ⟨gb317, _, none⟩) NB364_317.out _).trans (((cell_far (p := ⟨gb317, _, none⟩) NB364_317.out _).trans (((cell_far (p := ⟨gb317, _, none⟩) NB364_317.out _).trans (((cell_far (p := ⟨gb317, _, none⟩) NB364_317.out _).trans (hHeld.2.2.2.2.2.1)))))))), ((cell_far (p := ⟨gb317, _, none⟩) NB364_317.out _).trans (((cell_far (p := ⟨gb317, _, none⟩) NB364_317.out _).trans (((cell_far (p := ⟨gb317, _, none⟩) NB364_317.out _).trans (((cell_far (p := ⟨gb317, _, none⟩) NB364_317.out _).trans (hHeld.2.2.2.2.2.2.1)))))))), ((cell_far (p := ⟨gb317, _, none⟩) NB364_317.out _).trans (((cell_far (p := ⟨gb317, _, none⟩) NB364_317.out _).trans (((cell_far (p := ⟨gb317, _, none⟩) NB364_317.out _).trans (((cell_far (p := ⟨gb317, _, none⟩) NB364_317.out _).trans (hHeld.2.2.2.2.2.2.2))))))))⟩ (fun hHeld => ?_)
       clear hK K
       refine oN 3 fun K hK => ?_
       have hs188 : w183.cell? ⟨gb318, 0, none⟩ = some (.int .i64 0) := (blk_cell BK318.out 0).trans rfl
       have hfs188 := blk_frozen BK318.out 0
       have hns188_0 := NB315_318.out
       have hns188_1 := NB316_318.out
       have hns188_2 := NB317_318.out
       have hns188_4 := NB358_318.out
       have hns188_5 := NB364_318.out
       have hms188_0 := NB318_315.out
       have hms188_1 := NB318_316.out
       have hms188_2 := NB318_317.out
       have hms188_4 := NB318_358.out
       have hms188_5 := NB318_364.out
       have hs189 : w183.cell? ⟨gb318, 1, none⟩ = some (.int .i64 0) := (blk_cell BK318.out 1).trans rfl
       have hfs189 := blk_frozen BK318.out 1
       have hns189_0 := NB315_318.out
       have hns189_1 := NB316_318.out
       have hns189_2 := NB317_318.out
       have hns189_4 := NB358_318.out
       have hns189_5 := NB364_318.out
       have hms189_0 := NB318_315.out
       have hms189_1 := NB318_316.out
       have hms189_2 := NB318_317.out
       have hms189_4 := NB318_358.out
       have hms189_5 := NB318_364.out
       have hs190 : w183.cell? ⟨gb318, 2, none⟩ = some (.int .i64 0) := (blk_cell BK318.out 2).trans rfl
       have hfs190 := blk_frozen BK318.out 2
       have hns190_0 := NB315_318.out
       have hns190_1 := NB316_318.out
       have hns190_2 := NB317_318.out
       have hns190_4 := NB358_318.out
       have hns190_5 := NB364_318.out
       have hms190_0 := NB318_315.out
       have hms190_1 := NB318_316.out
       have hms190_2 := NB318_317.out
       have hms190_4 := NB318_358.out
       have hms190_5 := NB318_364.out
       have hs191 : w183.cell? ⟨gb318, 3, none⟩ = some (.int .i64 0) := (blk_cell BK318.out 3).trans rfl
       have hfs191 := blk_frozen BK318.out 3
       have hns191_0 := NB315_318.out
       have hns191_1 := NB316_318.out
       have hns191_2 := NB317_318.out
       have hns191_4 := NB358_318.out
       have hns191_5 := NB364_318.out
       have hms191_0 := NB318_315.out
       have hms191_1 := NB318_316.out
       have hms191_2 := NB318_317.out
       have hms191_4 := NB318_358.out
       have hms191_5 := NB318_364.out
       refine skip_ (w1 := ?_) (by rfl) rfl ?_ ?_
       rotate_left
       ·go_simp
        rfl
       refine hK.out _ _ ⟨((cell_far (p := ⟨gb318, _, none⟩) NB358_318.out _).trans (((cell_far (p := ⟨gb318, _, none⟩) NB358_318.out _).trans (((cell_far (p := ⟨gb318, _, none⟩) NB358_318.out _).trans (((cell_far (p := ⟨gb318, _, none⟩) NB358_318.out _).trans (hHeld.1)))))))), ((cell_far (p := ⟨gb318, _, none⟩) NB358_318.out _).trans (((cell_far (p := ⟨gb318, _, none⟩) NB358_318.out _).trans (((cell_far (p := ⟨gb318, _, none⟩) NB358_318.out _).trans (((cell_far (p := ⟨gb318, _, none⟩) NB358_318.out _).trans (hHeld.2.1)))))))), ((cell_far (p := ⟨gb318, _, none⟩) NB358_318.out _).trans (((cell_far (p := ⟨gb318, _, none⟩) NB358_318.out _).trans (((cell_far (p := ⟨gb318, _, none⟩) NB358_318.out _).trans (((cell_far (p := ⟨gb318, _, none⟩) NB358_318.out _).trans (hHeld.2.2.1)))))))), ((cell_far (p := ⟨gb318, _, none⟩) NB358_318.out _).trans (((cell_far (p := ⟨gb318, _, none⟩) NB358_318.out _).trans (((cell_far (p := ⟨gb318, _, none⟩) NB358_318.out _).trans (((cell_far (p := ⟨gb318, _, none⟩) NB358_318.out _).trans (hHeld.2.2.2.1)))))))), ((cell_far (p := ⟨gb318, _, none⟩) NB364_318.out _).trans (((cell_far (p := ⟨gb318, _, none⟩) NB364_318.out _).trans (((cell_far (p := ⟨gb318, _, none⟩) NB364_318.out _).trans (((cell_far (p := ⟨gb318, _, none⟩) NB364_318.out _).trans (hHeld.2.2.2.2.1)))))))), ((cell_far (p := ⟨gb318, _, none⟩) NB364_318.out _).trans (((cell_far (p := ⟨gb318, _, none⟩) NB364_318.out _).trans (((cell_far (p := ⟨gb318, _, none⟩) NB364_318.out _).trans (((cell_far (p := ⟨gb318, _, none⟩) NB364_318.out _).trans (hHeld.2.2.2.2.2.1)))))))), ((cell_far (p := ⟨gb318, _, none⟩) NB364_318.out _).trans (((cell_far (p := ⟨gb318, _, none⟩) NB364_318.out _).trans (((cell_far (p := ⟨gb318, _, none⟩) NB364_318.out _).trans (((cell_far (p := ⟨gb318, _, none⟩) NB364_318.out _).trans (hHeld.2.2.2.2.2.2.1)))))))), ((cell_far (p := ⟨gb318, _, none⟩) NB364_318.out _).trans (((cell_far (p := ⟨gb318, _, none⟩) NB364_318.out _).trans (((cell_far (p := ⟨gb318, _, none⟩) NB364_318.out _).trans (((cell_far (p := ⟨gb318, _, none⟩) NB364_318.out _).trans (hHeld.2.2.2.2.2.2.2))))))))⟩ (fun hHeld => ?_)
       clear hK K
       refine pz 4 10 ?_
       refine done_ (by kernel_rfl) ?_
       try go_wp2
       refine bodyPost_ret (results_list (rs := [.cell 8 24, .cell 9 24, .tmp 10]) rfl (by simp) (.cell gb317 24 #[.int .i64 t353, .int .i64 t354, .int .i64 t355, .int .i64 t356] (0, 0) _ rfl (by refine fq ?_ NB317_318.out; refine fq ?_ NB317_318.out; refine fq ?_ NB317_318.out; refine fq ?_ NB317_318.out; refine bq ?_; refine blk_put (cs := #[.int .i64 t353, .int .i64 t354, .int .i64 t355, .int .i64 0]) ?_ 3 _ rfl; refine bq ?_; refine blk_put (cs := #[.int .i64 t353, .int .i64 t354, .int .i64 0, .int .i64 0]) ?_ 2 _ rfl; refine bq ?_; refine blk_put (cs := #[.int .i64 t353, .int .i64 0, .int .i64 0, .int .i64 0]) ?_ 1 _ rfl; refine bq ?_; refine blk_put (cs := #[.int .i64 0, .int .i64 0, .int .i64 0, .int .i64 0]) ?_ 0 _ rfl; exact bq BK317.out) Try.underlying24 rfl (by kernel_rfl) (.cell gb318 24 #[.int .i64 t359, .int .i64 t360, .int .i64 t361, .int .i64 t362] (0, 0) _ rfl (by refine bq ?_; refine blk_put (cs := #[.int .i64 t359, .int .i64 t360, .int .i64 t361, .int .i64 0]) ?_ 3 _ rfl; refine bq ?_; refine blk_put (cs := #[.int .i64 t359, .int .i64 t360, .int .i64 0, .int .i64 0]) ?_ 2 _ rfl; refine bq ?_; refine blk_put (cs := #[.int .i64 t359, .int .i64 0, .int .i64 0, .int .i64 0]) ?_ 1 _ rfl; refine bq ?_; refine blk_put (cs := #[.int .i64 0, .int .i64 0, .int .i64 0, .int .i64 0]) ?_ 0 _ rfl; refine fq ?_ NB318_317.out; refine fq ?_ NB318_317.out; refine fq ?_ NB318_317.out; refine fq ?_ NB318_317.out; exact bq BK318.out) Try.underlying24 rfl (by kernel_rfl) (.tmp .nil)))) rfl ?_
       exact ⟨zR, zB⟩

end Go.Proofs.Ytjengfiaphgjbaa.Q
