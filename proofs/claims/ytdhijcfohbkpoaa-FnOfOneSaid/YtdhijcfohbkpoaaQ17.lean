/- The machine's side of this seat's laws: Go functions as Lean functions, and their contracts. By a program of this work over the kit's print. -/
import Derived.Test.YtdhijcfohbkpoaaQ0
import Derived.Test.YtdhijcfohbkpoaaQ2
import Derived.Test.YtdhijcfohbkpoaaQ14
namespace Go.Proofs.Ytdhijcfohbkpoaa.Q
open Go.RowKit Go.Proofs.YtdhijcfohbkpoaaW.PrintWords Go.Proofs.YtdhijcfohbkpoaaW.PrintLast Go.Proofs.YtdhijcfohbkpoaaW.PrintMore
attribute [local go_sem] max2_int min2_int max_two min_two max_three min_three max_four min_four Go.Proofs.YtdhijcfohbkpoaaN.not_i64 Go.Proofs.YtdhijcfohbkpoaaN.isSome_setCell   -- for this text's walks alone
set_option linter.unusedVariables false
set_option linter.unusedSimpArgs false

/-! ### spec_l2Shift: function 54 -/
def spec_l2Shift.j0 : Nat → Int → Int → Int → Int → Option (Int × Int × Int × Int)
 | 0, _, _, _, _ => none
 | k + 1, x451000, x451001, x451002, x451003 => (spec_l2Tidy.f k x451000 x451001 x451002 x451003).bind fun bt451 => (some (bt451.1, bt451.2.1, bt451.2.2.1, bt451.2.2.2))
def spec_l2Shift.f (k : Nat) (a0 : Int) (a1_0 : Int) (a1_1 : Int) (a1_2 : Int) (a1_3 : Int) (a2 : Int) : Option (Int × Int × Int × Int) := if a0 = 9 then (if 0 ≤ a2 then ((spec_l2Tidy.f k (shr .i64 a1_0 a2) (shr .i64 a1_1 a2) (shr .i64 a1_2 a2) (shr .i64 a1_3 a2)).bind fun bt444 => (some (bt444.1, bt444.2.1, bt444.2.2.1, bt444.2.2.2))) else (none)) else (if 0 ≤ a2 then ((spec_l2Wrap.f (shl .i64 a1_2 a2)).bind fun t448 => ((spec_l2Wrap.f (shl .i64 a1_3 a2)).bind fun t449 => (if (shl .i64 a1_1 a2) ≤ 4294967295 then (spec_l2Shift.j0 k (shl .i64 a1_0 a2) (shl .i64 a1_1 a2) t448 t449) else (spec_l2Shift.j0 k 0 4294967295 t448 t449)))) else (none))


def spec_l2Shift.T2 : Bool × List (List Nat × List Nat) := (true, [([], []), ([0], [0]), ([], []), ([1, 2], [1, 2]), ([], []), ([4], [4]), ([], []), ([5, 6], [5, 6]), ([], []), ([8], [8]), ([], []), ([9, 10], [9, 10]), ([], []), ([12], [12]), ([], []), ([13, 14], [13, 14]), ([3, 7, 11, 15], [3, 7, 11, 15]), ([16], [16]), ([17, 17, 0, 1, 2, 3, 4, 5, 6, 7, 8, 9, 10, 11, 12, 13, 14, 15, 16, 17], [17])])
def spec_l2Shift.B2 : List Nat := [0, 1, 0, 7, 0, 16, 0, 112, 0, 256, 0, 1792, 0, 4096, 0, 28672, 65535, 131071, 262143]
theorem spec_l2Shift.tab2 : rtab .any (opsOf Try.f54 2) = spec_l2Shift.T2 := by kernel_rfl
theorem spec_l2Shift.bits2 : waitsOk spec_l2Shift.T2.2 spec_l2Shift.B2 = true := by kernel_rfl
def spec_l2Shift.T3 : Bool × List (List Nat × List Nat) := (true, [([], []), ([], []), ([1], [1]), ([], []), ([2, 3], [2, 3]), ([4, 0], [4]), ([], []), ([6], [6]), ([], []), ([7, 8], [7, 8]), ([9, 5], [9]), ([0, 5, 10], [0, 5, 10]), ([], []), ([12, 11, 10, 0, 1, 2, 3, 4, 5, 6, 7, 8, 9, 10, 11, 12], [11, 12])])
def spec_l2Shift.B3 : List Nat := [0, 0, 2, 0, 14, 31, 0, 64, 0, 448, 1023, 2047, 0, 8191]
theorem spec_l2Shift.tab3 : rtab .any (opsOf Try.f54 3) = spec_l2Shift.T3 := by kernel_rfl
theorem spec_l2Shift.bits3 : waitsOk spec_l2Shift.T3.2 spec_l2Shift.B3 = true := by kernel_rfl
set_option maxHeartbeats 8000000 in
set_option maxRecDepth 100000 in
theorem spec_l2Shift.calls (k : Nat) (a0 : Int) (a1_0 : Int) (a1_1 : Int) (a1_2 : Int) (a1_3 : Int) (a2 : Int) (r1 : Int) (r2 : Int) (r3 : Int) (r4 : Int) (w : World) (h : spec_l2Shift.f k a0 a1_0 a1_1 a1_2 a1_3 a2 = some (r1, r2, r3, r4)) :
  Calls Try.prog 54 #[.int .i64 a0, .agg #[.int .i64 a1_0, .int .i64 a1_1, .int .i64 a1_2, .int .i64 a1_3], .int .i64 a2] w fun e w' => e = .returned (.agg #[.int .i64 r1, .int .i64 r2, .int .i64 r3, .int .i64 r4]) ∧ Below w.heap.size w w' := by
 have hu24 := Try.underlying24
 have HB := Aside0.mk (Below.refl w.heap.size w)
 have H : (if a0 = 9 then (if 0 ≤ a2 then ((spec_l2Tidy.f k (shr .i64 a1_0 a2) (shr .i64 a1_1 a2) (shr .i64 a1_2 a2) (shr .i64 a1_3 a2)).bind fun bt444 => (some (bt444.1, bt444.2.1, bt444.2.2.1, bt444.2.2.2))) else (none)) else (if 0 ≤ a2 then ((spec_l2Wrap.f (shl .i64 a1_2 a2)).bind fun t448 => ((spec_l2Wrap.f (shl .i64 a1_3 a2)).bind fun t449 => (if (shl .i64 a1_1 a2) ≤ 4294967295 then (spec_l2Shift.j0 k (shl .i64 a1_0 a2) (shl .i64 a1_1 a2) t448 t449) else (spec_l2Shift.j0 k 0 4294967295 t448 t449)))) else (none))) = some (r1, r2, r3, r4) := h
 clear h
 by_cases c4 : a0 = 9
 ·rw [if_pos c4] at H
  have c4b0 : (a0 == 9) = true := beq_iff_eq.mpr c4
  have c4b1 : (a0 != 9) = false := bne_eq_false_iff_eq.mpr c4
  clear c4
  by_cases c5 : 0 ≤ a2
  ·rw [if_pos c5] at H
   have c5b0 := eq_true c5
   have c5b1 : decide (0 ≤ a2) = true := decide_eq_true c5
   clear c5
   obtain ⟨ji6, hji6⟩ : ∃ j_ : Int, (shr .i64 a1_0 a2) = j_ := ⟨_, rfl⟩
   replace H : ((spec_l2Tidy.f k (ji6) (shr .i64 a1_1 a2) (shr .i64 a1_2 a2) (shr .i64 a1_3 a2)).bind fun bt444 => (some (bt444.1, bt444.2.1, bt444.2.2.1, bt444.2.2.2))) = some (r1, r2, r3, r4) := by first | (rw [hji6] at H; exact H) | (simp only [hji6] at H ⊢; exact H)
   have hji6_ : (a1_0 / 2 ^ min a2.toNat 64) = ji6 := hji6
   have hji6z : a2 ≤ 64 → (a1_0 / 2 ^ a2.toNat) = ji6 := shr_small hji6
   have c7b0 := eq_true (of_decide_eq_true (by first | (with_reducible assumption) | assumption) : 0 ≤ a2)
   obtain ⟨ji8, hji8⟩ : ∃ j_ : Int, (shr .i64 a1_1 a2) = j_ := ⟨_, rfl⟩
   replace H : ((spec_l2Tidy.f k (ji6) (ji8) (shr .i64 a1_2 a2) (shr .i64 a1_3 a2)).bind fun bt444 => (some (bt444.1, bt444.2.1, bt444.2.2.1, bt444.2.2.2))) = some (r1, r2, r3, r4) := by first | (rw [hji8] at H; exact H) | (simp only [hji8] at H ⊢; exact H)
   have hji8_ : (a1_1 / 2 ^ min a2.toNat 64) = ji8 := hji8
   have hji8z : a2 ≤ 64 → (a1_1 / 2 ^ a2.toNat) = ji8 := shr_small hji8
   have c9b0 := eq_true (of_decide_eq_true (by first | (with_reducible assumption) | assumption) : 0 ≤ a2)
   obtain ⟨ji10, hji10⟩ : ∃ j_ : Int, (shr .i64 a1_2 a2) = j_ := ⟨_, rfl⟩
   replace H : ((spec_l2Tidy.f k (ji6) (ji8) (ji10) (shr .i64 a1_3 a2)).bind fun bt444 => (some (bt444.1, bt444.2.1, bt444.2.2.1, bt444.2.2.2))) = some (r1, r2, r3, r4) := by first | (rw [hji10] at H; exact H) | (simp only [hji10] at H ⊢; exact H)
   have hji10_ : (a1_2 / 2 ^ min a2.toNat 64) = ji10 := hji10
   have hji10z : a2 ≤ 64 → (a1_2 / 2 ^ a2.toNat) = ji10 := shr_small hji10
   have c11b0 := eq_true (of_decide_eq_true (by first | (with_reducible assumption) | assumption) : 0 ≤ a2)
   obtain ⟨ji12, hji12⟩ : ∃ j_ : Int, (shr .i64 a1_3 a2) = j_ := ⟨_, rfl⟩
   replace H : ((spec_l2Tidy.f k (ji6) (ji8) (ji10) (ji12)).bind fun bt444 => (some (bt444.1, bt444.2.1, bt444.2.2.1, bt444.2.2.2))) = some (r1, r2, r3, r4) := by first | (rw [hji12] at H; exact H) | (simp only [hji12] at H ⊢; exact H)
   have hji12_ : (a1_3 / 2 ^ min a2.toNat 64) = ji12 := hji12
   have hji12z : a2 ≤ 64 → (a1_3 / 2 ^ a2.toNat) = ji12 := shr_small hji12
   replace H := Option.bind_eq_some_iff.mp H
   obtain ⟨⟨t444, t445, t446, t447⟩, A130, H⟩ := H
   try dsimp only at H
   have A13 := Aside0.mk A130
   clear A130
   simp only [Option.some.injEq, Prod.mk.injEq] at H
   obtain ⟨rfl, rfl, rfl, rfl⟩ := H
   go_enter Try.func54, Try.ntmps54
   try go_wp2_with (first | ((with_reducible refine gate_dst (N := 4) rfl ?_); refine be 4 #[.int .i64 a1_0, .int .i64 a1_1, .int .i64 a1_2, .int .i64 a1_3] 24 ?_; intro gb442 hg w14 hbox hb; have BK442 := Aside0.mk hbox; have GW442 := zW hg; replace HB := zS hb; have GE442 := GW442; clear hb hbox hg) | ((with_reducible refine gate_dst (N := 6) rfl ?_); refine be 6 #[.int .i64 0, .int .i64 0, .int .i64 0, .int .i64 0] 24 ?_; intro gb443 hg w15 hbox hb; have BK443 := Aside0.mk hbox; have GW443 := zW hg; replace HB := zS hb; have GE443 := GW443; have NB442_443 := zl BK442 hg rfl; have NB443_442 := zg BK442 hg rfl; replace BK442 := zb BK442 hb rfl; clear hb hbox hg))
   replace BK442 := Aside0.mk (blk_drew BK442.out)
   replace BK443 := Aside0.mk (blk_drew BK443.out)
   replace HB := Aside0.mk (below_drew1 HB.out)
   refine start_ (n := 19) (S := fun w' => w'.cell? ⟨gb442, 0, none⟩ = some (.int .i64 a1_0) ∧ w'.cell? ⟨gb442, 1, none⟩ = some (.int .i64 a1_1) ∧ w'.cell? ⟨gb442, 2, none⟩ = some (.int .i64 a1_2) ∧ w'.cell? ⟨gb442, 3, none⟩ = some (.int .i64 a1_3)) (ds := []) #[false, false, false, false, false, false, false, false, false, false, false, false, false, false, false, false, false, false, false] (by kernel_rfl) rfl rfl ⟨(blk_cell BK442.out 0).trans rfl, (blk_cell BK442.out 1).trans rfl, (blk_cell BK442.out 2).trans rfl, (blk_cell BK442.out 3).trans rfl⟩ (fun hHeld => ?_); refine with_tabW spec_l2Shift.tab2 spec_l2Shift.bits2 (fun HT_ HW_ => ?_)
   generalize w15.drew = w16 at BK442 BK443 HB hHeld ⊢
   refine pz 0 10 ?_
   refine pz 2 12 ?_
   refine pz 4 14 ?_
   refine pz 6 16 ?_
   refine pz 8 18 ?_
   refine pz 10 20 ?_
   refine pz 12 22 ?_
   refine pz 14 24 ?_
   refine tz 1 11 ?_
   refine pz 3 13 ?_
   refine tz 5 15 ?_
   refine pz 7 17 ?_
   refine tz 9 19 ?_
   refine pz 11 21 ?_
   refine tz 13 23 ?_
   refine pz 15 25 ?_
   refine pz 16 26 ?_
   refine oz 17 27 fun K hK => ?_
   refine goes_ Try.func27 (by kernel_rfl) rfl #[.agg #[.int .i64 ji6, .int .i64 ji8, .int .i64 ji10, .int .i64 ji12]] (by rfl) rfl rfl (by (try simp only [List.map_toArray, List.map_cons, List.map_nil]); first | done | (simp only [hji10, hji12, hji6, hji8]; rfl) | rfl | (simp only [List.length_drop, List.length_take]; rfl)) ?_
   with_reducible refine (spec_l2Tidy.calls k ji6 ji8 ji10 ji12 t444 t445 t446 t447 _ A13.out).mono ?_
   rintro e w17 ⟨rfl, hb⟩
   refine ⟨_, rfl, ?_⟩
   replace BK442 := zb BK442 hb rfl
   replace BK443 := zb BK443 hb rfl
   replace HB := zS hb
   try clear hb
   refine hK.out _ _ ⟨(blk_cell BK442.out 0).trans rfl, (blk_cell BK442.out 1).trans rfl, (blk_cell BK442.out 2).trans rfl, (blk_cell BK442.out 3).trans rfl⟩ (fun hHeld => ?_)
   clear hK K
   refine nz ?_
   refine oN 18 fun K hK => ?_
   have hs18 : w17.cell? ⟨gb443, 0, none⟩ = some (.int .i64 0) := (blk_cell BK443.out 0).trans rfl
   have hfs18 := blk_frozen BK443.out 0
   have hns18_0 := NB442_443.out
   have hms18_0 := NB443_442.out
   have hs19 : w17.cell? ⟨gb443, 1, none⟩ = some (.int .i64 0) := (blk_cell BK443.out 1).trans rfl
   have hfs19 := blk_frozen BK443.out 1
   have hns19_0 := NB442_443.out
   have hms19_0 := NB443_442.out
   have hs20 : w17.cell? ⟨gb443, 2, none⟩ = some (.int .i64 0) := (blk_cell BK443.out 2).trans rfl
   have hfs20 := blk_frozen BK443.out 2
   have hns20_0 := NB442_443.out
   have hms20_0 := NB443_442.out
   have hs21 : w17.cell? ⟨gb443, 3, none⟩ = some (.int .i64 0) := (blk_cell BK443.out 3).trans rfl
   have hfs21 := blk_frozen BK443.out 3
   have hns21_0 := NB442_443.out
   have hms21_0 := NB443_442.out
   refine skip_ (w1 := ?_) (by rfl) rfl ?_ ?_
   rotate_left
   ·go_simp
    rfl
   refine hK.out _ _ ⟨((cell_far (p := ⟨gb443, _, none⟩) NB442_443.out _).trans (((cell_far (p := ⟨gb443, _, none⟩) NB442_443.out _).trans (((cell_far (p := ⟨gb443, _, none⟩) NB442_443.out _).trans (((cell_far (p := ⟨gb443, _, none⟩) NB442_443.out _).trans (hHeld.1)))))))), ((cell_far (p := ⟨gb443, _, none⟩) NB442_443.out _).trans (((cell_far (p := ⟨gb443, _, none⟩) NB442_443.out _).trans (((cell_far (p := ⟨gb443, _, none⟩) NB442_443.out _).trans (((cell_far (p := ⟨gb443, _, none⟩) NB442_443.out _).trans (hHeld.2.1)))))))), ((cell_far (p := ⟨gb443, _, none⟩) NB442_443.out _).trans (((cell_far (p := ⟨gb443, _, none⟩) NB442_443.out _).trans (((cell_far (p := ⟨gb443, _, none⟩) NB442_443.out _).trans (((cell_far (p := ⟨gb443, _, none⟩) NB442_443.out _).trans (hHeld.2.2.1)))))))), ((cell_far (p := ⟨gb443, _, none⟩) NB442_443.out _).trans (((cell_far (p := ⟨gb443, _, none⟩) NB442_443.out _).trans (((cell_far (p := ⟨gb443, _, none⟩) NB442_443.out _).trans (((cell_far (p := ⟨gb443, _, none⟩) NB442_443.out _).trans (hHeld.2.2.2))))))))⟩ (fun hHeld => ?_)
   clear hK K
   refine done_ (done_of HT_.out (by kernel_rfl)) ?_
   try go_wp2
   refine bodyPost_ret (results_cell_row rfl _ _ gb443 24 #[.int .i64 t444, .int .i64 t445, .int .i64 t446, .int .i64 t447] (0, 0) _ rfl (by refine bq ?_; refine blk_put (cs := #[.int .i64 t444, .int .i64 t445, .int .i64 t446, .int .i64 0]) ?_ 3 _ rfl; refine bq ?_; refine blk_put (cs := #[.int .i64 t444, .int .i64 t445, .int .i64 0, .int .i64 0]) ?_ 2 _ rfl; refine bq ?_; refine blk_put (cs := #[.int .i64 t444, .int .i64 0, .int .i64 0, .int .i64 0]) ?_ 1 _ rfl; refine bq ?_; refine blk_put (cs := #[.int .i64 0, .int .i64 0, .int .i64 0, .int .i64 0]) ?_ 0 _ rfl; exact bq BK443.out) Try.underlying24 rfl (by kernel_rfl)) rfl ?_
   exact ⟨by first | rfl | (simp [errW_none, errW_some] <;> rfl) | (simp only [← hji6, ← hji8, ← hji10, ← hji12]; first | rfl | (simp [errW_none, errW_some] <;> rfl)) | (simp [*, errW_none, errW_some] <;> rfl), zB⟩
  ·rw [if_neg c5] at H
   exact absurd H (by simp)
 ·rw [if_neg c4] at H
  have c4b0 : (a0 == 9) = false := beq_eq_false_iff_ne.mpr c4
  have c4b1 : (a0 != 9) = true := bne_iff_ne.mpr c4
  have AC_spec_l2Top := Aside0.mk (show spec_l2Top.f = some 4294967295 from rfl)
  by_cases c22 : 0 ≤ a2
  ·rw [if_pos c22] at H
   have c22b0 := eq_true c22
   have c22b1 : decide (0 ≤ a2) = true := decide_eq_true c22
   clear c22
   obtain ⟨ji23, hji23⟩ : ∃ j_ : Int, (shl .i64 a1_2 a2) = j_ := ⟨_, rfl⟩
   replace H : ((spec_l2Wrap.f (ji23)).bind fun t448 => ((spec_l2Wrap.f (shl .i64 a1_3 a2)).bind fun t449 => (if (shl .i64 a1_1 a2) ≤ 4294967295 then (spec_l2Shift.j0 k (shl .i64 a1_0 a2) (shl .i64 a1_1 a2) t448 t449) else (spec_l2Shift.j0 k 0 4294967295 t448 t449)))) = some (r1, r2, r3, r4) := by first | (rw [hji23] at H; exact H) | (simp only [hji23] at H ⊢; exact H)
   (try rw [hji23] at AC_spec_l2Top)
   have hji23_ : (IntKind.i64.wrap (a1_2 * 2 ^ min a2.toNat 64)) = ji23 := hji23
   have hji23z : a2 ≤ 64 → (IntKind.i64.wrap (a1_2 * 2 ^ a2.toNat)) = ji23 := shl_small hji23
   have hji23y : (wrap64 (a1_2 * 2 ^ min a2.toNat 64)) = ji23 := (i64_w _).symm.trans hji23_
   have hji23x : a2 ≤ 64 → (wrap64 (a1_2 * 2 ^ a2.toNat)) = ji23 := fun h_ => (i64_w _).symm.trans (hji23z h_)
   replace H := Option.bind_eq_some_iff.mp H
   obtain ⟨t448, A240, H⟩ := H
   try dsimp only at H
   have A24 := Aside0.mk A240
   clear A240
   have c25b0 := eq_true (of_decide_eq_true (by first | (with_reducible assumption) | assumption) : 0 ≤ a2)
   obtain ⟨ji26, hji26⟩ : ∃ j_ : Int, (shl .i64 a1_3 a2) = j_ := ⟨_, rfl⟩
   replace H : ((spec_l2Wrap.f (ji26)).bind fun t449 => (if (shl .i64 a1_1 a2) ≤ 4294967295 then (spec_l2Shift.j0 k (shl .i64 a1_0 a2) (shl .i64 a1_1 a2) t448 t449) else (spec_l2Shift.j0 k 0 4294967295 t448 t449))) = some (r1, r2, r3, r4) := by first | (rw [hji26] at H; exact H) | (simp only [hji26] at H ⊢; exact H)
   (try rw [hji26] at AC_spec_l2Top)
   (try rw [hji26] at A24)
   have hji26_ : (IntKind.i64.wrap (a1_3 * 2 ^ min a2.toNat 64)) = ji26 := hji26
   have hji26z : a2 ≤ 64 → (IntKind.i64.wrap (a1_3 * 2 ^ a2.toNat)) = ji26 := shl_small hji26
   have hji26y : (wrap64 (a1_3 * 2 ^ min a2.toNat 64)) = ji26 := (i64_w _).symm.trans hji26_
   have hji26x : a2 ≤ 64 → (wrap64 (a1_3 * 2 ^ a2.toNat)) = ji26 := fun h_ => (i64_w _).symm.trans (hji26z h_)
   replace H := Option.bind_eq_some_iff.mp H
   obtain ⟨t449, A270, H⟩ := H
   try dsimp only at H
   have A27 := Aside0.mk A270
   clear A270
   have c28b0 := eq_true (of_decide_eq_true (by first | (with_reducible assumption) | assumption) : 0 ≤ a2)
   obtain ⟨ji29, hji29⟩ : ∃ j_ : Int, (shl .i64 a1_1 a2) = j_ := ⟨_, rfl⟩
   replace H : (if (ji29) ≤ 4294967295 then (spec_l2Shift.j0 k (shl .i64 a1_0 a2) ji29 t448 t449) else (spec_l2Shift.j0 k 0 4294967295 t448 t449)) = some (r1, r2, r3, r4) := by first | (rw [hji29] at H; exact H) | (simp only [hji29] at H ⊢; exact H)
   (try rw [hji29] at AC_spec_l2Top)
   (try rw [hji29] at A24)
   (try rw [hji29] at A27)
   have hji29_ : (IntKind.i64.wrap (a1_1 * 2 ^ min a2.toNat 64)) = ji29 := hji29
   have hji29z : a2 ≤ 64 → (IntKind.i64.wrap (a1_1 * 2 ^ a2.toNat)) = ji29 := shl_small hji29
   have hji29y : (wrap64 (a1_1 * 2 ^ min a2.toNat 64)) = ji29 := (i64_w _).symm.trans hji29_
   have hji29x : a2 ≤ 64 → (wrap64 (a1_1 * 2 ^ a2.toNat)) = ji29 := fun h_ => (i64_w _).symm.trans (hji29z h_)
   have AC_spec_l2Top := Aside0.mk (show spec_l2Top.f = some 4294967295 from rfl)
   have HC30 := Aside0.mk H
   clear H
   go_enter Try.func54, Try.ntmps54
   try go_wp2_with (first | ((with_reducible refine gate_dst (N := 4) rfl ?_); refine be 4 #[.int .i64 a1_0, .int .i64 a1_1, .int .i64 a1_2, .int .i64 a1_3] 24 ?_; intro gb442 hg w31 hbox hb; have BK442 := Aside0.mk hbox; have GW442 := zW hg; replace HB := zS hb; have GE442 := GW442; clear hb hbox hg) | ((with_reducible refine gate_dst (N := 6) rfl ?_); refine be 6 #[.int .i64 0, .int .i64 0, .int .i64 0, .int .i64 0] 24 ?_; intro gb443 hg w32 hbox hb; have BK443 := Aside0.mk hbox; have GW443 := zW hg; replace HB := zS hb; have GE443 := GW443; have NB442_443 := zl BK442 hg rfl; have NB443_442 := zg BK442 hg rfl; replace BK442 := zb BK442 hb rfl; clear hb hbox hg))
   replace BK442 := Aside0.mk (blk_drew BK442.out)
   replace BK443 := Aside0.mk (blk_drew BK443.out)
   replace HB := Aside0.mk (below_drew1 HB.out)
   refine start_ (n := 14) (S := fun w' => w'.cell? ⟨gb442, 0, none⟩ = some (.int .i64 a1_0) ∧ w'.cell? ⟨gb442, 1, none⟩ = some (.int .i64 a1_1) ∧ w'.cell? ⟨gb442, 2, none⟩ = some (.int .i64 a1_2) ∧ w'.cell? ⟨gb442, 3, none⟩ = some (.int .i64 a1_3)) (ds := []) #[false, false, false, false, false, false, false, false, false, false, false, false, false, false] (by kernel_rfl) rfl rfl ⟨(blk_cell BK442.out 0).trans rfl, (blk_cell BK442.out 1).trans rfl, (blk_cell BK442.out 2).trans rfl, (blk_cell BK442.out 3).trans rfl⟩ (fun hHeld => ?_); refine with_tabW spec_l2Shift.tab3 spec_l2Shift.bits3 (fun HT_ HW_ => ?_)
   generalize w32.drew = w33 at BK442 BK443 HB hHeld ⊢
   refine pz 1 29 ?_
   refine pz 3 31 ?_
   refine pz 6 34 ?_
   refine pz 8 36 ?_
   refine tz 2 30 ?_
   refine pz 4 32 ?_
   refine tz 7 35 ?_
   refine pz 9 37 ?_
   refine join_ (σ := Nat) 1 #[true, true, true, true, true, true, true, true, true, true, true, true, true, false] (fun s_ => [(28, .int .i64 4294967295), (33, .int .i64 t448), (38, .int .i64 t449), (7, .pointer (some ⟨s_, 0, none⟩)), (39, .agg #[.int .i64 0, .int .i64 4294967295, .int .i64 t448, .int .i64 t449])]) (fun s_ w' => (w'.cell? ⟨gb442, 0, none⟩ = some (.int .i64 a1_0) ∧ w'.cell? ⟨gb442, 1, none⟩ = some (.int .i64 a1_1) ∧ w'.cell? ⟨gb442, 2, none⟩ = some (.int .i64 a1_2) ∧ w'.cell? ⟨gb442, 3, none⟩ = some (.int .i64 a1_3)) ∧ (w'.heap[gb442]? = some (.cells #[.int .i64 a1_0, .int .i64 a1_1, .int .i64 a1_2, .int .i64 a1_3] 24 (0, 0))) ∧ (w'.heap[gb443]? = some (.cells #[.int .i64 0, .int .i64 0, .int .i64 0, .int .i64 0] 24 (0, 0))) ∧ (w'.heap[s_]? = some (.cells #[.int .i64 0, .int .i64 0, .int .i64 0, .int .i64 0] 24 (0, 0))) ∧ (w.heap.size ≤ s_) ∧ (w.heap.size ≤ s_) ∧ (gb442 ≠ s_) ∧ (s_ ≠ gb442) ∧ (gb443 ≠ s_) ∧ (s_ ≠ gb443) ∧ (Below w.heap.size w w')) ?_ ?_
   rotate_left
   ·intro hCont
    refine two_ (i := 0) (j := 12) (Ni := some 28) (Nj := some 7) #[true, true, true, true, true, false, true, true, true, true, false, false, false, false] #[false, true, true, true, true, false, true, true, true, true, false, false, true, false] rfl rfl rfl rfl (two_of HT_.out (by kernel_rfl)) (by decide) (by decide) (fun K hK => ?_) (fun K hK => ?_)
    ·skip
     refine gz Try.func39 #[] ?_
     with_reducible refine (spec_l2Top.calls  4294967295 _ AC_spec_l2Top.out).mono ?_
     rintro e w' ⟨rfl, ⟨nd, rfl⟩⟩
     refine ⟨_, rfl, ?_⟩
     refine hK.out _ _ ⟨(blk_cell BK442.out 0).trans rfl, (blk_cell BK442.out 1).trans rfl, (blk_cell BK442.out 2).trans rfl, (blk_cell BK442.out 3).trans rfl⟩ (fun hHeld => ?_)
     clear hK K
     refine nz ?_
     refine two_ (i := 5) (j := 12) (Ni := some 33) (Nj := some 7) #[true, true, true, true, true, true, true, true, true, true, false, false, false, false] #[true, true, true, true, true, false, true, true, true, true, false, false, true, false] rfl rfl rfl rfl (two_of HT_.out (by kernel_rfl)) (by decide) (by decide) (fun K hK => ?_) (fun K hK => ?_)
     ·skip
      refine goes_ Try.func62 (by kernel_rfl) rfl #[.int .i64 ji23] (by rfl) rfl rfl (by (try simp only [List.map_toArray, List.map_cons, List.map_nil]); first | done | (simp only [hji23]; rfl) | rfl | (simp only [List.length_drop, List.length_take]; rfl)) ?_
      with_reducible refine (spec_l2Wrap.calls ji23 t448 _ A24.out).mono ?_
      rintro e w' ⟨rfl, ⟨nd, rfl⟩⟩
      refine ⟨_, rfl, ?_⟩
      refine hK.out _ _ ⟨(blk_cell BK442.out 0).trans rfl, (blk_cell BK442.out 1).trans rfl, (blk_cell BK442.out 2).trans rfl, (blk_cell BK442.out 3).trans rfl⟩ (fun hHeld => ?_)
      clear hK K
      refine nz ?_
      refine two_ (i := 10) (j := 12) (Ni := some 38) (Nj := some 7) #[true, true, true, true, true, true, true, true, true, true, true, false, false, false] #[true, true, true, true, true, true, true, true, true, true, false, false, true, false] rfl rfl rfl rfl (two_of HT_.out (by kernel_rfl)) (by decide) (by decide) (fun K hK => ?_) (fun K hK => ?_)
      ·skip
       refine goes_ Try.func62 (by kernel_rfl) rfl #[.int .i64 ji26] (by rfl) rfl rfl (by (try simp only [List.map_toArray, List.map_cons, List.map_nil]); first | done | (simp only [hji26]; rfl) | rfl | (simp only [List.length_drop, List.length_take]; rfl)) ?_
       with_reducible refine (spec_l2Wrap.calls ji26 t449 _ A27.out).mono ?_
       rintro e w' ⟨rfl, ⟨nd, rfl⟩⟩
       refine ⟨_, rfl, ?_⟩
       refine hK.out _ _ ⟨(blk_cell BK442.out 0).trans rfl, (blk_cell BK442.out 1).trans rfl, (blk_cell BK442.out 2).trans rfl, (blk_cell BK442.out 3).trans rfl⟩ (fun hHeld => ?_)
       clear hK K
       refine nz ?_
       refine pz 11 39 ?_
       refine oz 12 7 fun K hK => ?_
       refine box_step ?hg (N := 7) ?hd (cs := #[.int .i64 0, .int .i64 0, .int .i64 0, .int .i64 0]) (t := 24) ?hr ?_; (case hd => rfl); (case hg => rfl); (case hr => first | (go_simp; done) | (go_simp; rfl))
       intro gb450 hg w34 hbox hb
       have BK450 := Aside0.mk hbox
       have GW450 := zW hg
       have GE450 := zW hg
       replace HB := zS hb
       have NB442_450 := zl BK442 hg rfl
       have NB450_442 := zg BK442 hg rfl
       replace BK442 := zb BK442 hb rfl
       have NB443_450 := zl BK443 hg rfl
       have NB450_443 := zg BK443 hg rfl
       replace BK443 := zb BK443 hb rfl
       clear hb hbox hg
       refine hK.out _ _ ⟨(blk_cell BK442.out 0).trans rfl, (blk_cell BK442.out 1).trans rfl, (blk_cell BK442.out 2).trans rfl, (blk_cell BK442.out 3).trans rfl⟩ (fun hHeld => ?_)
       clear hK K
       refine nz ?_
       exact norm_ (by simp only [putAll, Act.put, List.setIfInBounds_toArray, List.set_cons_zero, List.set_cons_succ]) (hCont (gb450) _ ⟨hHeld, (by exact bq BK442.out), (by exact bq BK443.out), (by exact bq BK450.out), GW450.out, GE450.out, NB442_450.out, NB450_442.out, NB443_450.out, NB450_443.out, zB⟩)
      ·skip
       refine box_step ?hg (N := 7) ?hd (cs := #[.int .i64 0, .int .i64 0, .int .i64 0, .int .i64 0]) (t := 24) ?hr ?_; (case hd => rfl); (case hg => rfl); (case hr => first | (go_simp; done) | (go_simp; rfl))
       intro gb450 hg w34 hbox hb
       have BK450 := Aside0.mk hbox
       have GW450 := zW hg
       have GE450 := zW hg
       replace HB := zS hb
       have NB442_450 := zl BK442 hg rfl
       have NB450_442 := zg BK442 hg rfl
       replace BK442 := zb BK442 hb rfl
       have NB443_450 := zl BK443 hg rfl
       have NB450_443 := zg BK443 hg rfl
       replace BK443 := zb BK443 hb rfl
       clear hb hbox hg
       refine hK.out _ _ ⟨(blk_cell BK442.out 0).trans rfl, (blk_cell BK442.out 1).trans rfl, (blk_cell BK442.out 2).trans rfl, (blk_cell BK442.out 3).trans rfl⟩ (fun hHeld => ?_)
       clear hK K
       refine nz ?_
       refine oz 10 38 fun K hK => ?_
       refine goes_ Try.func62 (by kernel_rfl) rfl #[.int .i64 ji26] (by rfl) rfl rfl (by (try simp only [List.map_toArray, List.map_cons, List.map_nil]); first | done | (simp only [hji26]; rfl) | rfl | (simp only [List.length_drop, List.length_take]; rfl)) ?_
       with_reducible refine (spec_l2Wrap.calls ji26 t449 _ A27.out).mono ?_
       rintro e w' ⟨rfl, ⟨nd, rfl⟩⟩
       refine ⟨_, rfl, ?_⟩
       refine hK.out _ _ ⟨(blk_cell BK442.out 0).trans rfl, (blk_cell BK442.out 1).trans rfl, (blk_cell BK442.out 2).trans rfl, (blk_cell BK442.out 3).trans rfl⟩ (fun hHeld => ?_)
       clear hK K
       refine nz ?_
       refine pz 11 39 ?_
       exact norm_ (by simp only [putAll, Act.put, List.setIfInBounds_toArray, List.set_cons_zero, List.set_cons_succ]) (hCont (gb450) _ ⟨hHeld, (by exact bq BK442.out), (by exact bq BK443.out), (by exact bq BK450.out), GW450.out, GE450.out, NB442_450.out, NB450_442.out, NB443_450.out, NB450_443.out, zB⟩)
     ·skip
      refine box_step ?hg (N := 7) ?hd (cs := #[.int .i64 0, .int .i64 0, .int .i64 0, .int .i64 0]) (t := 24) ?hr ?_; (case hd => rfl); (case hg => rfl); (case hr => first | (go_simp; done) | (go_simp; rfl))
      intro gb450 hg w34 hbox hb
      have BK450 := Aside0.mk hbox
      have GW450 := zW hg
      have GE450 := zW hg
      replace HB := zS hb
      have NB442_450 := zl BK442 hg rfl
      have NB450_442 := zg BK442 hg rfl
      replace BK442 := zb BK442 hb rfl
      have NB443_450 := zl BK443 hg rfl
      have NB450_443 := zg BK443 hg rfl
      replace BK443 := zb BK443 hb rfl
      clear hb hbox hg
      refine hK.out _ _ ⟨(blk_cell BK442.out 0).trans rfl, (blk_cell BK442.out 1).trans rfl, (blk_cell BK442.out 2).trans rfl, (blk_cell BK442.out 3).trans rfl⟩ (fun hHeld => ?_)
      clear hK K
      refine nz ?_
      refine oz 5 33 fun K hK => ?_
      refine goes_ Try.func62 (by kernel_rfl) rfl #[.int .i64 ji23] (by rfl) rfl rfl (by (try simp only [List.map_toArray, List.map_cons, List.map_nil]); first | done | (simp only [hji23]; rfl) | rfl | (simp only [List.length_drop, List.length_take]; rfl)) ?_
      with_reducible refine (spec_l2Wrap.calls ji23 t448 _ A24.out).mono ?_
      rintro e w' ⟨rfl, ⟨nd, rfl⟩⟩
      refine ⟨_, rfl, ?_⟩
      refine hK.out _ _ ⟨(blk_cell BK442.out 0).trans rfl, (blk_cell BK442.out 1).trans rfl, (blk_cell BK442.out 2).trans rfl, (blk_cell BK442.out 3).trans rfl⟩ (fun hHeld => ?_)
      clear hK K
      refine nz ?_
      refine oz 10 38 fun K hK => ?_
      refine goes_ Try.func62 (by kernel_rfl) rfl #[.int .i64 ji26] (by rfl) rfl rfl (by (try simp only [List.map_toArray, List.map_cons, List.map_nil]); first | done | (simp only [hji26]; rfl) | rfl | (simp only [List.length_drop, List.length_take]; rfl)) ?_
      with_reducible refine (spec_l2Wrap.calls ji26 t449 _ A27.out).mono ?_
      rintro e w' ⟨rfl, ⟨nd, rfl⟩⟩
      refine ⟨_, rfl, ?_⟩
      refine hK.out _ _ ⟨(blk_cell BK442.out 0).trans rfl, (blk_cell BK442.out 1).trans rfl, (blk_cell BK442.out 2).trans rfl, (blk_cell BK442.out 3).trans rfl⟩ (fun hHeld => ?_)
      clear hK K
      refine nz ?_
      refine pz 11 39 ?_
      exact norm_ (by simp only [putAll, Act.put, List.setIfInBounds_toArray, List.set_cons_zero, List.set_cons_succ]) (hCont (gb450) _ ⟨hHeld, (by exact bq BK442.out), (by exact bq BK443.out), (by exact bq BK450.out), GW450.out, GE450.out, NB442_450.out, NB450_442.out, NB443_450.out, NB450_443.out, zB⟩)
    ·skip
     refine box_step ?hg (N := 7) ?hd (cs := #[.int .i64 0, .int .i64 0, .int .i64 0, .int .i64 0]) (t := 24) ?hr ?_; (case hd => rfl); (case hg => rfl); (case hr => first | (go_simp; done) | (go_simp; rfl))
     intro gb450 hg w34 hbox hb
     have BK450 := Aside0.mk hbox
     have GW450 := zW hg
     have GE450 := zW hg
     replace HB := zS hb
     have NB442_450 := zl BK442 hg rfl
     have NB450_442 := zg BK442 hg rfl
     replace BK442 := zb BK442 hb rfl
     have NB443_450 := zl BK443 hg rfl
     have NB450_443 := zg BK443 hg rfl
     replace BK443 := zb BK443 hb rfl
     clear hb hbox hg
     refine hK.out _ _ ⟨(blk_cell BK442.out 0).trans rfl, (blk_cell BK442.out 1).trans rfl, (blk_cell BK442.out 2).trans rfl, (blk_cell BK442.out 3).trans rfl⟩ (fun hHeld => ?_)
     clear hK K
     refine nz ?_
     refine oz 0 28 fun K hK => ?_
     refine gz Try.func39 #[] ?_
     with_reducible refine (spec_l2Top.calls  4294967295 _ AC_spec_l2Top.out).mono ?_
     rintro e w' ⟨rfl, ⟨nd, rfl⟩⟩
     refine ⟨_, rfl, ?_⟩
     refine hK.out _ _ ⟨(blk_cell BK442.out 0).trans rfl, (blk_cell BK442.out 1).trans rfl, (blk_cell BK442.out 2).trans rfl, (blk_cell BK442.out 3).trans rfl⟩ (fun hHeld => ?_)
     clear hK K
     refine nz ?_
     refine oz 5 33 fun K hK => ?_
     refine goes_ Try.func62 (by kernel_rfl) rfl #[.int .i64 ji23] (by rfl) rfl rfl (by (try simp only [List.map_toArray, List.map_cons, List.map_nil]); first | done | (simp only [hji23]; rfl) | rfl | (simp only [List.length_drop, List.length_take]; rfl)) ?_
     with_reducible refine (spec_l2Wrap.calls ji23 t448 _ A24.out).mono ?_
     rintro e w' ⟨rfl, ⟨nd, rfl⟩⟩
     refine ⟨_, rfl, ?_⟩
     refine hK.out _ _ ⟨(blk_cell BK442.out 0).trans rfl, (blk_cell BK442.out 1).trans rfl, (blk_cell BK442.out 2).trans rfl, (blk_cell BK442.out 3).trans rfl⟩ (fun hHeld => ?_)
     clear hK K
     refine nz ?_
     refine oz 10 38 fun K hK => ?_
     refine goes_ Try.func62 (by kernel_rfl) rfl #[.int .i64 ji26] (by rfl) rfl rfl (by (try simp only [List.map_toArray, List.map_cons, List.map_nil]); first | done | (simp only [hji26]; rfl) | rfl | (simp only [List.length_drop, List.length_take]; rfl)) ?_
     with_reducible refine (spec_l2Wrap.calls ji26 t449 _ A27.out).mono ?_
     rintro e w' ⟨rfl, ⟨nd, rfl⟩⟩
     refine ⟨_, rfl, ?_⟩
     refine hK.out _ _ ⟨(blk_cell BK442.out 0).trans rfl, (blk_cell BK442.out 1).trans rfl, (blk_cell BK442.out 2).trans rfl, (blk_cell BK442.out 3).trans rfl⟩ (fun hHeld => ?_)
     clear hK K
     refine nz ?_
     refine pz 11 39 ?_
     exact norm_ (by simp only [putAll, Act.put, List.setIfInBounds_toArray, List.set_cons_zero, List.set_cons_succ]) (hCont (gb450) _ ⟨hHeld, (by exact bq BK442.out), (by exact bq BK443.out), (by exact bq BK450.out), GW450.out, GE450.out, NB442_450.out, NB450_442.out, NB443_450.out, NB450_443.out, zB⟩)
   rintro gb450 w35 ⟨hS_, h0_, h1_, h2_, h3_, h4_, h5_, h6_, h7_, h8_, h9_⟩
   have n0_ : Aside0 (w35.heap[gb442]? = some (.cells #[.int .i64 a1_0, .int .i64 a1_1, .int .i64 a1_2, .int .i64 a1_3] 24 (0, 0))) := ⟨h0_⟩
   have n1_ : Aside0 (w35.heap[gb443]? = some (.cells #[.int .i64 0, .int .i64 0, .int .i64 0, .int .i64 0] 24 (0, 0))) := ⟨h1_⟩
   have n2_ : Aside0 (w35.heap[gb450]? = some (.cells #[.int .i64 0, .int .i64 0, .int .i64 0, .int .i64 0] 24 (0, 0))) := ⟨h2_⟩
   have n3_ : Aside0 (w.heap.size ≤ gb450) := ⟨h3_⟩
   have n4_ : Aside0 (w.heap.size ≤ gb450) := ⟨h4_⟩
   have n5_ : Aside0 (gb442 ≠ gb450) := ⟨h5_⟩
   have n6_ : Aside0 (gb450 ≠ gb442) := ⟨h6_⟩
   have n7_ : Aside0 (gb443 ≠ gb450) := ⟨h7_⟩
   have n8_ : Aside0 (gb450 ≠ gb443) := ⟨h8_⟩
   have n9_ : Aside0 (Below w.heap.size w w35) := ⟨h9_⟩
   clear BK442
   clear BK443
   clear HB
   clear h0_ h1_ h2_ h3_ h4_ h5_ h6_ h7_ h8_ h9_
   have BK442 := n0_
   have BK443 := n1_
   have BK450 := n2_
   have GW450 := n3_
   have GE450 := n4_
   have NB442_450 := n5_
   have NB450_442 := n6_
   have NB443_450 := n7_
   have NB450_443 := n8_
   have HB := n9_
   clear n0_ n1_ n2_ n3_ n4_ n5_ n6_ n7_ n8_ n9_
   have hHeld : w35.cell? ⟨gb442, 0, none⟩ = some (.int .i64 a1_0) ∧ w35.cell? ⟨gb442, 1, none⟩ = some (.int .i64 a1_1) ∧ w35.cell? ⟨gb442, 2, none⟩ = some (.int .i64 a1_2) ∧ w35.cell? ⟨gb442, 3, none⟩ = some (.int .i64 a1_3) := hS_
   refine norm_ (a' := ?_) ?_ ?_
   rotate_left
   ·simp only [putAll, Act.put, List.setIfInBounds_toArray, List.set_cons_zero, List.set_cons_succ]
    rfl
   refine oN 13 fun K hK => ?_
   have hs36 : w35.cell? ⟨gb450, 0, none⟩ = some (.int .i64 0) := (blk_cell BK450.out 0).trans rfl
   have hfs36 := blk_frozen BK450.out 0
   have hns36_0 := NB442_450.out
   have hns36_1 := NB443_450.out
   have hms36_0 := NB450_442.out
   have hms36_1 := NB450_443.out
   have hs37 : w35.cell? ⟨gb450, 1, none⟩ = some (.int .i64 0) := (blk_cell BK450.out 1).trans rfl
   have hfs37 := blk_frozen BK450.out 1
   have hns37_0 := NB442_450.out
   have hns37_1 := NB443_450.out
   have hms37_0 := NB450_442.out
   have hms37_1 := NB450_443.out
   have hs38 : w35.cell? ⟨gb450, 2, none⟩ = some (.int .i64 0) := (blk_cell BK450.out 2).trans rfl
   have hfs38 := blk_frozen BK450.out 2
   have hns38_0 := NB442_450.out
   have hns38_1 := NB443_450.out
   have hms38_0 := NB450_442.out
   have hms38_1 := NB450_443.out
   have hs39 : w35.cell? ⟨gb450, 3, none⟩ = some (.int .i64 0) := (blk_cell BK450.out 3).trans rfl
   have hfs39 := blk_frozen BK450.out 3
   have hns39_0 := NB442_450.out
   have hns39_1 := NB443_450.out
   have hms39_0 := NB450_442.out
   have hms39_1 := NB450_443.out
   refine skip_ (w1 := ?_) (by rfl) rfl ?_ ?_
   rotate_left
   ·go_simp
    rfl
   refine hK.out _ _ ⟨((cell_far (p := ⟨gb450, _, none⟩) NB442_450.out _).trans (((cell_far (p := ⟨gb450, _, none⟩) NB442_450.out _).trans (((cell_far (p := ⟨gb450, _, none⟩) NB442_450.out _).trans (((cell_far (p := ⟨gb450, _, none⟩) NB442_450.out _).trans (hHeld.1)))))))), ((cell_far (p := ⟨gb450, _, none⟩) NB442_450.out _).trans (((cell_far (p := ⟨gb450, _, none⟩) NB442_450.out _).trans (((cell_far (p := ⟨gb450, _, none⟩) NB442_450.out _).trans (((cell_far (p := ⟨gb450, _, none⟩) NB442_450.out _).trans (hHeld.2.1)))))))), ((cell_far (p := ⟨gb450, _, none⟩) NB442_450.out _).trans (((cell_far (p := ⟨gb450, _, none⟩) NB442_450.out _).trans (((cell_far (p := ⟨gb450, _, none⟩) NB442_450.out _).trans (((cell_far (p := ⟨gb450, _, none⟩) NB442_450.out _).trans (hHeld.2.2.1)))))))), ((cell_far (p := ⟨gb450, _, none⟩) NB442_450.out _).trans (((cell_far (p := ⟨gb450, _, none⟩) NB442_450.out _).trans (((cell_far (p := ⟨gb450, _, none⟩) NB442_450.out _).trans (((cell_far (p := ⟨gb450, _, none⟩) NB442_450.out _).trans (hHeld.2.2.2))))))))⟩ (fun hHeld => ?_)
   clear hK K
   refine done_ (done_of HT_.out (by kernel_rfl)) ?_
   try go_wp2
   have n0_ : Aside0 (((((w35.setCell ⟨gb450, 0, none⟩ (.int .i64 0)).setCell ⟨gb450, 1, none⟩ (.int .i64 4294967295)).setCell ⟨gb450, 2, none⟩ (.int .i64 t448)).setCell ⟨gb450, 3, none⟩ (.int .i64 t449)).heap[gb442]? = some (.cells #[.int .i64 a1_0, .int .i64 a1_1, .int .i64 a1_2, .int .i64 a1_3] 24 (0, 0))) := ⟨by refine fq ?_ NB442_450.out; refine fq ?_ NB442_450.out; refine fq ?_ NB442_450.out; refine fq ?_ NB442_450.out; exact bq BK442.out⟩
   have n1_ : Aside0 (((((w35.setCell ⟨gb450, 0, none⟩ (.int .i64 0)).setCell ⟨gb450, 1, none⟩ (.int .i64 4294967295)).setCell ⟨gb450, 2, none⟩ (.int .i64 t448)).setCell ⟨gb450, 3, none⟩ (.int .i64 t449)).heap[gb443]? = some (.cells #[.int .i64 0, .int .i64 0, .int .i64 0, .int .i64 0] 24 (0, 0))) := ⟨by refine fq ?_ NB443_450.out; refine fq ?_ NB443_450.out; refine fq ?_ NB443_450.out; refine fq ?_ NB443_450.out; exact bq BK443.out⟩
   have n2_ : Aside0 (((((w35.setCell ⟨gb450, 0, none⟩ (.int .i64 0)).setCell ⟨gb450, 1, none⟩ (.int .i64 4294967295)).setCell ⟨gb450, 2, none⟩ (.int .i64 t448)).setCell ⟨gb450, 3, none⟩ (.int .i64 t449)).heap[gb450]? = some (.cells #[.int .i64 0, .int .i64 4294967295, .int .i64 t448, .int .i64 t449] 24 (0, 0))) := ⟨by refine bq ?_; refine blk_put (cs := #[.int .i64 0, .int .i64 4294967295, .int .i64 t448, .int .i64 0]) ?_ 3 _ rfl; refine bq ?_; refine blk_put (cs := #[.int .i64 0, .int .i64 4294967295, .int .i64 0, .int .i64 0]) ?_ 2 _ rfl; refine bq ?_; refine blk_put (cs := #[.int .i64 0, .int .i64 0, .int .i64 0, .int .i64 0]) ?_ 1 _ rfl; refine bq ?_; refine blk_put (cs := #[.int .i64 0, .int .i64 0, .int .i64 0, .int .i64 0]) ?_ 0 _ rfl; exact bq BK450.out⟩
   have n3_ : Aside0 (Below w.heap.size w ((((w35.setCell ⟨gb450, 0, none⟩ (.int .i64 0)).setCell ⟨gb450, 1, none⟩ (.int .i64 4294967295)).setCell ⟨gb450, 2, none⟩ (.int .i64 t448)).setCell ⟨gb450, 3, none⟩ (.int .i64 t449))) := ⟨zB⟩
   (try clear BK442)
   (try clear BK443)
   (try clear BK450)
   (try clear HB)
   generalize ((((w35.setCell ⟨gb450, 0, none⟩ (.int .i64 0)).setCell ⟨gb450, 1, none⟩ (.int .i64 4294967295)).setCell ⟨gb450, 2, none⟩ (.int .i64 t448)).setCell ⟨gb450, 3, none⟩ (.int .i64 t449)) = w40 at n0_ n1_ n2_ n3_ ⊢
   have BK442 := n0_
   have BK443 := n1_
   have BK450 := n2_
   have HB := n3_
   clear n0_ n1_ n2_ n3_
   replace BK442 := Aside0.mk (blk_drew BK442.out)
   replace BK443 := Aside0.mk (blk_drew BK443.out)
   replace BK450 := Aside0.mk (blk_drew BK450.out)
   replace HB := Aside0.mk (below_drew1 HB.out)
   refine start_ (n := 6) (S := fun w' => w'.cell? ⟨gb442, 0, none⟩ = some (.int .i64 a1_0) ∧ w'.cell? ⟨gb442, 1, none⟩ = some (.int .i64 a1_1) ∧ w'.cell? ⟨gb442, 2, none⟩ = some (.int .i64 a1_2) ∧ w'.cell? ⟨gb442, 3, none⟩ = some (.int .i64 a1_3)) (ds := []) #[false, false, false, false, false, false] (by kernel_rfl) rfl rfl ⟨(blk_cell BK442.out 0).trans rfl, (blk_cell BK442.out 1).trans rfl, (blk_cell BK442.out 2).trans rfl, (blk_cell BK442.out 3).trans rfl⟩ (fun hHeld => ?_)
   generalize w40.drew = w41 at BK442 BK443 BK450 HB hHeld ⊢
   refine pz 0 40 ?_
   refine pz 2 42 ?_
   refine tz 1 41 ?_
   refine pz 3 43 ?_
   refine oz 4 44 fun K hK => ?_
   refine gz Try.func39 #[] ?_
   with_reducible refine (spec_l2Top.calls  4294967295 _ AC_spec_l2Top.out).mono ?_
   rintro e w' ⟨rfl, ⟨nd, rfl⟩⟩
   refine ⟨_, rfl, ?_⟩
   refine hK.out _ _ ⟨(blk_cell BK442.out 0).trans rfl, (blk_cell BK442.out 1).trans rfl, (blk_cell BK442.out 2).trans rfl, (blk_cell BK442.out 3).trans rfl⟩ (fun hHeld => ?_)
   clear hK K
   refine nz ?_
   refine pz 5 45 ?_
   refine done_ (by kernel_rfl) ?_
   go_upto_if 45 with (fail)
   go_cut [] (fun wc => ∃ (kq : Nat) (x451000_29 : Int) (x451001_29 : Int), Aside0 (spec_l2Shift.j0 kq x451000_29 x451001_29 t448 t449 = some (r1, r2, r3, r4)) ∧ Aside0 (kq ≤ k) ∧ Aside0 (wc.heap[gb442]? = some (.cells #[.int .i64 a1_0, .int .i64 a1_1, .int .i64 a1_2, .int .i64 a1_3] 24 (0, 0))) ∧ Aside0 (wc.heap[gb443]? = some (.cells #[.int .i64 0, .int .i64 0, .int .i64 0, .int .i64 0] 24 (0, 0))) ∧ Aside0 (wc.heap[gb450]? = some (.cells #[.int .i64 x451000_29, .int .i64 x451001_29, .int .i64 t448, .int .i64 t449] 24 (0, 0))) ∧ Aside0 (Below w.heap.size w wc))
   case first =>
    have H := HC30.out
    clear HC30
    by_cases c42 : (ji29) ≤ 4294967295
    ·rw [if_pos c42] at H
     have c42b0 : decide ((ji29) ≤ 4294967295) = true := decide_eq_true c42
     clear c42
     (first | rw [c42b0] | (simp only [i64_w, i32_w]; rw [c42b0]) | skip)
     have c43b0 := eq_true (of_decide_eq_true (by first | (with_reducible assumption) | assumption) : 0 ≤ a2)
     obtain ⟨ji44, hji44⟩ : ∃ j_ : Int, (shl .i64 a1_0 a2) = j_ := ⟨_, rfl⟩
     replace H : (spec_l2Shift.j0 k ji44 ji29 t448 t449) = some (r1, r2, r3, r4) := by first | (rw [hji44] at H; exact H) | (simp only [hji44] at H ⊢; exact H)
     have hji44_ : (IntKind.i64.wrap (a1_0 * 2 ^ min a2.toNat 64)) = ji44 := hji44
     have hji44z : a2 ≤ 64 → (IntKind.i64.wrap (a1_0 * 2 ^ a2.toNat)) = ji44 := shl_small hji44
     have hji44y : (wrap64 (a1_0 * 2 ^ min a2.toNat 64)) = ji44 := (i64_w _).symm.trans hji44_
     have hji44x : a2 ≤ 64 → (wrap64 (a1_0 * 2 ^ a2.toNat)) = ji44 := fun h_ => (i64_w _).symm.trans (hji44z h_)
     have c45b0 := eq_true (of_decide_eq_true (by first | (with_reducible assumption) | assumption) : 0 ≤ a2)
     have H' := Aside0.mk H
     clear H
     have hnb46 := NB442_443.out
     have hnc46 := NB443_442.out
     have hnb47 := NB442_450.out
     have hnc47 := NB450_442.out
     obtain ⟨hcz48_0, hcz48_1, hcz48_2, hcz48_3, hfz48_0, hfz48_1, hfz48_2, hfz48_3⟩ := zc4 BK442
     have hnb49 := NB450_443.out
     have hnc49 := NB443_450.out
     obtain ⟨hcz50_0, hcz50_1, hcz50_2, hcz50_3, hfz50_0, hfz50_1, hfz50_2, hfz50_3⟩ := zc4 BK450
     go_wp2
     go_meet
     case rel => exact ⟨_, (ji44), (ji29), H', ⟨by first | omega | exact Nat.le_refl _⟩, ⟨by refine fq ?_ NB442_450.out; refine fq ?_ NB442_450.out; exact bq BK442.out⟩, ⟨by refine fq ?_ NB443_450.out; refine fq ?_ NB443_450.out; exact bq BK443.out⟩, ⟨by refine bq ?_; refine blk_put (cs := #[.int .i64 ji44, .int .i64 4294967295, .int .i64 t448, .int .i64 t449]) ?_ 1 _ rfl; refine bq ?_; refine blk_put (cs := #[.int .i64 0, .int .i64 4294967295, .int .i64 t448, .int .i64 t449]) ?_ 0 _ rfl; exact bq BK450.out⟩, ⟨zB⟩⟩
    ·rw [if_neg c42] at H
     have c42b0 : decide ((ji29) ≤ 4294967295) = false := decide_eq_false c42
     clear c42
     (first | rw [c42b0] | (simp only [i64_w, i32_w]; rw [c42b0]) | skip)
     have H' := Aside0.mk H
     clear H
     go_wp2
     go_meet
     case rel => exact ⟨_, (0), (4294967295), H', ⟨by first | omega | exact Nat.le_refl _⟩, ⟨by exact bq BK442.out⟩, ⟨by exact bq BK443.out⟩, ⟨by exact bq BK450.out⟩, ⟨zB⟩⟩
   case rest =>
    clear HC30
    try clear c2
    try clear p2
    try clear c3
    try clear c4
    try clear c5
    try clear c6
    try clear p6
    try clear c25
    try clear c25b0
    try clear c28
    try clear c28b0
    try clear c39
    try clear c42
    try clear c42b0
    try clear c43
    try clear c43b0
    try clear c45
    try clear c45b0
    try clear c46
    try clear c47
    try clear c49
    try clear hcz48_0 hcz48_1 hcz48_2 hcz48_3 hfz48_0 hfz48_1 hfz48_2 hfz48_3
    try clear hcz50_0 hcz50_1 hcz50_2 hcz50_3 hfz50_0 hfz50_1 hfz50_2 hfz50_3
    obtain ⟨kq, x451000_29, x451001_29, HA, HJ29, BK442, BK443, BK450, HB⟩ := hcut
    cases kq with
    | zero => exact absurd HA.out (by simp [spec_l2Shift.j0])
    | succ kj29 =>
     have H := HA.out
     clear HA
     simp only [spec_l2Shift.j0] at H
     replace H := Option.bind_eq_some_iff.mp H
     obtain ⟨⟨t451, t452, t453, t454⟩, A510, H⟩ := H
     try dsimp only at H
     have A51 := Aside0.mk A510
     clear A510
     simp only [Option.some.injEq, Prod.mk.injEq] at H
     obtain ⟨rfl, rfl, rfl, rfl⟩ := H
     have hnb52 := NB450_442.out
     have hnc52 := NB442_450.out
     have hnb53 := NB450_443.out
     have hnc53 := NB443_450.out
     obtain ⟨hcz54_0, hcz54_1, hcz54_2, hcz54_3, hfz54_0, hfz54_1, hfz54_2, hfz54_3⟩ := zc4 BK450
     go_wp2_with (first | ((with_reducible refine gate_callee (f := 27) rfl ?_); refine gl 57 Try.func27 #[.agg #[.int .i64 x451000_29, .int .i64 x451001_29, .int .i64 t448, .int .i64 t449]] ?_; (with_reducible refine (spec_l2Tidy.calls kj29 x451000_29 x451001_29 t448 t449 t451 t452 t453 t454 _ A51.out).mono ?_); rintro e w55 ⟨rfl, hb⟩; refine ⟨_, rfl, ?_⟩; replace BK442 := zb BK442 hb rfl; replace BK443 := zb BK443 hb rfl; replace BK450 := zb BK450 hb rfl; replace HB := zS hb; try clear hb; have hnb56 := NB443_442.out; have hnc56 := NB442_443.out; obtain ⟨hcz57_0, hcz57_1, hcz57_2, hcz57_3, hfz57_0, hfz57_1, hfz57_2, hfz57_3⟩ := zc4 BK443))
     refine bodyPost_ret (results_cell_row rfl _ _ gb443 24 #[.int .i64 t451, .int .i64 t452, .int .i64 t453, .int .i64 t454] (0, 0) _ rfl (by refine bq ?_; refine blk_put (cs := #[.int .i64 t451, .int .i64 t452, .int .i64 t453, .int .i64 0]) ?_ 3 _ rfl; refine bq ?_; refine blk_put (cs := #[.int .i64 t451, .int .i64 t452, .int .i64 0, .int .i64 0]) ?_ 2 _ rfl; refine bq ?_; refine blk_put (cs := #[.int .i64 t451, .int .i64 0, .int .i64 0, .int .i64 0]) ?_ 1 _ rfl; refine bq ?_; refine blk_put (cs := #[.int .i64 0, .int .i64 0, .int .i64 0, .int .i64 0]) ?_ 0 _ rfl; exact bq BK443.out) Try.underlying24 rfl (by kernel_rfl)) rfl ?_
     exact ⟨by first | rfl | (simp [errW_none, errW_some] <;> rfl) | (simp only [← hji23, ← hji26, ← hji29]; first | rfl | (simp [errW_none, errW_some] <;> rfl)) | (simp [*, errW_none, errW_some] <;> rfl), zB⟩
  ·rw [if_neg c22] at H
   exact absurd H (by simp)

end Go.Proofs.Ytdhijcfohbkpoaa.Q
