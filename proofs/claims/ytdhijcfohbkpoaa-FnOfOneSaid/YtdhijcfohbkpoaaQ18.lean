/- The machine's side of this seat's laws: Go functions as Lean functions, and their contracts. By a program of this work over the kit's print. -/
import Derived.Test.YtdhijcfohbkpoaaQ0
import Derived.Test.YtdhijcfohbkpoaaQ3
namespace Go.Proofs.Ytdhijcfohbkpoaa.Q
open Go.RowKit Go.Proofs.YtdhijcfohbkpoaaW.PrintWords Go.Proofs.YtdhijcfohbkpoaaW.PrintLast Go.Proofs.YtdhijcfohbkpoaaW.PrintMore
attribute [local go_sem] max2_int min2_int max_two min_two max_three min_three max_four min_four Go.Proofs.YtdhijcfohbkpoaaN.not_i64 Go.Proofs.YtdhijcfohbkpoaaN.isSome_setCell   -- for this text's walks alone
set_option linter.unusedVariables false
set_option linter.unusedSimpArgs false

/-! ### spec_l2Parts: function 55 -/
mutual
def spec_l2Parts.j0 : Nat → Bool → Int → Int → Int → Int → Int → Int → Int → Int → Option (Int × Int × Int × Int)
 | 0, _, _, _, _, _, _, _, _, _ => none
 | k + 1, x35, x456000, x456001, x456002, x456003, x457000, x457001, x457002, x457003 => if x35 = true then (some (x456000, x456001, x456002, x456003)) else (if x457000 > 0 then (spec_l2Parts.j1 k (decide ((wrap64 (x457001 - 1)) < x456001)) x456000 x456001 x456002 x456003 x457000 x457001 x457002 x457003) else (spec_l2Parts.j1 k false x456000 x456001 x456002 x456003 x457000 x457001 x457002 x457003))
def spec_l2Parts.j1 : Nat → Bool → Int → Int → Int → Int → Int → Int → Int → Int → Option (Int × Int × Int × Int)
 | 0, _, _, _, _, _, _, _, _, _ => none
 | k + 1, x47, x456000, x456001, x456002, x456003, x457000, x457001, x457002, x457003 => if x47 = true then ((spec_l2Ends.f k 0 (wrap64 (x457001 - 1))).bind fun bt466 => (some (bt466.1, bt466.2.1, bt466.2.2.1, bt466.2.2.2))) else ((spec_l2Ends.f k 0 x456001).bind fun bt470 => (some (bt470.1, bt470.2.1, bt470.2.2.1, bt470.2.2.2)))
end
def spec_l2Parts.f (k : Nat) (a0 : Int) (a1_0 : Int) (a1_1 : Int) (a1_2 : Int) (a1_3 : Int) (a2_0 : Int) (a2_1 : Int) (a2_2 : Int) (a2_3 : Int) : Option (Int × Int × Int × Int) := if a0 = 10 then (if a2_0 > 0 then (if a2_1 = 0 then (none) else (if a2_0 = 0 then (none) else ((spec_l2Ends.f k (wrap64 (Int.tdiv a1_0 a2_1)) (wrap64 (Int.tdiv a1_1 a2_0))).bind fun bt458 => (some (bt458.1, bt458.2.1, bt458.2.2.1, bt458.2.2.2))))) else ((spec_l2Ends.f k 0 a1_1).bind fun bt462 => (some (bt462.1, bt462.2.1, bt462.2.2.1, bt462.2.2.2)))) else (if a2_0 > 0 then (spec_l2Parts.j0 k (decide (a1_1 < a2_0)) a1_0 a1_1 a1_2 a1_3 a2_0 a2_1 a2_2 a2_3) else (spec_l2Parts.j0 k false a1_0 a1_1 a1_2 a1_3 a2_0 a2_1 a2_2 a2_3))


def spec_l2Parts.T3 : Bool × List (List Nat × List Nat) := (true, [([], []), ([0], [0]), ([], []), ([2], [2]), ([1, 3], [1, 3]), ([], []), ([5], [5]), ([], []), ([7], [7]), ([6, 8], [6, 8]), ([4, 9], [4, 9]), ([10, 10, 0, 1, 2, 3, 4, 5, 6, 7, 8, 9, 10], [10])])
def spec_l2Parts.B3 : List Nat := [0, 1, 0, 4, 15, 0, 32, 0, 128, 480, 1023, 2047]
theorem spec_l2Parts.tab3 : rtab .any (opsOf Try.f55 3) = spec_l2Parts.T3 := by kernel_rfl
theorem spec_l2Parts.bits3 : waitsOk spec_l2Parts.T3.2 spec_l2Parts.B3 = true := by kernel_rfl
set_option maxHeartbeats 8000000 in
set_option maxRecDepth 100000 in
theorem spec_l2Parts.calls (k : Nat) (a0 : Int) (a1_0 : Int) (a1_1 : Int) (a1_2 : Int) (a1_3 : Int) (a2_0 : Int) (a2_1 : Int) (a2_2 : Int) (a2_3 : Int) (r1 : Int) (r2 : Int) (r3 : Int) (r4 : Int) (w : World) (h : spec_l2Parts.f k a0 a1_0 a1_1 a1_2 a1_3 a2_0 a2_1 a2_2 a2_3 = some (r1, r2, r3, r4)) :
  Calls Try.prog 55 #[.int .i64 a0, .agg #[.int .i64 a1_0, .int .i64 a1_1, .int .i64 a1_2, .int .i64 a1_3], .agg #[.int .i64 a2_0, .int .i64 a2_1, .int .i64 a2_2, .int .i64 a2_3]] w fun e w' => e = .returned (.agg #[.int .i64 r1, .int .i64 r2, .int .i64 r3, .int .i64 r4]) ∧ Below w.heap.size w w' := by
 have hu24 := Try.underlying24
 have HB := Aside0.mk (Below.refl w.heap.size w)
 have H : (if a0 = 10 then (if a2_0 > 0 then (if a2_1 = 0 then (none) else (if a2_0 = 0 then (none) else ((spec_l2Ends.f k (wrap64 (Int.tdiv a1_0 a2_1)) (wrap64 (Int.tdiv a1_1 a2_0))).bind fun bt458 => (some (bt458.1, bt458.2.1, bt458.2.2.1, bt458.2.2.2))))) else ((spec_l2Ends.f k 0 a1_1).bind fun bt462 => (some (bt462.1, bt462.2.1, bt462.2.2.1, bt462.2.2.2)))) else (if a2_0 > 0 then (spec_l2Parts.j0 k (decide (a1_1 < a2_0)) a1_0 a1_1 a1_2 a1_3 a2_0 a2_1 a2_2 a2_3) else (spec_l2Parts.j0 k false a1_0 a1_1 a1_2 a1_3 a2_0 a2_1 a2_2 a2_3))) = some (r1, r2, r3, r4) := h
 clear h
 by_cases c4 : a0 = 10
 ·rw [if_pos c4] at H
  have c4b0 : (a0 == 10) = true := beq_iff_eq.mpr c4
  have c4b1 : (a0 != 10) = false := bne_eq_false_iff_eq.mpr c4
  clear c4
  by_cases c5 : a2_0 > 0
  ·rw [if_pos c5] at H
   have c5b0 : decide (0 < a2_0) = true := decide_eq_true c5
   clear c5
   by_cases c6 : a2_1 = 0
   ·rw [if_pos c6] at H
    exact absurd H (by simp)
   ·rw [if_neg c6] at H
    have c6b0 : (a2_1 == 0) = false := beq_eq_false_iff_ne.mpr c6
    have c6b1 : (a2_1 != 0) = true := bne_iff_ne.mpr c6
    by_cases c7 : a2_0 = 0
    ·rw [if_pos c7] at H
     exact absurd H (by simp)
    ·rw [if_neg c7] at H
     have c7b0 : (a2_0 == 0) = false := beq_eq_false_iff_ne.mpr c7
     have c7b1 : (a2_0 != 0) = true := bne_iff_ne.mpr c7
     replace H := Option.bind_eq_some_iff.mp H
     obtain ⟨⟨t458, t459, t460, t461⟩, A80, H⟩ := H
     try dsimp only at H
     have A8 := Aside0.mk A80
     clear A80
     simp only [Option.some.injEq, Prod.mk.injEq] at H
     obtain ⟨rfl, rfl, rfl, rfl⟩ := H
     go_enter Try.func55, Try.ntmps55
     try go_wp2_with (first | ((with_reducible refine gate_dst (N := 4) rfl ?_); refine be 4 #[.int .i64 a1_0, .int .i64 a1_1, .int .i64 a1_2, .int .i64 a1_3] 24 ?_; intro gb455 hg w9 hbox hb; have BK455 := Aside0.mk hbox; have GW455 := zW hg; replace HB := zS hb; have GE455 := GW455; clear hb hbox hg) | ((with_reducible refine gate_dst (N := 5) rfl ?_); refine be 5 #[.int .i64 a2_0, .int .i64 a2_1, .int .i64 a2_2, .int .i64 a2_3] 24 ?_; intro gb456 hg w10 hbox hb; have BK456 := Aside0.mk hbox; have GW456 := zW hg; replace HB := zS hb; have GE456 := GW456; have NB455_456 := zl BK455 hg rfl; have NB456_455 := zg BK455 hg rfl; replace BK455 := zb BK455 hb rfl; clear hb hbox hg) | ((with_reducible refine gate_dst (N := 6) rfl ?_); refine be 6 #[.int .i64 0, .int .i64 0, .int .i64 0, .int .i64 0] 24 ?_; intro gb457 hg w11 hbox hb; have BK457 := Aside0.mk hbox; have GW457 := zW hg; replace HB := zS hb; have GE457 := GW457; have NB455_457 := zl BK455 hg rfl; have NB457_455 := zg BK455 hg rfl; replace BK455 := zb BK455 hb rfl; have NB456_457 := zl BK456 hg rfl; have NB457_456 := zg BK456 hg rfl; replace BK456 := zb BK456 hb rfl; clear hb hbox hg; have hnb12 := NB456_455.out; have hnc12 := NB455_456.out; have hnb13 := NB456_457.out; have hnc13 := NB457_456.out; obtain ⟨hcz14_0, hcz14_1, hcz14_2, hcz14_3, hfz14_0, hfz14_1, hfz14_2, hfz14_3⟩ := zc4 BK456))
     replace BK455 := Aside0.mk (blk_drew BK455.out)
     replace BK456 := Aside0.mk (blk_drew BK456.out)
     replace BK457 := Aside0.mk (blk_drew BK457.out)
     replace HB := Aside0.mk (below_drew1 HB.out)
     refine start_ (n := 12) (S := fun w' => w'.cell? ⟨gb455, 0, none⟩ = some (.int .i64 a1_0) ∧ w'.cell? ⟨gb455, 1, none⟩ = some (.int .i64 a1_1) ∧ w'.cell? ⟨gb455, 2, none⟩ = some (.int .i64 a1_2) ∧ w'.cell? ⟨gb455, 3, none⟩ = some (.int .i64 a1_3) ∧ w'.cell? ⟨gb456, 0, none⟩ = some (.int .i64 a2_0) ∧ w'.cell? ⟨gb456, 1, none⟩ = some (.int .i64 a2_1) ∧ w'.cell? ⟨gb456, 2, none⟩ = some (.int .i64 a2_2) ∧ w'.cell? ⟨gb456, 3, none⟩ = some (.int .i64 a2_3)) (ds := []) #[false, false, false, false, false, false, false, false, false, false, false, false] (by kernel_rfl) rfl rfl ⟨(blk_cell BK455.out 0).trans rfl, (blk_cell BK455.out 1).trans rfl, (blk_cell BK455.out 2).trans rfl, (blk_cell BK455.out 3).trans rfl, (blk_cell BK456.out 0).trans rfl, (blk_cell BK456.out 1).trans rfl, (blk_cell BK456.out 2).trans rfl, (blk_cell BK456.out 3).trans rfl⟩ (fun hHeld => ?_); refine with_tabW spec_l2Parts.tab3 spec_l2Parts.bits3 (fun HT_ HW_ => ?_)
     generalize w11.drew = w15 at BK455 BK456 BK457 HB hHeld ⊢
     refine pz 0 12 ?_
     refine pz 2 14 ?_
     refine pz 5 17 ?_
     refine pz 7 19 ?_
     refine tz 1 13 ?_
     refine tz 3 15 ?_
     refine pz 4 16 ?_
     refine tz 6 18 ?_
     refine tz 8 20 ?_
     refine pz 9 21 ?_
     refine oz 10 22 fun K hK => ?_
     refine gz Try.func37 #[.int .i64 (wrap64 (Int.tdiv a1_0 a2_1)), .int .i64 (wrap64 (Int.tdiv a1_1 a2_0))] ?_
     with_reducible refine (spec_l2Ends.calls k (wrap64 (Int.tdiv a1_0 a2_1)) (wrap64 (Int.tdiv a1_1 a2_0)) t458 t459 t460 t461 _ A8.out).mono ?_
     rintro e w16 ⟨rfl, hb⟩
     refine ⟨_, rfl, ?_⟩
     replace BK455 := zb BK455 hb rfl
     replace BK456 := zb BK456 hb rfl
     replace BK457 := zb BK457 hb rfl
     replace HB := zS hb
     try clear hb
     refine hK.out _ _ ⟨(blk_cell BK455.out 0).trans rfl, (blk_cell BK455.out 1).trans rfl, (blk_cell BK455.out 2).trans rfl, (blk_cell BK455.out 3).trans rfl, (blk_cell BK456.out 0).trans rfl, (blk_cell BK456.out 1).trans rfl, (blk_cell BK456.out 2).trans rfl, (blk_cell BK456.out 3).trans rfl⟩ (fun hHeld => ?_)
     clear hK K
     refine nz ?_
     refine oN 11 fun K hK => ?_
     have hs17 : w16.cell? ⟨gb457, 0, none⟩ = some (.int .i64 0) := (blk_cell BK457.out 0).trans rfl
     have hfs17 := blk_frozen BK457.out 0
     have hns17_0 := NB455_457.out
     have hns17_1 := NB456_457.out
     have hms17_0 := NB457_455.out
     have hms17_1 := NB457_456.out
     have hs18 : w16.cell? ⟨gb457, 1, none⟩ = some (.int .i64 0) := (blk_cell BK457.out 1).trans rfl
     have hfs18 := blk_frozen BK457.out 1
     have hns18_0 := NB455_457.out
     have hns18_1 := NB456_457.out
     have hms18_0 := NB457_455.out
     have hms18_1 := NB457_456.out
     have hs19 : w16.cell? ⟨gb457, 2, none⟩ = some (.int .i64 0) := (blk_cell BK457.out 2).trans rfl
     have hfs19 := blk_frozen BK457.out 2
     have hns19_0 := NB455_457.out
     have hns19_1 := NB456_457.out
     have hms19_0 := NB457_455.out
     have hms19_1 := NB457_456.out
     have hs20 : w16.cell? ⟨gb457, 3, none⟩ = some (.int .i64 0) := (blk_cell BK457.out 3).trans rfl
     have hfs20 := blk_frozen BK457.out 3
     have hns20_0 := NB455_457.out
     have hns20_1 := NB456_457.out
     have hms20_0 := NB457_455.out
     have hms20_1 := NB457_456.out
     refine skip_ (w1 := ?_) (by rfl) rfl ?_ ?_
     rotate_left
     ·go_simp
      rfl
     refine hK.out _ _ ⟨((cell_far (p := ⟨gb457, _, none⟩) NB455_457.out _).trans (((cell_far (p := ⟨gb457, _, none⟩) NB455_457.out _).trans (((cell_far (p := ⟨gb457, _, none⟩) NB455_457.out _).trans (((cell_far (p := ⟨gb457, _, none⟩) NB455_457.out _).trans (hHeld.1)))))))), ((cell_far (p := ⟨gb457, _, none⟩) NB455_457.out _).trans (((cell_far (p := ⟨gb457, _, none⟩) NB455_457.out _).trans (((cell_far (p := ⟨gb457, _, none⟩) NB455_457.out _).trans (((cell_far (p := ⟨gb457, _, none⟩) NB455_457.out _).trans (hHeld.2.1)))))))), ((cell_far (p := ⟨gb457, _, none⟩) NB455_457.out _).trans (((cell_far (p := ⟨gb457, _, none⟩) NB455_457.out _).trans (((cell_far (p := ⟨gb457, _, none⟩) NB455_457.out _).trans (((cell_far (p := ⟨gb457, _, none⟩) NB455_457.out _).trans (hHeld.2.2.1)))))))), ((cell_far (p := ⟨gb457, _, none⟩) NB455_457.out _).trans (((cell_far (p := ⟨gb457, _, none⟩) NB455_457.out _).trans (((cell_far (p := ⟨gb457, _, none⟩) NB455_457.out _).trans (((cell_far (p := ⟨gb457, _, none⟩) NB455_457.out _).trans (hHeld.2.2.2.1)))))))), ((cell_far (p := ⟨gb457, _, none⟩) NB456_457.out _).trans (((cell_far (p := ⟨gb457, _, none⟩) NB456_457.out _).trans (((cell_far (p := ⟨gb457, _, none⟩) NB456_457.out _).trans (((cell_far (p := ⟨gb457, _, none⟩) NB456_457.out _).trans (hHeld.2.2.2.2.1)))))))), ((cell_far (p := ⟨gb457, _, none⟩) NB456_457.out _).trans (((cell_far (p := ⟨gb457, _, none⟩) NB456_457.out _).trans (((cell_far (p := ⟨gb457, _, none⟩) NB456_457.out _).trans (((cell_far (p := ⟨gb457, _, none⟩) NB456_457.out _).trans (hHeld.2.2.2.2.2.1)))))))), ((cell_far (p := ⟨gb457, _, none⟩) NB456_457.out _).trans (((cell_far (p := ⟨gb457, _, none⟩) NB456_457.out _).trans (((cell_far (p := ⟨gb457, _, none⟩) NB456_457.out _).trans (((cell_far (p := ⟨gb457, _, none⟩) NB456_457.out _).trans (hHeld.2.2.2.2.2.2.1)))))))), ((cell_far (p := ⟨gb457, _, none⟩) NB456_457.out _).trans (((cell_far (p := ⟨gb457, _, none⟩) NB456_457.out _).trans (((cell_far (p := ⟨gb457, _, none⟩) NB456_457.out _).trans (((cell_far (p := ⟨gb457, _, none⟩) NB456_457.out _).trans (hHeld.2.2.2.2.2.2.2))))))))⟩ (fun hHeld => ?_)
     clear hK K
     refine done_ (done_of HT_.out (by kernel_rfl)) ?_
     try go_wp2
     refine bodyPost_ret (results_cell_row rfl _ _ gb457 24 #[.int .i64 t458, .int .i64 t459, .int .i64 t460, .int .i64 t461] (0, 0) _ rfl (by refine bq ?_; refine blk_put (cs := #[.int .i64 t458, .int .i64 t459, .int .i64 t460, .int .i64 0]) ?_ 3 _ rfl; refine bq ?_; refine blk_put (cs := #[.int .i64 t458, .int .i64 t459, .int .i64 0, .int .i64 0]) ?_ 2 _ rfl; refine bq ?_; refine blk_put (cs := #[.int .i64 t458, .int .i64 0, .int .i64 0, .int .i64 0]) ?_ 1 _ rfl; refine bq ?_; refine blk_put (cs := #[.int .i64 0, .int .i64 0, .int .i64 0, .int .i64 0]) ?_ 0 _ rfl; exact bq BK457.out) Try.underlying24 rfl (by kernel_rfl)) rfl ?_
     exact ⟨zR, zB⟩
  ·rw [if_neg c5] at H
   have c5b0 : decide (0 < a2_0) = false := decide_eq_false c5
   clear c5
   replace H := Option.bind_eq_some_iff.mp H
   obtain ⟨⟨t462, t463, t464, t465⟩, A210, H⟩ := H
   try dsimp only at H
   have A21 := Aside0.mk A210
   clear A210
   simp only [Option.some.injEq, Prod.mk.injEq] at H
   obtain ⟨rfl, rfl, rfl, rfl⟩ := H
   go_enter Try.func55, Try.ntmps55
   go_wp2_with (first | ((with_reducible refine gate_dst (N := 4) rfl ?_); refine be 4 #[.int .i64 a1_0, .int .i64 a1_1, .int .i64 a1_2, .int .i64 a1_3] 24 ?_; intro gb455 hg w22 hbox hb; have BK455 := Aside0.mk hbox; have GW455 := zW hg; replace HB := zS hb; have GE455 := GW455; clear hb hbox hg) | ((with_reducible refine gate_dst (N := 5) rfl ?_); refine be 5 #[.int .i64 a2_0, .int .i64 a2_1, .int .i64 a2_2, .int .i64 a2_3] 24 ?_; intro gb456 hg w23 hbox hb; have BK456 := Aside0.mk hbox; have GW456 := zW hg; replace HB := zS hb; have GE456 := GW456; have NB455_456 := zl BK455 hg rfl; have NB456_455 := zg BK455 hg rfl; replace BK455 := zb BK455 hb rfl; clear hb hbox hg) | ((with_reducible refine gate_dst (N := 6) rfl ?_); refine be 6 #[.int .i64 0, .int .i64 0, .int .i64 0, .int .i64 0] 24 ?_; intro gb457 hg w24 hbox hb; have BK457 := Aside0.mk hbox; have GW457 := zW hg; replace HB := zS hb; have GE457 := GW457; have NB455_457 := zl BK455 hg rfl; have NB457_455 := zg BK455 hg rfl; replace BK455 := zb BK455 hb rfl; have NB456_457 := zl BK456 hg rfl; have NB457_456 := zg BK456 hg rfl; replace BK456 := zb BK456 hb rfl; clear hb hbox hg; have hnb25 := NB456_455.out; have hnc25 := NB455_456.out; have hnb26 := NB456_457.out; have hnc26 := NB457_456.out; obtain ⟨hcz27_0, hcz27_1, hcz27_2, hcz27_3, hfz27_0, hfz27_1, hfz27_2, hfz27_3⟩ := zc4 BK456; have hnb28 := NB455_457.out; have hnc28 := NB457_455.out; obtain ⟨hcz29_0, hcz29_1, hcz29_2, hcz29_3, hfz29_0, hfz29_1, hfz29_2, hfz29_3⟩ := zc4 BK455) | ((with_reducible refine gate_callee (f := 37) rfl ?_); refine gl 25 Try.func37 #[.int .i64 0, .int .i64 a1_1] ?_; (with_reducible refine (spec_l2Ends.calls k 0 a1_1 t462 t463 t464 t465 _ A21.out).mono ?_); rintro e w30 ⟨rfl, hb⟩; refine ⟨_, rfl, ?_⟩; replace BK455 := zb BK455 hb rfl; replace BK456 := zb BK456 hb rfl; replace BK457 := zb BK457 hb rfl; replace HB := zS hb; try clear hb; obtain ⟨hcz31_0, hcz31_1, hcz31_2, hcz31_3, hfz31_0, hfz31_1, hfz31_2, hfz31_3⟩ := zc4 BK457))
   refine bodyPost_ret (results_cell_row rfl _ _ gb457 24 #[.int .i64 t462, .int .i64 t463, .int .i64 t464, .int .i64 t465] (0, 0) _ rfl (by refine bq ?_; refine blk_put (cs := #[.int .i64 t462, .int .i64 t463, .int .i64 t464, .int .i64 0]) ?_ 3 _ rfl; refine bq ?_; refine blk_put (cs := #[.int .i64 t462, .int .i64 t463, .int .i64 0, .int .i64 0]) ?_ 2 _ rfl; refine bq ?_; refine blk_put (cs := #[.int .i64 t462, .int .i64 0, .int .i64 0, .int .i64 0]) ?_ 1 _ rfl; refine bq ?_; refine blk_put (cs := #[.int .i64 0, .int .i64 0, .int .i64 0, .int .i64 0]) ?_ 0 _ rfl; exact bq BK457.out) Try.underlying24 rfl (by kernel_rfl)) rfl ?_
   exact ⟨zR, zB⟩
 ·rw [if_neg c4] at H
  have c4b0 : (a0 == 10) = false := beq_eq_false_iff_ne.mpr c4
  have c4b1 : (a0 != 10) = true := bne_iff_ne.mpr c4
  have HC32 := Aside0.mk H
  clear H
  go_enter Try.func55, Try.ntmps55
  go_upto_region 5 with (first | ((with_reducible refine gate_dst (N := 4) rfl ?_); refine be 4 #[.int .i64 a1_0, .int .i64 a1_1, .int .i64 a1_2, .int .i64 a1_3] 24 ?_; intro gb455 hg w33 hbox hb; have BK455 := Aside0.mk hbox; have GW455 := zW hg; replace HB := zS hb; have GE455 := GW455; clear hb hbox hg) | ((with_reducible refine gate_dst (N := 5) rfl ?_); refine be 5 #[.int .i64 a2_0, .int .i64 a2_1, .int .i64 a2_2, .int .i64 a2_3] 24 ?_; intro gb456 hg w34 hbox hb; have BK456 := Aside0.mk hbox; have GW456 := zW hg; replace HB := zS hb; have GE456 := GW456; have NB455_456 := zl BK455 hg rfl; have NB456_455 := zg BK455 hg rfl; replace BK455 := zb BK455 hb rfl; clear hb hbox hg) | ((with_reducible refine gate_dst (N := 6) rfl ?_); refine be 6 #[.int .i64 0, .int .i64 0, .int .i64 0, .int .i64 0] 24 ?_; intro gb457 hg w35 hbox hb; have BK457 := Aside0.mk hbox; have GW457 := zW hg; replace HB := zS hb; have GE457 := GW457; have NB455_457 := zl BK455 hg rfl; have NB457_455 := zg BK455 hg rfl; replace BK455 := zb BK455 hb rfl; have NB456_457 := zl BK456 hg rfl; have NB457_456 := zg BK456 hg rfl; replace BK456 := zb BK456 hb rfl; clear hb hbox hg))
  (try simp only [Act.put, List.setIfInBounds_toArray, List.set_cons_zero, List.set_cons_succ])
  go_cut [35] (fun v35 wc => ∃ (kq : Nat) (x35_31 : Bool), v35 = .bool x35_31 ∧ Aside0 (spec_l2Parts.j0 kq x35_31 a1_0 a1_1 a1_2 a1_3 a2_0 a2_1 a2_2 a2_3 = some (r1, r2, r3, r4)) ∧ Aside0 (kq ≤ k) ∧ Aside0 (wc.heap[gb455]? = some (.cells #[.int .i64 a1_0, .int .i64 a1_1, .int .i64 a1_2, .int .i64 a1_3] 24 (0, 0))) ∧ Aside0 (wc.heap[gb456]? = some (.cells #[.int .i64 a2_0, .int .i64 a2_1, .int .i64 a2_2, .int .i64 a2_3] 24 (0, 0))) ∧ Aside0 (wc.heap[gb457]? = some (.cells #[.int .i64 0, .int .i64 0, .int .i64 0, .int .i64 0] 24 (0, 0))) ∧ Aside0 (Below w.heap.size w wc))
  case first =>
   have H := HC32.out
   clear HC32
   by_cases c36 : a2_0 > 0
   ·rw [if_pos c36] at H
    have c36b0 : decide (0 < a2_0) = true := decide_eq_true c36
    clear c36
    (first | rw [c36b0] | (simp only [i64_w, i32_w]; rw [c36b0]) | skip)
    have H' := Aside0.mk H
    clear H
    have hnb37 := NB456_455.out
    have hnc37 := NB455_456.out
    have hnb38 := NB456_457.out
    have hnc38 := NB457_456.out
    obtain ⟨hcz39_0, hcz39_1, hcz39_2, hcz39_3, hfz39_0, hfz39_1, hfz39_2, hfz39_3⟩ := zc4 BK456
    have hnb40 := NB455_457.out
    have hnc40 := NB457_455.out
    obtain ⟨hcz41_0, hcz41_1, hcz41_2, hcz41_3, hfz41_0, hfz41_1, hfz41_2, hfz41_3⟩ := zc4 BK455
    go_wp2
    go_meet
    case rel => exact ⟨_, (decide (a1_1 < a2_0)), (by first | rfl | (simp; done) | (simp [*]; done)), H', ⟨by first | omega | exact Nat.le_refl _⟩, ⟨by exact bq BK455.out⟩, ⟨by exact bq BK456.out⟩, ⟨by exact bq BK457.out⟩, ⟨zB⟩⟩
   ·rw [if_neg c36] at H
    have c36b0 : decide (0 < a2_0) = false := decide_eq_false c36
    clear c36
    (first | rw [c36b0] | (simp only [i64_w, i32_w]; rw [c36b0]) | skip)
    have H' := Aside0.mk H
    clear H
    have hnb42 := NB456_455.out
    have hnc42 := NB455_456.out
    have hnb43 := NB456_457.out
    have hnc43 := NB457_456.out
    obtain ⟨hcz44_0, hcz44_1, hcz44_2, hcz44_3, hfz44_0, hfz44_1, hfz44_2, hfz44_3⟩ := zc4 BK456
    go_wp2
    go_meet
    case rel => exact ⟨_, (false), (by first | rfl | (simp; done) | (simp [*]; done)), H', ⟨by first | omega | exact Nat.le_refl _⟩, ⟨by exact bq BK455.out⟩, ⟨by exact bq BK456.out⟩, ⟨by exact bq BK457.out⟩, ⟨zB⟩⟩
  case rest =>
   clear HC32
   try clear c1
   try clear c2
   try clear p2
   try clear c3
   try clear c4
   try clear c4b0
   try clear c4b1
   try clear c5
   try clear c5b0
   try clear c6
   try clear c6b0
   try clear c6b1
   try clear p6
   try clear c7
   try clear c7b0
   try clear c7b1
   try clear c12
   try clear c13
   try clear c25
   try clear c26
   try clear c28
   try clear c36
   try clear c36b0
   try clear c37
   try clear c38
   try clear c40
   try clear c42
   try clear c43
   try clear hcz14_0 hcz14_1 hcz14_2 hcz14_3 hfz14_0 hfz14_1 hfz14_2 hfz14_3
   try clear hcz27_0 hcz27_1 hcz27_2 hcz27_3 hfz27_0 hfz27_1 hfz27_2 hfz27_3
   try clear hcz29_0 hcz29_1 hcz29_2 hcz29_3 hfz29_0 hfz29_1 hfz29_2 hfz29_3
   try clear hcz31_0 hcz31_1 hcz31_2 hcz31_3 hfz31_0 hfz31_1 hfz31_2 hfz31_3
   try clear hcz39_0 hcz39_1 hcz39_2 hcz39_3 hfz39_0 hfz39_1 hfz39_2 hfz39_3
   try clear hcz41_0 hcz41_1 hcz41_2 hcz41_3 hfz41_0 hfz41_1 hfz41_2 hfz41_3
   try clear hcz44_0 hcz44_1 hcz44_2 hcz44_3 hfz44_0 hfz44_1 hfz44_2 hfz44_3
   obtain ⟨kq, x35_31, rfl, HA, HJ31, BK455, BK456, BK457, HB⟩ := hcut
   cases kq with
   | zero => exact absurd HA.out (by simp [spec_l2Parts.j0])
   | succ kj31 =>
    have H := HA.out
    clear HA
    simp only [spec_l2Parts.j0] at H
    by_cases c45 : x35_31 = true
    ·subst c45
     rw [if_pos rfl] at H
     simp only [Option.some.injEq, Prod.mk.injEq] at H
     obtain ⟨rfl, rfl, rfl, rfl⟩ := H
     have hnb46 := NB455_456.out
     have hnc46 := NB456_455.out
     have hnb47 := NB455_457.out
     have hnc47 := NB457_455.out
     obtain ⟨hcz48_0, hcz48_1, hcz48_2, hcz48_3, hfz48_0, hfz48_1, hfz48_2, hfz48_3⟩ := zc4 BK455
     have hnb49 := NB457_456.out
     have hnc49 := NB456_457.out
     obtain ⟨hcz50_0, hcz50_1, hcz50_2, hcz50_3, hfz50_0, hfz50_1, hfz50_2, hfz50_3⟩ := zc4 BK457
     go_wp2
     refine bodyPost_ret (results_cell_row rfl _ _ gb457 24 #[.int .i64 a1_0, .int .i64 a1_1, .int .i64 a1_2, .int .i64 a1_3] (0, 0) _ rfl (by refine bq ?_; refine blk_put (cs := #[.int .i64 a1_0, .int .i64 a1_1, .int .i64 a1_2, .int .i64 0]) ?_ 3 _ rfl; refine bq ?_; refine blk_put (cs := #[.int .i64 a1_0, .int .i64 a1_1, .int .i64 0, .int .i64 0]) ?_ 2 _ rfl; refine bq ?_; refine blk_put (cs := #[.int .i64 a1_0, .int .i64 0, .int .i64 0, .int .i64 0]) ?_ 1 _ rfl; refine bq ?_; refine blk_put (cs := #[.int .i64 0, .int .i64 0, .int .i64 0, .int .i64 0]) ?_ 0 _ rfl; exact bq BK457.out) Try.underlying24 rfl (by kernel_rfl)) rfl ?_
     exact ⟨zR, zB⟩
    ·replace c45 := Bool.eq_false_iff.mpr c45
     subst c45
     rw [if_neg (show ¬ (false = true) by decide)] at H
     have HC51 := Aside0.mk H
     clear H
     go_upto_region 7 with (fail)
     go_cut [47] (fun v47 wc => ∃ (kq : Nat) (x47_50 : Bool), v47 = .bool x47_50 ∧ Aside0 (spec_l2Parts.j1 kq x47_50 a1_0 a1_1 a1_2 a1_3 a2_0 a2_1 a2_2 a2_3 = some (r1, r2, r3, r4)) ∧ Aside0 (kq ≤ kj31) ∧ Aside0 (wc.heap[gb455]? = some (.cells #[.int .i64 a1_0, .int .i64 a1_1, .int .i64 a1_2, .int .i64 a1_3] 24 (0, 0))) ∧ Aside0 (wc.heap[gb456]? = some (.cells #[.int .i64 a2_0, .int .i64 a2_1, .int .i64 a2_2, .int .i64 a2_3] 24 (0, 0))) ∧ Aside0 (wc.heap[gb457]? = some (.cells #[.int .i64 0, .int .i64 0, .int .i64 0, .int .i64 0] 24 (0, 0))) ∧ Aside0 (Below w.heap.size w wc))
     case first =>
      have H := HC51.out
      clear HC51
      by_cases c52 : a2_0 > 0
      ·rw [if_pos c52] at H
       have c52b0 : decide (0 < a2_0) = true := decide_eq_true c52
       clear c52
       (first | rw [c52b0] | (simp only [i64_w, i32_w]; rw [c52b0]) | skip)
       have H' := Aside0.mk H
       clear H
       have hnb53 := NB456_455.out
       have hnc53 := NB455_456.out
       have hnb54 := NB456_457.out
       have hnc54 := NB457_456.out
       obtain ⟨hcz55_0, hcz55_1, hcz55_2, hcz55_3, hfz55_0, hfz55_1, hfz55_2, hfz55_3⟩ := zc4 BK456
       have hnb56 := NB455_457.out
       have hnc56 := NB457_455.out
       obtain ⟨hcz57_0, hcz57_1, hcz57_2, hcz57_3, hfz57_0, hfz57_1, hfz57_2, hfz57_3⟩ := zc4 BK455
       go_wp2
       go_meet
       case rel => exact ⟨_, (decide ((wrap64 (a2_1 - 1)) < a1_1)), (by first | rfl | (simp; done) | (simp [*]; done)), H', ⟨by have := HJ31.out; first | omega | exact Nat.le_refl _⟩, ⟨by exact bq BK455.out⟩, ⟨by exact bq BK456.out⟩, ⟨by exact bq BK457.out⟩, ⟨zB⟩⟩
      ·rw [if_neg c52] at H
       have c52b0 : decide (0 < a2_0) = false := decide_eq_false c52
       clear c52
       (first | rw [c52b0] | (simp only [i64_w, i32_w]; rw [c52b0]) | skip)
       have H' := Aside0.mk H
       clear H
       have hnb58 := NB456_455.out
       have hnc58 := NB455_456.out
       have hnb59 := NB456_457.out
       have hnc59 := NB457_456.out
       obtain ⟨hcz60_0, hcz60_1, hcz60_2, hcz60_3, hfz60_0, hfz60_1, hfz60_2, hfz60_3⟩ := zc4 BK456
       go_wp2
       go_meet
       case rel => exact ⟨_, (false), (by first | rfl | (simp; done) | (simp [*]; done)), H', ⟨by have := HJ31.out; first | omega | exact Nat.le_refl _⟩, ⟨by exact bq BK455.out⟩, ⟨by exact bq BK456.out⟩, ⟨by exact bq BK457.out⟩, ⟨zB⟩⟩
     case rest =>
      clear HC51
      try clear c1
      try clear c2
      try clear p2 p2
      try clear c3
      try clear c4
      try clear c4b0
      try clear c4b1
      try clear c5
      try clear c5b0
      try clear c6
      try clear c6b0
      try clear c6b1
      try clear p6 p6
      try clear c7
      try clear c7b0
      try clear c7b1
      try clear c12
      try clear c13
      try clear c25
      try clear c26
      try clear c28
      try clear c36
      try clear c36b0
      try clear c37
      try clear c38
      try clear c40
      try clear c42
      try clear c43
      try clear c45
      try clear c46
      try clear c47
      try clear c49
      try clear c52
      try clear c52b0
      try clear c53
      try clear c54
      try clear c55
      try clear c56
      try clear c58
      try clear c59
      try clear hcz14_0 hcz14_1 hcz14_2 hcz14_3 hfz14_0 hfz14_1 hfz14_2 hfz14_3
      try clear hcz27_0 hcz27_1 hcz27_2 hcz27_3 hfz27_0 hfz27_1 hfz27_2 hfz27_3
      try clear hcz29_0 hcz29_1 hcz29_2 hcz29_3 hfz29_0 hfz29_1 hfz29_2 hfz29_3
      try clear hcz31_0 hcz31_1 hcz31_2 hcz31_3 hfz31_0 hfz31_1 hfz31_2 hfz31_3
      try clear hcz39_0 hcz39_1 hcz39_2 hcz39_3 hfz39_0 hfz39_1 hfz39_2 hfz39_3
      try clear hcz41_0 hcz41_1 hcz41_2 hcz41_3 hfz41_0 hfz41_1 hfz41_2 hfz41_3
      try clear hcz44_0 hcz44_1 hcz44_2 hcz44_3 hfz44_0 hfz44_1 hfz44_2 hfz44_3
      try clear hcz48_0 hcz48_1 hcz48_2 hcz48_3 hfz48_0 hfz48_1 hfz48_2 hfz48_3
      try clear hcz50_0 hcz50_1 hcz50_2 hcz50_3 hfz50_0 hfz50_1 hfz50_2 hfz50_3
      try clear hcz55_0 hcz55_1 hcz55_2 hcz55_3 hfz55_0 hfz55_1 hfz55_2 hfz55_3
      try clear hcz57_0 hcz57_1 hcz57_2 hcz57_3 hfz57_0 hfz57_1 hfz57_2 hfz57_3
      try clear hcz60_0 hcz60_1 hcz60_2 hcz60_3 hfz60_0 hfz60_1 hfz60_2 hfz60_3
      obtain ⟨kq, x47_50, rfl, HA, HJ50, BK455, BK456, BK457, HB⟩ := hcut
      cases kq with
      | zero => exact absurd HA.out (by simp [spec_l2Parts.j1])
      | succ kj50 =>
       have H := HA.out
       clear HA
       simp only [spec_l2Parts.j1] at H
       by_cases c61 : x47_50 = true
       ·subst c61
        rw [if_pos rfl] at H
        replace H := Option.bind_eq_some_iff.mp H
        obtain ⟨⟨t466, t467, t468, t469⟩, A620, H⟩ := H
        try dsimp only at H
        have A62 := Aside0.mk A620
        clear A620
        simp only [Option.some.injEq, Prod.mk.injEq] at H
        obtain ⟨rfl, rfl, rfl, rfl⟩ := H
        have hnb63 := NB456_455.out
        have hnc63 := NB455_456.out
        have hnb64 := NB456_457.out
        have hnc64 := NB457_456.out
        obtain ⟨hcz65_0, hcz65_1, hcz65_2, hcz65_3, hfz65_0, hfz65_1, hfz65_2, hfz65_3⟩ := zc4 BK456
        go_wp2_with (first | ((with_reducible refine gate_callee (f := 37) rfl ?_); refine gl 51 Try.func37 #[.int .i64 0, .int .i64 (wrap64 (a2_1 - 1))] ?_; (with_reducible refine (spec_l2Ends.calls kj50 0 (wrap64 (a2_1 - 1)) t466 t467 t468 t469 _ A62.out).mono ?_); rintro e w66 ⟨rfl, hb⟩; refine ⟨_, rfl, ?_⟩; replace BK455 := zb BK455 hb rfl; replace BK456 := zb BK456 hb rfl; replace BK457 := zb BK457 hb rfl; replace HB := zS hb; try clear hb; have hnb67 := NB457_455.out; have hnc67 := NB455_457.out; obtain ⟨hcz68_0, hcz68_1, hcz68_2, hcz68_3, hfz68_0, hfz68_1, hfz68_2, hfz68_3⟩ := zc4 BK457))
        refine bodyPost_ret (results_cell_row rfl _ _ gb457 24 #[.int .i64 t466, .int .i64 t467, .int .i64 t468, .int .i64 t469] (0, 0) _ rfl (by refine bq ?_; refine blk_put (cs := #[.int .i64 t466, .int .i64 t467, .int .i64 t468, .int .i64 0]) ?_ 3 _ rfl; refine bq ?_; refine blk_put (cs := #[.int .i64 t466, .int .i64 t467, .int .i64 0, .int .i64 0]) ?_ 2 _ rfl; refine bq ?_; refine blk_put (cs := #[.int .i64 t466, .int .i64 0, .int .i64 0, .int .i64 0]) ?_ 1 _ rfl; refine bq ?_; refine blk_put (cs := #[.int .i64 0, .int .i64 0, .int .i64 0, .int .i64 0]) ?_ 0 _ rfl; exact bq BK457.out) Try.underlying24 rfl (by kernel_rfl)) rfl ?_
        exact ⟨zR, zB⟩
       ·replace c61 := Bool.eq_false_iff.mpr c61
        subst c61
        rw [if_neg (show ¬ (false = true) by decide)] at H
        replace H := Option.bind_eq_some_iff.mp H
        obtain ⟨⟨t470, t471, t472, t473⟩, A690, H⟩ := H
        try dsimp only at H
        have A69 := Aside0.mk A690
        clear A690
        simp only [Option.some.injEq, Prod.mk.injEq] at H
        obtain ⟨rfl, rfl, rfl, rfl⟩ := H
        have hnb70 := NB455_456.out
        have hnc70 := NB456_455.out
        have hnb71 := NB455_457.out
        have hnc71 := NB457_455.out
        obtain ⟨hcz72_0, hcz72_1, hcz72_2, hcz72_3, hfz72_0, hfz72_1, hfz72_2, hfz72_3⟩ := zc4 BK455
        go_wp2_with (first | ((with_reducible refine gate_callee (f := 37) rfl ?_); refine gl 54 Try.func37 #[.int .i64 0, .int .i64 a1_1] ?_; (with_reducible refine (spec_l2Ends.calls kj50 0 a1_1 t470 t471 t472 t473 _ A69.out).mono ?_); rintro e w73 ⟨rfl, hb⟩; refine ⟨_, rfl, ?_⟩; replace BK455 := zb BK455 hb rfl; replace BK456 := zb BK456 hb rfl; replace BK457 := zb BK457 hb rfl; replace HB := zS hb; try clear hb; have hnb74 := NB457_456.out; have hnc74 := NB456_457.out; obtain ⟨hcz75_0, hcz75_1, hcz75_2, hcz75_3, hfz75_0, hfz75_1, hfz75_2, hfz75_3⟩ := zc4 BK457))
        refine bodyPost_ret (results_cell_row rfl _ _ gb457 24 #[.int .i64 t470, .int .i64 t471, .int .i64 t472, .int .i64 t473] (0, 0) _ rfl (by refine bq ?_; refine blk_put (cs := #[.int .i64 t470, .int .i64 t471, .int .i64 t472, .int .i64 0]) ?_ 3 _ rfl; refine bq ?_; refine blk_put (cs := #[.int .i64 t470, .int .i64 t471, .int .i64 0, .int .i64 0]) ?_ 2 _ rfl; refine bq ?_; refine blk_put (cs := #[.int .i64 t470, .int .i64 0, .int .i64 0, .int .i64 0]) ?_ 1 _ rfl; refine bq ?_; refine blk_put (cs := #[.int .i64 0, .int .i64 0, .int .i64 0, .int .i64 0]) ?_ 0 _ rfl; exact bq BK457.out) Try.underlying24 rfl (by kernel_rfl)) rfl ?_
        exact ⟨zR, zB⟩

end Go.Proofs.Ytdhijcfohbkpoaa.Q
